/-
  The rows of Texts, and Texts: what the program returns; under the stated bounds on lengths.
-/
import Derived.Test.YtijmaphbaibllaaMb
import Derived.Laws.Rows
import Derived.Deep.CutRange
import Derived.Deep.LoopGhost
import Derived.ChangeKeysEq
import Derived.Laws.Slices
import Derived.Test.YtijmaphbaibllaaWApart
import Derived.Maps.AppendAt

set_option linter.unusedVariables false
set_option linter.unusedSimpArgs false
set_option linter.unnecessarySimpa false
namespace Go.Proofs.Ytijmaphbaibllaa.Fl
open Go.RowKit Go.Shelf Go.Proofs.YtijmaphbaibllaaW.PrintWords

/-- A row's cells. -/
def rowC (l : List Int) : Array Value := (l.map (Value.int .i64)).toArray
theorem rowC_size (l : List Int) : (rowC l).size = l.length := by simp [rowC]
theorem rowC_set (l : List Int) (j : Nat) (x : Int) : (rowC l).setIfInBounds j (.int .i64 x) = rowC (l.set j x) := by
  apply Array.ext'
  simp [rowC, List.map_set]
theorem rowC_one (l : List Int) : (rowC l).all (·.oneCell') = true := by
  simp [rowC, Value.oneCell']
theorem row_cell {w : World} {B t : Nat} {l : List Int} (h : w.heap[B]? = some (.cells (rowC l) t (0, 0))) (j : Nat) (hj : j < l.length) : w.cell? ⟨B, j, none⟩ = some (.int .i64 (l.getD j 0)) := by
  rw [cell_of_row w B j _ t _ h]
  simp [rowC, hj]
theorem row_set {w : World} {B t : Nat} {l : List Int} (h : w.heap[B]? = some (.cells (rowC l) t (0, 0))) (j : Nat) (x : Int) : (w.setCell ⟨B, j, none⟩ (.int .i64 x)).heap[B]? = some (.cells (rowC (l.set j x)) t (0, 0)) := by
  rw [← rowC_set]; exact set_block h
theorem row_frozen {w : World} {B t : Nat} {l : List Int} (h : w.heap[B]? = some (.cells (rowC l) t (0, 0))) (j : Nat) : w.frozen? ⟨B, j, none⟩ = false := frozen_of_row w B j _ t h

theorem min_new (x y : Int) (W : World) : Calls Try.prog 116 #[.slice (some ⟨W.heap.size, 0, none⟩) 2 2] (W.alloc (.cells #[.int .i64 x, .int .i64 y] 3)) fun e w' => e = .returned (.int .i64 (min x y)) ∧ W.alloc (.cells #[.int .i64 x, .int .i64 y] 3) = w' :=
  min_calls x y _ _ 0 (by simp) (by simp)

theorem below_setRow {B : Nat} (w : World) {g : Nat} (cs : Array Value) (hg : B ≤ g) : Below B w (w.setRow g cs) :=
  ⟨rfl, rfl, rfl, by simp [World.setRow], fun k hk => setRow_other w g k cs (by omega)⟩

theorem min_newG (x y : Int) (W : World) (G : Nat) (hG : W.heap.size = G) : Calls Try.prog 116 #[.slice (some ⟨G, 0, none⟩) 2 2] (W.alloc (.cells #[.int .i64 x, .int .i64 y] 3)) fun e w' => e = .returned (.int .i64 (min x y)) ∧ W.alloc (.cells #[.int .i64 x, .int .i64 y] 3) = w' := by
  subst hG; exact min_new x y W
theorem tl_getD {r : ByteArray} {m : Nat} (h : m < r.size) : (tl r).getD m 0 = r[m] := by
  have h2 : m < r.data.toList.length := by rw [Array.length_toList]; exact h
  unfold tl
  rw [List.getD_eq_getElem?_getD, List.getElem?_eq_getElem h2, Option.getD_some, Array.getElem_toList]
  rfl

/-- What the row of nothing holds at k, by what it holds before. -/
def begunAt (r : Str) (k : Nat) (last : Int) : Int := if k ≤ r.length ∧ r.getD (k - 1) 0 = 32 then min 1048576 (last + 1) else 1048576
/-- The first k of the row of nothing; then zeros. -/
def begunTo (r : Str) : Nat → List Int
  | 0 => List.replicate 41 0
  | k + 1 => (begunTo r k).set (k + 1) (begunAt r (k + 1) ((begunTo r k).getD k 0))
def begunL (r : Str) : List Int := begunTo r 40
theorem begunTo_len (r : Str) : ∀ k, (begunTo r k).length = 41
  | 0 => by simp [begunTo]
  | k + 1 => by simp [begunTo, begunTo_len r k]
theorem begunTo_bound (r : Str) : ∀ k j, 0 ≤ (begunTo r k).getD j 0 ∧ (begunTo r k).getD j 0 ≤ 1048576
  | 0, j => by
    rw [begunTo, List.getD_eq_getElem?_getD, List.getElem?_replicate]
    split <;> simp
  | k + 1, j => by
    rw [begunTo, List.getD_eq_getElem?_getD, List.getElem?_set]
    split
    · split
      · have := begunTo_bound r k k
        simp only [Option.getD_some, begunAt]
        split
        · rw [Int.min_def]; split <;> omega
        · omega
      · simp
    · rw [← List.getD_eq_getElem?_getD]; exact begunTo_bound r k j

set_option maxRecDepth 100000 in
set_option maxHeartbeats 8000000 in
theorem begun_calls (A : Option Addr) (n c : Nat) (r : ByteArray) (e : Int) (w : World) (hr : r.size ≤ 40) : Calls Try.prog 123 #[.agg #[.slice A n c, .string r, .int .i64 e]] w fun e w' => e = .returned (.agg (rowC (begunL (tl r)))) ∧ Below w.heap.size w w' := by
  have hlen : ((r.size : Nat) : Int) ≤ 40 := by omega
  go_enter Try.func123, Try.ntmps123
  go_wp2
  go_loopw [3] (fun v3 wr => ∃ k m : Nat, Aside0 (k = m + 1) ∧ m ≤ 40 ∧ v3 = .int .i64 (k : Int) ∧ wr.heap[w.heap.size + 1]? = some (.cells (rowC (begunTo (tl r) m)) 160 (0, 0)) ∧ wr.heap[w.heap.size]? = some (.cells #[.slice A n c, .string r, .int .i64 e] 124 (0, 0)) ∧ Aside0 (Below w.heap.size w wr)) (fun v3 _ => 41 - (intOf v3).toNat)
  case atStart =>
    refine ⟨1, 0, ⟨rfl⟩, by omega, rfl, ?_, ?_, ⟨((Below.refl _ w).alloc (Nat.le_refl _) _).alloc (by simp) _⟩⟩
    · rw [show w.heap.size + 1 = (w.alloc (.cells #[.slice A n c, .string r, .int .i64 e] 124)).heap.size by simp]
      exact World.alloc_heap_new _ _
    · rw [Below.heap_alloc _ _ _ (by simp)]
      exact World.alloc_heap_new _ _
  case round =>
    obtain ⟨k, m, Hkm, hm, rfl, hrow, hbox, hB⟩ := hrel
    have hkm := Hkm.out
    have cbox : wr.cell? ⟨w.heap.size, 1, none⟩ = some (.string r) := by simp [World.cell?, hbox]
    have hl1 := begunTo_len (tl r) m
    by_cases hlt : k < 41
    · have hlt2 : (k : Int) < 41 := by omega
      have hge2 : (0 : Int) ≤ (k : Int) := by omega
      have cK := row_cell hrow k (by omega)
      have fK := row_frozen hrow k
      have cM := row_cell hrow m (by omega)
      have hw1 : IntKind.i64.wrap ((k : Int) - 1) = (m : Int) := by rw [IntWalk.i64_in _ (by omega)]; omega
      have hbd := begunTo_bound (tl r) m m
      have hmk : m ≠ k := by omega
      generalize (begunTo (tl r) m).getD k 0 = x at cK
      generalize hy : (begunTo (tl r) m).getD m 0 = y at cM hbd
      have Hy := Lib.hid hy
      have Hbd := Lib.hid hbd
      have Hrow := Lib.hid hrow
      have Hl1 := Lib.hid hl1
      clear hy hbd hkm hrow hl1
      have hbk : w.heap.size + 1 < wr.heap.size := lt_of_block Hrow.out
      by_cases hkr : k ≤ r.size
      · have hkr2 : (k : Int) ≤ (r.size : Int) := by omega
        have hmr : m < r.size := by have := Hkm.out; omega
        have hmr2 : (m : Int) < (r.size : Int) := by omega
        by_cases h32 : r[m] = 32
        · have hb : (((r[m]'hmr).toNat : Int) == 32) = true := by rw [h32]; rfl
          have hw2 : IntKind.i64.wrap (y + 1) = y + 1 := IntWalk.i64_in _ (by have := Hbd.out; omega)
          have Hv : Hid (begunTo (tl r) (m + 1) = (begunTo (tl r) m).set k (min 1048576 (y + 1))) := by
            show _ = _
            have := Hkm.out
            subst this
            rw [begunTo, Hy.out]
            unfold begunAt
            rw [if_pos ⟨by rw [tl_size]; exact hkr, by rw [Nat.add_sub_cancel, tl_getD hmr, h32]⟩]
          clear h32
          go_wp2_with (go_at_call 116; refine (min_newG _ _ _ _ (by simp [World.setCell])).mono ?_; rintro e w' ⟨rfl, rfl⟩)
          have hkv : begunTo (tl r) k = (begunTo (tl r) m).set k (min 1048576 (y + 1)) := by rw [← Hv.out, Hkm.out]
          exact ⟨⟨k + 1, k, ⟨rfl⟩, by omega, congrArg (Value.int .i64) (by omega), (Below.heap_alloc _ _ _ (by simp [World.setCell]; omega)).trans ((row_set (row_set Hrow.out k 1048576) k (min 1048576 (y + 1))).trans (by rw [List.set_set, hkv])), (Below.heap_alloc _ _ _ (by simp [World.setCell]; omega)).trans ((Below.heap_setCell _ _ _ _ (by simp)).trans ((Below.heap_setCell _ _ _ _ (by simp)).trans hbox)), ⟨((hB.out.setCell (p := ⟨w.heap.size + 1, k, none⟩) (Nat.le_succ _) _).setCell (p := ⟨w.heap.size + 1, k, none⟩) (Nat.le_succ _) _).alloc (by simp [World.setCell]; omega) _⟩⟩, by simp [intOf]; omega⟩
        · have hb : (((r[m]'hmr).toNat : Int) == 32) = false := by
            rw [beq_eq_false_iff_ne]
            intro hc
            exact h32 (UInt8.toNat_inj.1 (by have : ((r[m]'hmr).toNat : Int) = 32 := hc; exact Int.ofNat.inj this))
          have Hv : Hid (begunTo (tl r) (m + 1) = (begunTo (tl r) m).set k 1048576) := by
            show _ = _
            have := Hkm.out
            subst this
            rw [begunTo, Hy.out]
            unfold begunAt
            rw [if_neg (fun h => h32 (by have := h.2; rwa [Nat.add_sub_cancel, tl_getD hmr] at this))]
          clear h32
          go_wp2_with fail
          have hkv : begunTo (tl r) k = (begunTo (tl r) m).set k 1048576 := by rw [← Hv.out, Hkm.out]
          exact ⟨⟨k + 1, k, ⟨rfl⟩, by omega, congrArg (Value.int .i64) (by omega), (row_set Hrow.out k 1048576).trans (by rw [hkv]), (Below.heap_setCell _ _ _ _ (by simp)).trans hbox, ⟨hB.out.setCell (p := ⟨w.heap.size + 1, k, none⟩) (Nat.le_succ _) _⟩⟩, by simp [intOf]; omega⟩
      · have hkr2 : ¬ (k : Int) ≤ (r.size : Int) := by omega
        have Hv : Hid (begunTo (tl r) (m + 1) = (begunTo (tl r) m).set k 1048576) := by
          show _ = _
          have := Hkm.out
          subst this
          rw [begunTo, Hy.out]
          unfold begunAt
          rw [if_neg (fun h => hkr (by have := h.1; rwa [tl_size] at this))]
        go_wp2_with fail
        have hkv : begunTo (tl r) k = (begunTo (tl r) m).set k 1048576 := by rw [← Hv.out, Hkm.out]
        exact ⟨⟨k + 1, k, ⟨rfl⟩, by omega, congrArg (Value.int .i64) (by omega), (row_set Hrow.out k 1048576).trans (by rw [hkv]), (Below.heap_setCell _ _ _ _ (by simp)).trans hbox, ⟨hB.out.setCell (p := ⟨w.heap.size + 1, k, none⟩) (Nat.le_succ _) _⟩⟩, by simp [intOf]; omega⟩
    · have hm40 : m = 40 := by omega
      clear hkm
      have hlt2 : ¬ (k : Int) < 41 := by omega
      subst hm40
      have hl1 := begunTo_len (tl r) 40
      have hsz : (Try.prog.info? 160).map (·.size) = some (rowC (begunTo (tl r) 40)).size := by rw [rowC_size, hl1]; kernel_rfl
      obtain ⟨w9, hw9⟩ : ∃ w9, wr.setRow (w.heap.size + 1) (rowC (begunTo (tl r) 40)) = w9 := ⟨_, rfl⟩
      have h9 : w9.heap[w.heap.size + 1]? = some (.cells (rowC (begunTo (tl r) 40)) 160 (0, 0)) := by rw [← hw9]; exact setRow_heap wr _ _ _ _ _ hrow
      go_wp2_with (first
        | refine wpList_load_row rfl 160 _ rfl (w.heap.size + 1) rfl 160 _ (0, 0) _ hrow Try.underlying160 rfl hsz ?_
        | (refine wpList_store_row rfl 160 _ _ rfl (w.heap.size + 1) (rowC (begunTo (tl r) 40)) rfl rfl 160 _ hrow hsz rfl (rowC_one _) ?_; rw [hw9]))
      refine bodyPost_ret (results_cell_row rfl _ w9 (w.heap.size + 1) 160 _ (0, 0) _ rfl h9 Try.underlying160 rfl hsz) rfl ⟨rfl, ?_⟩
      rw [← hw9]
      exact hB.out.trans (below_setRow _ _ (Nat.le_succ _))

end Go.Proofs.Ytijmaphbaibllaa.Fl

set_option linter.unusedVariables false
set_option linter.unusedSimpArgs false
set_option linter.unnecessarySimpa false
namespace Go.Proofs.Ytijmaphbaibllaa.Fl
open Go.RowKit Go.Shelf Go.Proofs.YtijmaphbaibllaaW.PrintWords

def sc1 (rd : Str) (sg : UInt8) (k : Nat) : Bool := decide (0 < k) && rd.getD (k - 1) 0 == sg
def sc2 (rd : Str) (sg : UInt8) (k : Nat) : Bool := decide (1 < k) && sg == 45 && (rd.getD (k - 2) 0 == 46 && rd.getD (k - 1) 0 == 46)
def sc3 (rd : Str) (last sg : UInt8) (k : Nat) : Bool := decide (0 < k) && sg == 46 && last == 46 && rd.getD (k - 1) 0 == 45
def sc4 (rd : Str) (k : Nat) : Bool := decide (0 < k) && rd.getD (k - 1) 0 == 32
def sv1 (rd : Str) (r : List Int) (sg : UInt8) (k : Nat) : Int := bif sc1 rd sg k then min (r.getD k 0 + 1) (r.getD (k - 1) 0) else r.getD k 0 + 1
def sv2 (rd : Str) (r : List Int) (sg : UInt8) (k : Nat) : Int := bif sc2 rd sg k then min (sv1 rd r sg k) (r.getD (k - 2) 0 + 1) else sv1 rd r sg k
def sv3 (rd : Str) (r before : List Int) (last sg : UInt8) (k : Nat) : Int := bif sc3 rd last sg k then min (sv2 rd r sg k) (before.getD (k - 1) 0 + 1) else sv2 rd r sg k
def sv4 (rd : Str) (r before : List Int) (last sg : UInt8) (k : Nat) (prev : Int) : Int := bif sc4 rd k then min (sv3 rd r before last sg k) (prev + 1) else sv3 rd r before last sg k
/-- What the row after one more sign holds at k, by what it holds before. -/
def signAt (rd : Str) (r before : List Int) (last sg : UInt8) (k : Nat) (prev : Int) : Int := if rd.length < k then 1048576 else min (sv4 rd r before last sg k prev) 1048576
/-- The first k of the row after one more sign; then zeros. -/
def signTo (rd : Str) (r before : List Int) (last sg : UInt8) : Nat → List Int
  | 0 => List.replicate 41 0
  | k + 1 => (signTo rd r before last sg k).set k (signAt rd r before last sg k ((signTo rd r before last sg k).getD (k - 1) 0))
def signL (rd : Str) (r before : List Int) (last sg : UInt8) : List Int := signTo rd r before last sg 41

/-- A row's numbers are none below zero, and none above far. -/
def RowB (l : List Int) : Prop := l.length = 41 ∧ ∀ j, 0 ≤ l.getD j 0 ∧ l.getD j 0 ≤ 1048576

theorem begunL_B (r : Str) : RowB (begunL r) := ⟨begunTo_len r 40, begunTo_bound r 40⟩

theorem RowB.set {l : List Int} (h : RowB l) (k : Nat) (x : Int) (hx : 0 ≤ x ∧ x ≤ 1048576) : RowB (l.set k x) := by
  refine ⟨by rw [List.length_set]; exact h.1, fun j => ?_⟩
  rw [List.getD_eq_getElem?_getD, List.getElem?_set]
  split
  · split
    · exact hx
    · simp
  · rw [← List.getD_eq_getElem?_getD]; exact h.2 j

theorem RowB.zero : RowB (List.replicate 41 0) := ⟨by simp, fun j => by
  rw [List.getD_eq_getElem?_getD, List.getElem?_replicate]
  split <;> simp⟩

theorem sv_bound (rd : Str) {r before : List Int} (last sg : UInt8) (k : Nat) {prev : Int} (hr : RowB r) (hb : RowB before) (hp : 0 ≤ prev ∧ prev ≤ 1048576) :
    (0 ≤ sv1 rd r sg k ∧ sv1 rd r sg k ≤ 1048577) ∧ (0 ≤ sv2 rd r sg k ∧ sv2 rd r sg k ≤ 1048577) ∧ (0 ≤ sv3 rd r before last sg k ∧ sv3 rd r before last sg k ≤ 1048577) ∧ (0 ≤ sv4 rd r before last sg k prev ∧ sv4 rd r before last sg k prev ≤ 1048577) := by
  have h0 := hr.2 k
  have h1 := hr.2 (k - 1)
  have h2 := hr.2 (k - 2)
  have h3 := hb.2 (k - 1)
  have b1 : 0 ≤ sv1 rd r sg k ∧ sv1 rd r sg k ≤ 1048577 := by unfold sv1; cases sc1 rd sg k <;> simp only [cond_true, cond_false] <;> omega
  have b2 : 0 ≤ sv2 rd r sg k ∧ sv2 rd r sg k ≤ 1048577 := by unfold sv2; cases sc2 rd sg k <;> simp only [cond_true, cond_false] <;> omega
  have b3 : 0 ≤ sv3 rd r before last sg k ∧ sv3 rd r before last sg k ≤ 1048577 := by unfold sv3; cases sc3 rd last sg k <;> simp only [cond_true, cond_false] <;> omega
  have b4 : 0 ≤ sv4 rd r before last sg k prev ∧ sv4 rd r before last sg k prev ≤ 1048577 := by unfold sv4; cases sc4 rd k <;> simp only [cond_true, cond_false] <;> omega
  exact ⟨b1, b2, b3, b4⟩

theorem signAt_bound (rd : Str) {r before : List Int} (last sg : UInt8) (k : Nat) {prev : Int} (hr : RowB r) (hb : RowB before) (hp : 0 ≤ prev ∧ prev ≤ 1048576) : 0 ≤ signAt rd r before last sg k prev ∧ signAt rd r before last sg k prev ≤ 1048576 := by
  have := (sv_bound rd last sg k hr hb hp).2.2.2
  unfold signAt
  split <;> omega

theorem signTo_B (rd : Str) {r before : List Int} (last sg : UInt8) (hr : RowB r) (hb : RowB before) : ∀ k, RowB (signTo rd r before last sg k)
  | 0 => RowB.zero
  | k + 1 => (signTo_B rd last sg hr hb k).set k _ (signAt_bound rd last sg k hr hb ((signTo_B rd last sg hr hb k).2 _))

/-- What sign's loop keeps. -/
structure SW (w : World) (box : Array Value) (rl bl ol : List Int) (W : World) : Prop where
  b0 : W.heap[w.heap.size]? = some (.cells box 124 (0, 0))
  b1 : W.heap[w.heap.size + 1]? = some (.cells (rowC rl) 160 (0, 0))
  b2 : W.heap[w.heap.size + 2]? = some (.cells (rowC bl) 160 (0, 0))
  b3 : W.heap[w.heap.size + 3]? = some (.cells (rowC ol) 160 (0, 0))
  bel : Below w.heap.size w W

theorem SW.lt {w : World} {box : Array Value} {rl bl ol : List Int} {W : World} (h : SW w box rl bl ol W) : w.heap.size + 3 < W.heap.size := lt_of_block h.b3
theorem SW.below {w : World} {box : Array Value} {rl bl ol : List Int} {W W' : World} (h : SW w box rl bl ol W) (hb : Below W.heap.size W W') : SW w box rl bl ol W' := by
  have hl := h.lt
  exact ⟨(hb.block _ (by omega)).trans h.b0, (hb.block _ (by omega)).trans h.b1, (hb.block _ (by omega)).trans h.b2, (hb.block _ (by omega)).trans h.b3, h.bel.trans (hb.mono h.bel.size)⟩
theorem SW.alloc {w : World} {box : Array Value} {rl bl ol : List Int} {W : World} (h : SW w box rl bl ol W) (o : Obj) : SW w box rl bl ol (W.alloc o) := h.below ((Below.refl _ W).alloc (Nat.le_refl _) o)
theorem SW.drew {w : World} {box : Array Value} {rl bl ol : List Int} {W : World} (h : SW w box rl bl ol W) : SW w box rl bl ol W.drew := h.below ((Below.refl _ W).drew)
theorem SW.set {w : World} {box : Array Value} {rl bl ol : List Int} {W : World} (h : SW w box rl bl ol W) (k : Nat) (x : Int) : SW w box rl bl (ol.set k x) (W.setCell ⟨w.heap.size + 3, k, none⟩ (.int .i64 x)) :=
  ⟨(Below.heap_setCell _ _ _ _ (by simp)).trans h.b0, (Below.heap_setCell _ _ _ _ (by simp)).trans h.b1, (Below.heap_setCell _ _ _ _ (by simp)).trans h.b2, row_set h.b3 k x, h.bel.setCell (p := ⟨w.heap.size + 3, k, none⟩) (by simp) _⟩

theorem u8_beq (a b : UInt8) : ((a.toNat : Int) == (b.toNat : Int)) = (a == b) := by
  rw [Bool.eq_iff_iff, beq_iff_eq, beq_iff_eq]
  constructor
  · intro h; exact UInt8.toNat_inj.1 (Int.ofNat.inj h)
  · rintro rfl; rfl

theorem two_points {r : ByteArray} {m2 k : Nat} (h : k ≤ r.size) (hk : k = m2 + 2) : ((r.extract m2 k).toList == [46, 46]) = ((tl r).getD m2 0 == 46 && (tl r).getD (m2 + 1) 0 == 46) := by
  have h1 : m2 < (tl r).length := by rw [tl_size]; omega
  have h2 : m2 + 1 < (tl r).length := by rw [tl_size]; omega
  rw [ByteArray.toList_eq]
  have h3 : (r.extract m2 k).data.toList = [(tl r)[m2], (tl r)[m2 + 1]] := by
    have h4 := tl_extract r m2 k
    have h5 : k - m2 = 2 := by omega
    rw [h5, List.drop_eq_getElem_cons h1, List.take_succ_cons, List.drop_eq_getElem_cons h2, List.take_succ_cons, List.take_zero] at h4
    exact h4
  rw [h3, List.getD_eq_getElem?_getD, List.getD_eq_getElem?_getD, List.getElem?_eq_getElem h1, List.getElem?_eq_getElem h2]
  simp

theorem SW_start (w : World) (box : Array Value) (rl bl : List Int) : SW w box rl bl (List.replicate 41 0) ((((w.alloc (.cells box 124)).alloc (.cells (rowC rl) 160)).alloc (.cells (rowC bl) 160)).alloc (.cells (rowC (List.replicate 41 0)) 160)) := by
  obtain ⟨h0, h1, h2, h3, h4, h5⟩ := heap_alloc4 w (.cells box 124) (.cells (rowC rl) 160) (.cells (rowC bl) 160) (.cells (rowC (List.replicate 41 0)) 160)
  exact ⟨h0, h1, h2, h3, h5⟩

set_option maxRecDepth 100000 in
set_option maxHeartbeats 40000000 in
theorem sign_calls (A : Option Addr) (n c : Nat) (r : ByteArray) (e : Int) (rl bl : List Int) (last sg : UInt8) (w : World) (hr : r.size ≤ 40) (hrl : RowB rl) (hbl : RowB bl) :
    Calls Try.prog 152 #[.agg #[.slice A n c, .string r, .int .i64 e], .agg (rowC rl), .agg (rowC bl), .int .u8 (last.toNat : Int), .int .u8 (sg.toNat : Int)] w fun e w' => e = .returned (.agg (rowC (signL (tl r) rl bl last sg))) ∧ Below w.heap.size w w' := by
  have hlen : ((r.size : Nat) : Int) ≤ 40 := by omega
  have Hrl := Lib.hid hrl
  have Hbl := Lib.hid hbl
  clear hrl hbl
  go_enter Try.func152, Try.ntmps152
  go_wp2
  -- LOOP
  go_loopg [12] 41 (fun g v12 wr => ∃ k : Nat, Aside0 (k + g = 41) ∧ v12 = .int .i64 (k : Int) ∧ SW w #[.slice A n c, .string r, .int .i64 e] rl bl (signTo (tl r) rl bl last sg k) wr)
  case atStart =>
    refine ⟨0, ⟨rfl⟩, rfl, ?_⟩
    exact SW_start w _ rl bl
  case round =>
    obtain ⟨k, Hkg, rfl, S⟩ := hrel
    by_cases hk : k < 41
    · have hk2 : (k : Int) < 41 := by omega
      have hk0 : (0 : Int) ≤ (k : Int) := by omega
      have hB := signTo_B (tl r) last sg Hrl.out Hbl.out k
      have hl1 := hB.1
      have cK := row_cell S.b3 k (by omega)
      have fK := row_frozen S.b3 k
      have cR := row_cell S.b1 k (by have := Hrl.out.1; omega)
      have cbox : wr.cell? ⟨w.heap.size, 1, none⟩ = some (.string r) := by simp [World.cell?, S.b0]
      have hlt := S.lt
      generalize (signTo (tl r) rl bl last sg k).getD k 0 = z at cK
      generalize hx : rl.getD k 0 = x at cR
      have hxb := Hrl.out.2 k
      rw [hx] at hxb
      have Hx := Lib.hid hx
      have Hxb := Lib.hid hxb
      have HB := Lib.hid hB
      have hw0 : IntKind.i64.wrap (x + 1) = x + 1 := IntWalk.i64_in _ (by omega)
      clear hx hB hl1 hxb
      obtain ⟨ol, hol⟩ : ∃ ol, signTo (tl r) rl bl last sg k = ol := ⟨_, rfl⟩
      rw [hol] at S HB
      have Hol := Lib.hid hol
      clear hol
      by_cases hkr : k ≤ r.size
      · have hkr2 : ¬ (r.size : Int) < (k : Int) := by omega
        have SN := Lib.hid ((S.set k 1048576).set k (x + 1))
        rw [List.set_set] at SN
        obtain ⟨b1, Hb1⟩ : ∃ b1, Hid (sc1 (tl r) sg k = b1) := ⟨_, rfl⟩
        obtain ⟨b2, Hb2⟩ : ∃ b2, Hid (sc2 (tl r) sg k = b2) := ⟨_, rfl⟩
        obtain ⟨b3, Hb3⟩ : ∃ b3, Hid (sc3 (tl r) last sg k = b3) := ⟨_, rfl⟩
        obtain ⟨b4, Hb4⟩ : ∃ b4, Hid (sc4 (tl r) k = b4) := ⟨_, rfl⟩
        obtain ⟨p, Hp⟩ : ∃ p, Hid (ol.getD (k - 1) 0 = p) := ⟨_, rfl⟩
        obtain ⟨x1, Hx1⟩ : ∃ x1, Hid (sv1 (tl r) rl sg k = x1) := ⟨_, rfl⟩
        obtain ⟨x2, Hx2⟩ : ∃ x2, Hid (sv2 (tl r) rl sg k = x2) := ⟨_, rfl⟩
        obtain ⟨x3, Hx3⟩ : ∃ x3, Hid (sv3 (tl r) rl bl last sg k = x3) := ⟨_, rfl⟩
        obtain ⟨x4, Hx4⟩ : ∃ x4, Hid (sv4 (tl r) rl bl last sg k p = x4) := ⟨_, rfl⟩
        go_upto_region 7 with fail
        go_cut [12, 38] from 12 to 136 (fun v12 v38 wx => v12 = .int .i64 (k : Int) ∧ v38 = .bool b1 ∧ SW w #[.slice A n c, .string r, .int .i64 e] rl bl (ol.set k (x + 1)) wx)
        case first =>
          have cbox2 : Hid True := trivial
          rcases Nat.eq_zero_or_pos k with h0 | h0
          · have h1 : ¬ (0 : Int) < (k : Int) := by omega
            have hb : b1 = false := by rw [← Hb1.out, sc1, h0]; rfl
            have SN2 := Lib.hid SN.out
            clear h0
            go_wp2_with fail
            go_meet
            case rel => exact ⟨rfl, by rw [hb], SN2.out⟩
          · have h1 : (0 : Int) < (k : Int) := by omega
            obtain ⟨m, Hm⟩ : ∃ m, Hid (k = m + 1) := ⟨k - 1, by show _ = _; omega⟩
            have hmr : m < r.size := by have := Hm.out; omega
            have hmr2 : (m : Int) < (r.size : Int) := by omega
            have hw1 : IntKind.i64.wrap ((k : Int) - 1) = (m : Int) := by rw [IntWalk.i64_in _ (by omega)]; have := Hm.out; omega
            have hm2 : (m : Int) < 41 := by have := Hm.out; omega
            have hcmp : (((r[m]'hmr).toNat : Int) == (sg.toNat : Int)) = b1 := by
              rw [u8_beq, ← Hb1.out, sc1, Hm.out, Nat.add_sub_cancel, tl_getD hmr, decide_eq_true (Nat.succ_pos m), Bool.true_and]
            have SN2 := Lib.hid SN.out
            clear h0
            go_wp2_with fail
            go_meet
            case rel => exact ⟨rfl, rfl, SN2.out⟩
        case rest =>
          obtain ⟨rfl, rfl, SC⟩ := hcut
          go_upto_if 38 with fail
          go_cut [12] from 12 to 136 (fun v12 wx => v12 = .int .i64 (k : Int) ∧ SW w #[.slice A n c, .string r, .int .i64 e] rl bl (ol.set k x1) wx)
          case first =>
            cases b1 with
            | false =>
              have hz : x + 1 = x1 := by rw [← Hx1.out, sv1, Hb1.out]; exact by rw [Hx.out]; rfl
              rw [hz] at SC
              have SC2 := Lib.hid SC
              clear SC hz
              go_wp2_with fail
              go_meet
              case rel => exact ⟨rfl, SC2.out⟩
            | true =>
              have h0 : 0 < k := by
                have := Hb1.out
                unfold sc1 at this
                simp only [Bool.and_eq_true, decide_eq_true_eq] at this
                exact this.1
              obtain ⟨m, Hm⟩ : ∃ m, Hid (k = m + 1) := ⟨k - 1, by show _ = _; omega⟩
              have hmr : m < r.size := by have := Hm.out; omega
              have hmr2 : (m : Int) < (r.size : Int) := by omega
              have hw1 : IntKind.i64.wrap ((k : Int) - 1) = (m : Int) := by rw [IntWalk.i64_in _ (by omega)]; have := Hm.out; omega
              have hm2 : (m : Int) < 41 := by have := Hm.out; omega
              have dK := row_cell SC.b3 k (by rw [List.length_set]; have := HB.out.1; omega)
              rw [List.getD_eq_getElem?_getD, List.getElem?_set_self (by have := HB.out.1; omega), Option.getD_some] at dK
              have dO := row_cell SC.b1 m (by have := Hrl.out.1; have := Hm.out; omega)
              obtain ⟨y, Hy⟩ : ∃ y, Hid (rl.getD m 0 = y) := ⟨_, rfl⟩
              rw [Hy.out] at dO
              have hlt := SC.lt
              have hz : x1 = min (x + 1) y := by rw [← Hx1.out, sv1, Hb1.out, cond_true, Hx.out, Hm.out, Nat.add_sub_cancel, Hy.out]
              have Hz := Lib.hid hz
              clear hz h0
              go_wp2_with fail
              have hS : (fun V : World => V.cell? ⟨w.heap.size + 1 + 1 + 1, k, none⟩ = some (.int .i64 (x + 1)) ∧ V.cell? ⟨w.heap.size + 1, m, none⟩ = some (.int .i64 (y))) { wc with drawn := wc.drawn + 1 } := ⟨dK, dO⟩
              have hSa : ∀ u v : Int, (fun V : World => V.cell? ⟨w.heap.size + 1 + 1 + 1, k, none⟩ = some (.int .i64 (x + 1)) ∧ V.cell? ⟨w.heap.size + 1, m, none⟩ = some (.int .i64 (y))) ((wc.alloc (.cells #[.int .i64 u, .int .i64 v] 3)).drew) := fun u v => by
                have hba : Below wc.heap.size wc ((wc.alloc (.cells #[.int .i64 u, .int .i64 v] 3)).drew) := ((Below.refl _ wc).alloc (Nat.le_refl _) _).drew
                exact ⟨(hba.cell (p := ⟨w.heap.size + 1 + 1 + 1, k, none⟩) (by simp; omega)).trans dK, (hba.cell (p := ⟨w.heap.size + 1, m, none⟩) (by simp; omega)).trans dO⟩
              refine wp_region_head 10 (fun V => V.cell? ⟨w.heap.size + 1 + 1 + 1, k, none⟩ = some (.int .i64 (x + 1)) ∧ V.cell? ⟨w.heap.size + 1, m, none⟩ = some (.int .i64 (y))) (by kernel_rfl) (by kernel_rfl) ?_
              refine take_op 0 (v := ?_) rfl (by kernel_rfl) (by kernel_rfl) rfl (by kernel_rfl) (by kernel_rfl) (by kernel_rfl) (fun _ _ _ h => h) hS (Or.inl ⟨by rfl, ?_⟩) ?_
              rotate_left
              · intro W hW; obtain ⟨g0, g1⟩ := hW; go_simp; with_reducible rfl
              simp only [Act.put, List.setIfInBounds_toArray, List.set_cons_zero, List.set_cons_succ]
              refine take_op 1 (v := ?_) rfl (by kernel_rfl) (by kernel_rfl) rfl (by kernel_rfl) (by kernel_rfl) (by kernel_rfl) (fun _ _ _ h => h) hS (Or.inl ⟨by rfl, ?_⟩) ?_
              rotate_left
              · intro W hW; obtain ⟨g0, g1⟩ := hW; go_simp; with_reducible rfl
              simp only [Act.put, List.setIfInBounds_toArray, List.set_cons_zero, List.set_cons_succ]
              refine take_op 2 (v := ?_) rfl (by kernel_rfl) (by kernel_rfl) rfl (by kernel_rfl) (by kernel_rfl) (by kernel_rfl) (fun _ _ _ h => h) hS (Or.inl ⟨by rfl, ?_⟩) ?_
              rotate_left
              · intro W hW; obtain ⟨g0, g1⟩ := hW; go_simp; with_reducible rfl
              simp only [Act.put, List.setIfInBounds_toArray, List.set_cons_zero, List.set_cons_succ]
              refine take_op 3 (v := ?_) rfl (by kernel_rfl) (by kernel_rfl) rfl (by kernel_rfl) (by kernel_rfl) (by kernel_rfl) (fun _ _ _ h => h) hS (Or.inl ⟨by rfl, ?_⟩) ?_
              rotate_left
              · intro W hW; obtain ⟨g0, g1⟩ := hW; go_simp; with_reducible rfl
              simp only [Act.put, List.setIfInBounds_toArray, List.set_cons_zero, List.set_cons_succ]
              refine take_op 4 (v := ?_) rfl (by kernel_rfl) (by kernel_rfl) rfl (by kernel_rfl) (by kernel_rfl) (by kernel_rfl) (fun _ _ _ h => h) hS (Or.inl ⟨by rfl, ?_⟩) ?_
              rotate_left
              · intro W hW; obtain ⟨g0, g1⟩ := hW; go_simp; with_reducible rfl
              simp only [Act.put, List.setIfInBounds_toArray, List.set_cons_zero, List.set_cons_succ]
              refine take_op 5 (v := ?_) rfl (by kernel_rfl) (by kernel_rfl) rfl (by kernel_rfl) (by kernel_rfl) (by kernel_rfl) (fun _ _ _ h => h) hS (Or.inl ⟨by rfl, ?_⟩) ?_
              rotate_left
              · intro W hW; obtain ⟨g0, g1⟩ := hW; go_simp; with_reducible rfl
              simp only [Act.put, List.setIfInBounds_toArray, List.set_cons_zero, List.set_cons_succ]
              refine take_op 6 (v := ?_) rfl (by kernel_rfl) (by kernel_rfl) rfl (by kernel_rfl) (by kernel_rfl) (by kernel_rfl) (fun _ _ _ h => h) hS (Or.inl ⟨by rfl, ?_⟩) ?_
              rotate_left
              · intro W hW; obtain ⟨g0, g1⟩ := hW; go_simp; with_reducible rfl
              simp only [Act.put, List.setIfInBounds_toArray, List.set_cons_zero, List.set_cons_succ]
              refine take_op 7 (v := ?_) rfl (by kernel_rfl) (by kernel_rfl) rfl (by kernel_rfl) (by kernel_rfl) (by kernel_rfl) (fun _ _ _ h => h) hS (Or.inl ⟨by rfl, ?_⟩) ?_
              rotate_left
              · intro W hW; obtain ⟨g0, g1⟩ := hW; go_simp; with_reducible rfl
              simp only [Act.put, List.setIfInBounds_toArray, List.set_cons_zero, List.set_cons_succ]
              refine only_op 8 rfl (by kernel_rfl) (by kernel_rfl) (by kernel_rfl) (by rfl) (fun K hK => ?_)
              go_simp
              refine hK _ _ (hSa _ _) ?_
              clear hK K
              try simp only [Act.put, List.setIfInBounds_toArray, List.set_cons_zero, List.set_cons_succ]
              refine only_op 9 rfl (by kernel_rfl) (by kernel_rfl) (by kernel_rfl) (by rfl) (fun K hK => ?_)
              go_simp
              change Calls _ _ _ (wc.drew.alloc _) _
              refine (min_newG (x + 1) (y) wc.drew wc.heap.size rfl).mono ?_
              rintro e w9 ⟨rfl, rfl⟩
              refine hK _ _ (hSa _ _) ?_
              clear hK K
              try simp only [Act.put, List.setIfInBounds_toArray, List.set_cons_zero, List.set_cons_succ]
              refine anyH_left (by kernel_rfl) (by kernel_rfl) ?_
              change wpAny Try.prog Region.Mode.any _ _ 2 _ _ ((wc.alloc (.cells #[.int .i64 (x + 1), .int .i64 (y)] 3)).drew)
              have m9 := (hSa (x + 1) (y)).1
              have f9 : ((wc.alloc (.cells #[.int .i64 (x + 1), .int .i64 (y)] 3)).drew).frozen? ⟨w.heap.size + 1 + 1 + 1, k, none⟩ = false := row_frozen ((SC.alloc (.cells #[.int .i64 (x + 1), .int .i64 (y)] 3)).drew).b3 k
              refine tail_op 10 rfl (by kernel_rfl) (by rfl) (fun K hK => ?_)
              go_simp
              refine hK _ _ ?_
              clear hK K
              try simp only [Act.put, List.setIfInBounds_toArray, List.set_cons_zero, List.set_cons_succ]
              refine tail_op 11 rfl (by kernel_rfl) (by rfl) (fun K hK => ?_)
              go_simp
              refine hK _ _ ?_
              clear hK K
              try simp only [Act.put, List.setIfInBounds_toArray, List.set_cons_zero, List.set_cons_succ]
              refine wpAny_done (by kernel_rfl) ?_ _
              simp only [Exit.then]
              have h9 := ((SC.set k (min (x + 1) (y))).alloc (.cells #[.int .i64 (x + 1), .int .i64 (y)] 3)).drew
              have hl9 : (ol.set k (x + 1)).set k (min (x + 1) (y)) = ol.set k x1 := by rw [List.set_set, Hz.out]
              rw [hl9] at h9
              have H9 := Lib.hid h9
              clear h9 hl9
              go_wp2_with fail
              go_meet
              case rel => exact ⟨rfl, H9.out⟩
          case rest =>
            obtain ⟨rfl, SC⟩ := hcut
            go_upto_region 9 with fail
            go_cut [12, 64] from 12 to 136 (fun v12 v64 wx => v12 = .int .i64 (k : Int) ∧ v64 = .bool b2 ∧ SW w #[.slice A n c, .string r, .int .i64 e] rl bl (ol.set k (x1)) wx)
            case first =>
              have SN2 := Lib.hid SC
              have cbox : wc.cell? ⟨w.heap.size, 1, none⟩ = some (.string r) := by simp [World.cell?, SC.b0]
              clear SC
              by_cases h0 : k ≤ 1
              · have h1 : ¬ (1 : Int) < (k : Int) := by omega
                have hb : b2 = false := by rw [← Hb2.out, sc2, decide_eq_false (show ¬ 1 < k by omega)]; rfl
                clear h0
                go_wp2_with fail
                go_meet
                case rel => exact ⟨rfl, by rw [hb], SN2.out⟩
              · have h1 : (1 : Int) < (k : Int) := by omega
                by_cases hsg : sg = 45
                · have hs : ((sg.toNat : Int) == 45) = true := by rw [hsg]; rfl
                  obtain ⟨m2, Hm2⟩ : ∃ m2, Hid (k = m2 + 2) := ⟨k - 2, by show _ = _; omega⟩
                  have hmr2 : (m2 : Int) ≤ (r.size : Int) := by have := Hm2.out; omega
                  have hmk2 : (m2 : Int) ≤ (k : Int) := by have := Hm2.out; omega
                  have hkr3 : (k : Int) ≤ (r.size : Int) := by omega
                  have hw2 : IntKind.i64.wrap ((k : Int) - 2) = (m2 : Int) := by rw [IntWalk.i64_in _ (by omega)]; have := Hm2.out; omega
                  have hcmp : ((r.extract m2 k).toList == [46, 46]) = b2 := by
                    rw [two_points (by have := Hm2.out; omega) Hm2.out, ← Hb2.out, sc2, hsg, Hm2.out, decide_eq_true (show 1 < m2 + 2 by omega)]
                    rfl
                  clear h0 hsg
                  go_wp2_with fail
                  go_meet
                  case rel => exact ⟨rfl, by first | rfl | rw [hcmp], SN2.out⟩
                · have hs : ((sg.toNat : Int) == 45) = false := by rw [show (45 : Int) = ((45 : UInt8).toNat : Int) from rfl, u8_beq]; exact beq_eq_false_iff_ne.2 hsg
                  have hb : b2 = false := by rw [← Hb2.out, sc2, beq_eq_false_iff_ne.2 hsg, Bool.and_false, Bool.false_and]
                  clear h0 hsg
                  go_wp2_with fail
                  go_meet
                  case rel => exact ⟨rfl, by rw [hb], SN2.out⟩
            case rest =>
              obtain ⟨rfl, rfl, SC⟩ := hcut
              go_upto_if 64 with fail
              go_cut [12] from 12 to 136 (fun v12 wx => v12 = .int .i64 (k : Int) ∧ SW w #[.slice A n c, .string r, .int .i64 e] rl bl (ol.set k x2) wx)
              case first =>
                cases b2 with
                | false =>
                  have hz : x1 = x2 := by rw [← Hx2.out, sv2, Hb2.out]; exact Hx1.out.symm
                  rw [hz] at SC
                  have SC2 := Lib.hid SC
                  clear SC hz
                  go_wp2_with fail
                  go_meet
                  case rel => exact ⟨rfl, SC2.out⟩
                | true =>
                  have h0 : 1 < k := by
                    have := Hb2.out
                    unfold sc2 at this
                    simp only [Bool.and_eq_true, decide_eq_true_eq] at this
                    exact this.1.1
                  obtain ⟨m2, Hm2⟩ : ∃ m2, Hid (k = m2 + 2) := ⟨k - 2, by show _ = _; omega⟩
                  have hmr2 : (m2 : Int) ≤ (r.size : Int) := by have := Hm2.out; omega
                  have hmk2 : (m2 : Int) ≤ (k : Int) := by have := Hm2.out; omega
                  have hkr3 : (k : Int) ≤ (r.size : Int) := by omega
                  have hw2 : IntKind.i64.wrap ((k : Int) - 2) = (m2 : Int) := by rw [IntWalk.i64_in _ (by omega)]; have := Hm2.out; omega
                  have dK := row_cell SC.b3 k (by rw [List.length_set]; have := HB.out.1; omega)
                  rw [List.getD_eq_getElem?_getD, List.getElem?_set_self (by have := HB.out.1; omega), Option.getD_some] at dK
                  have dO := row_cell SC.b1 m2 (by have := Hrl.out.1; have := Hm2.out; omega)
                  obtain ⟨y, Hy⟩ : ∃ y, Hid (rl.getD m2 0 = y) := ⟨_, rfl⟩
                  have hyb := Hrl.out.2 m2
                  rw [Hy.out] at dO hyb
                  have hlt := SC.lt
                  have hm3 : (m2 : Int) < 41 := by have := Hm2.out; omega
                  have hw3 : IntKind.i64.wrap (y + 1) = y + 1 := IntWalk.i64_in _ (by omega)
                  have hz : x2 = min x1 (y + 1) := by rw [← Hx2.out, sv2, Hb2.out, cond_true, Hx1.out, Hm2.out, Nat.add_sub_cancel, Hy.out]
                  have Hz := Lib.hid hz
                  clear hz h0 hyb
                  go_wp2_with fail
                  have hS : (fun V : World => V.cell? ⟨w.heap.size + 1 + 1 + 1, k, none⟩ = some (.int .i64 (x1)) ∧ V.cell? ⟨w.heap.size + 1, m2, none⟩ = some (.int .i64 (y))) { wc with drawn := wc.drawn + 1 } := ⟨dK, dO⟩
                  have hSa : ∀ u v : Int, (fun V : World => V.cell? ⟨w.heap.size + 1 + 1 + 1, k, none⟩ = some (.int .i64 (x1)) ∧ V.cell? ⟨w.heap.size + 1, m2, none⟩ = some (.int .i64 (y))) ((wc.alloc (.cells #[.int .i64 u, .int .i64 v] 3)).drew) := fun u v => by
                    have hba : Below wc.heap.size wc ((wc.alloc (.cells #[.int .i64 u, .int .i64 v] 3)).drew) := ((Below.refl _ wc).alloc (Nat.le_refl _) _).drew
                    exact ⟨(hba.cell (p := ⟨w.heap.size + 1 + 1 + 1, k, none⟩) (by simp; omega)).trans dK, (hba.cell (p := ⟨w.heap.size + 1, m2, none⟩) (by simp; omega)).trans dO⟩
                  refine wp_region_head 11 (fun V => V.cell? ⟨w.heap.size + 1 + 1 + 1, k, none⟩ = some (.int .i64 (x1)) ∧ V.cell? ⟨w.heap.size + 1, m2, none⟩ = some (.int .i64 (y))) (by kernel_rfl) (by kernel_rfl) ?_
                  refine take_op 0 (v := ?_) rfl (by kernel_rfl) (by kernel_rfl) rfl (by kernel_rfl) (by kernel_rfl) (by kernel_rfl) (fun _ _ _ h => h) hS (Or.inl ⟨by rfl, ?_⟩) ?_
                  rotate_left
                  · intro W hW; obtain ⟨g0, g1⟩ := hW; go_simp; with_reducible rfl
                  simp only [Act.put, List.setIfInBounds_toArray, List.set_cons_zero, List.set_cons_succ]
                  refine take_op 1 (v := ?_) rfl (by kernel_rfl) (by kernel_rfl) rfl (by kernel_rfl) (by kernel_rfl) (by kernel_rfl) (fun _ _ _ h => h) hS (Or.inl ⟨by rfl, ?_⟩) ?_
                  rotate_left
                  · intro W hW; obtain ⟨g0, g1⟩ := hW; go_simp; with_reducible rfl
                  simp only [Act.put, List.setIfInBounds_toArray, List.set_cons_zero, List.set_cons_succ]
                  refine take_op 2 (v := ?_) rfl (by kernel_rfl) (by kernel_rfl) rfl (by kernel_rfl) (by kernel_rfl) (by kernel_rfl) (fun _ _ _ h => h) hS (Or.inl ⟨by rfl, ?_⟩) ?_
                  rotate_left
                  · intro W hW; obtain ⟨g0, g1⟩ := hW; go_simp; with_reducible rfl
                  simp only [Act.put, List.setIfInBounds_toArray, List.set_cons_zero, List.set_cons_succ]
                  refine take_op 3 (v := ?_) rfl (by kernel_rfl) (by kernel_rfl) rfl (by kernel_rfl) (by kernel_rfl) (by kernel_rfl) (fun _ _ _ h => h) hS (Or.inl ⟨by rfl, ?_⟩) ?_
                  rotate_left
                  · intro W hW; obtain ⟨g0, g1⟩ := hW; go_simp; with_reducible rfl
                  simp only [Act.put, List.setIfInBounds_toArray, List.set_cons_zero, List.set_cons_succ]
                  refine take_op 4 (v := ?_) rfl (by kernel_rfl) (by kernel_rfl) rfl (by kernel_rfl) (by kernel_rfl) (by kernel_rfl) (fun _ _ _ h => h) hS (Or.inl ⟨by rfl, ?_⟩) ?_
                  rotate_left
                  · intro W hW; obtain ⟨g0, g1⟩ := hW; go_simp; with_reducible rfl
                  simp only [Act.put, List.setIfInBounds_toArray, List.set_cons_zero, List.set_cons_succ]
                  refine take_op 5 (v := ?_) rfl (by kernel_rfl) (by kernel_rfl) rfl (by kernel_rfl) (by kernel_rfl) (by kernel_rfl) (fun _ _ _ h => h) hS (Or.inl ⟨by rfl, ?_⟩) ?_
                  rotate_left
                  · intro W hW; obtain ⟨g0, g1⟩ := hW; go_simp; with_reducible rfl
                  simp only [Act.put, List.setIfInBounds_toArray, List.set_cons_zero, List.set_cons_succ]
                  refine take_op 6 (v := ?_) rfl (by kernel_rfl) (by kernel_rfl) rfl (by kernel_rfl) (by kernel_rfl) (by kernel_rfl) (fun _ _ _ h => h) hS (Or.inl ⟨by rfl, ?_⟩) ?_
                  rotate_left
                  · intro W hW; obtain ⟨g0, g1⟩ := hW; go_simp; with_reducible rfl
                  simp only [Act.put, List.setIfInBounds_toArray, List.set_cons_zero, List.set_cons_succ]
                  refine take_op 7 (v := ?_) rfl (by kernel_rfl) (by kernel_rfl) rfl (by kernel_rfl) (by kernel_rfl) (by kernel_rfl) (fun _ _ _ h => h) hS (Or.inl ⟨by rfl, ?_⟩) ?_
                  rotate_left
                  · intro W hW; obtain ⟨g0, g1⟩ := hW; go_simp; with_reducible rfl
                  simp only [Act.put, List.setIfInBounds_toArray, List.set_cons_zero, List.set_cons_succ]
                  refine take_op 8 (v := ?_) rfl (by kernel_rfl) (by kernel_rfl) rfl (by kernel_rfl) (by kernel_rfl) (by kernel_rfl) (fun _ _ _ h => h) hS (Or.inl ⟨by rfl, ?_⟩) ?_
                  rotate_left
                  · intro W hW; obtain ⟨g0, g1⟩ := hW; go_simp; with_reducible rfl
                  simp only [Act.put, List.setIfInBounds_toArray, List.set_cons_zero, List.set_cons_succ]
                  refine only_op 9 rfl (by kernel_rfl) (by kernel_rfl) (by kernel_rfl) (by rfl) (fun K hK => ?_)
                  go_simp
                  refine hK _ _ (hSa _ _) ?_
                  clear hK K
                  try simp only [Act.put, List.setIfInBounds_toArray, List.set_cons_zero, List.set_cons_succ]
                  refine only_op 10 rfl (by kernel_rfl) (by kernel_rfl) (by kernel_rfl) (by rfl) (fun K hK => ?_)
                  go_simp
                  change Calls _ _ _ (wc.drew.alloc _) _
                  refine (min_newG (x1) (y + 1) wc.drew wc.heap.size rfl).mono ?_
                  rintro e w9 ⟨rfl, rfl⟩
                  refine hK _ _ (hSa _ _) ?_
                  clear hK K
                  try simp only [Act.put, List.setIfInBounds_toArray, List.set_cons_zero, List.set_cons_succ]
                  refine anyH_left (by kernel_rfl) (by kernel_rfl) ?_
                  change wpAny Try.prog Region.Mode.any _ _ 2 _ _ ((wc.alloc (.cells #[.int .i64 (x1), .int .i64 (y + 1)] 3)).drew)
                  have m9 := (hSa (x1) (y + 1)).1
                  have f9 : ((wc.alloc (.cells #[.int .i64 (x1), .int .i64 (y + 1)] 3)).drew).frozen? ⟨w.heap.size + 1 + 1 + 1, k, none⟩ = false := row_frozen ((SC.alloc (.cells #[.int .i64 (x1), .int .i64 (y + 1)] 3)).drew).b3 k
                  refine tail_op 11 rfl (by kernel_rfl) (by rfl) (fun K hK => ?_)
                  go_simp
                  refine hK _ _ ?_
                  clear hK K
                  try simp only [Act.put, List.setIfInBounds_toArray, List.set_cons_zero, List.set_cons_succ]
                  refine tail_op 12 rfl (by kernel_rfl) (by rfl) (fun K hK => ?_)
                  go_simp
                  refine hK _ _ ?_
                  clear hK K
                  try simp only [Act.put, List.setIfInBounds_toArray, List.set_cons_zero, List.set_cons_succ]
                  refine wpAny_done (by kernel_rfl) ?_ _
                  simp only [Exit.then]
                  have h9 := ((SC.set k (min (x1) (y + 1))).alloc (.cells #[.int .i64 (x1), .int .i64 (y + 1)] 3)).drew
                  have hl9 : (ol.set k (x1)).set k (min (x1) (y + 1)) = ol.set k x2 := by rw [List.set_set, Hz.out]
                  rw [hl9] at h9
                  have H9 := Lib.hid h9
                  clear h9 hl9
                  go_wp2_with fail
                  go_meet
                  case rel => exact ⟨rfl, H9.out⟩
              case rest =>
                obtain ⟨rfl, SC⟩ := hcut
                go_upto_region 11 with fail
                go_cut [12, 94] from 12 to 136 (fun v12 v94 wx => v12 = .int .i64 (k : Int) ∧ v94 = .bool b3 ∧ SW w #[.slice A n c, .string r, .int .i64 e] rl bl (ol.set k (x2)) wx)
                case first =>
                  have SN2 := Lib.hid SC
                  have cbox : wc.cell? ⟨w.heap.size, 1, none⟩ = some (.string r) := by simp [World.cell?, SC.b0]
                  clear SC
                  by_cases h0 : k = 0
                  · have h1 : ¬ (0 : Int) < (k : Int) := by omega
                    have hb : b3 = false := by rw [← Hb3.out, sc3, decide_eq_false (show ¬ 0 < k by omega)]; rfl
                    clear h0
                    go_wp2_with fail
                    go_meet
                    case rel => exact ⟨rfl, by rw [hb], SN2.out⟩
                  · have h1 : (0 : Int) < (k : Int) := by omega
                    by_cases hsg : sg = 46
                    · have hs : ((sg.toNat : Int) == 46) = true := by rw [hsg]; rfl
                      by_cases hla : last = 46
                      · have hs2 : ((last.toNat : Int) == 46) = true := by rw [hla]; rfl
                        obtain ⟨m, Hm⟩ : ∃ m, Hid (k = m + 1) := ⟨k - 1, by show _ = _; omega⟩
                        have hmr : m < r.size := by have := Hm.out; omega
                        have hmr2 : (m : Int) < (r.size : Int) := by omega
                        have hw1 : IntKind.i64.wrap ((k : Int) - 1) = (m : Int) := by rw [IntWalk.i64_in _ (by omega)]; have := Hm.out; omega
                        have hm2 : (m : Int) < 41 := by have := Hm.out; omega
                        have hcmp : (((r[m]'hmr).toNat : Int) == 45) = b3 := by
                          rw [show (45 : Int) = ((45 : UInt8).toNat : Int) from rfl, u8_beq, ← Hb3.out, sc3, hsg, hla, Hm.out, Nat.add_sub_cancel, tl_getD hmr, decide_eq_true (Nat.succ_pos m)]
                          rfl
                        clear h0 hsg hla
                        go_wp2_with fail
                        go_meet
                        case rel => exact ⟨rfl, by first | rfl | rw [hcmp], SN2.out⟩
                      · have hs2 : ((last.toNat : Int) == 46) = false := by rw [show (46 : Int) = ((46 : UInt8).toNat : Int) from rfl, u8_beq]; exact beq_eq_false_iff_ne.2 hla
                        have hb : b3 = false := by rw [← Hb3.out, sc3, beq_eq_false_iff_ne.2 hla, Bool.and_false, Bool.false_and]
                        clear h0 hsg hla
                        go_wp2_with fail
                        go_meet
                        case rel => exact ⟨rfl, by rw [hb], SN2.out⟩
                    · have hs : ((sg.toNat : Int) == 46) = false := by rw [show (46 : Int) = ((46 : UInt8).toNat : Int) from rfl, u8_beq]; exact beq_eq_false_iff_ne.2 hsg
                      have hb : b3 = false := by rw [← Hb3.out, sc3, beq_eq_false_iff_ne.2 hsg, Bool.and_false, Bool.false_and, Bool.false_and]
                      clear h0 hsg
                      go_wp2_with fail
                      go_meet
                      case rel => exact ⟨rfl, by rw [hb], SN2.out⟩
                case rest =>
                  obtain ⟨rfl, rfl, SC⟩ := hcut
                  go_upto_if 94 with fail
                  go_cut [12] from 12 to 136 (fun v12 wx => v12 = .int .i64 (k : Int) ∧ SW w #[.slice A n c, .string r, .int .i64 e] rl bl (ol.set k x3) wx)
                  case first =>
                    cases b3 with
                    | false =>
                      have hz : x2 = x3 := by rw [← Hx3.out, sv3, Hb3.out]; exact Hx2.out.symm
                      rw [hz] at SC
                      have SC2 := Lib.hid SC
                      clear SC hz
                      go_wp2_with fail
                      go_meet
                      case rel => exact ⟨rfl, SC2.out⟩
                    | true =>
                      have h0 : 0 < k := by
                        have := Hb3.out
                        unfold sc3 at this
                        simp only [Bool.and_eq_true, decide_eq_true_eq] at this
                        exact this.1.1.1
                      obtain ⟨m, Hm⟩ : ∃ m, Hid (k = m + 1) := ⟨k - 1, by show _ = _; omega⟩
                      have hmr : m < r.size := by have := Hm.out; omega
                      have hmr2 : (m : Int) < (r.size : Int) := by omega
                      have hw1 : IntKind.i64.wrap ((k : Int) - 1) = (m : Int) := by rw [IntWalk.i64_in _ (by omega)]; have := Hm.out; omega
                      have hm2 : (m : Int) < 41 := by have := Hm.out; omega
                      have dK := row_cell SC.b3 k (by rw [List.length_set]; have := HB.out.1; omega)
                      rw [List.getD_eq_getElem?_getD, List.getElem?_set_self (by have := HB.out.1; omega), Option.getD_some] at dK
                      have dO := row_cell SC.b2 m (by have := Hbl.out.1; have := Hm.out; omega)
                      obtain ⟨y, Hy⟩ : ∃ y, Hid (bl.getD m 0 = y) := ⟨_, rfl⟩
                      have hyb := Hbl.out.2 m
                      rw [Hy.out] at dO hyb
                      have hlt := SC.lt
                      have hw3 : IntKind.i64.wrap (y + 1) = y + 1 := IntWalk.i64_in _ (by omega)
                      have hz : x3 = min x2 (y + 1) := by rw [← Hx3.out, sv3, Hb3.out, cond_true, Hx2.out, Hm.out, Nat.add_sub_cancel, Hy.out]
                      have Hz := Lib.hid hz
                      clear hz h0 hyb
                      go_wp2_with fail
                      have hS : (fun V : World => V.cell? ⟨w.heap.size + 1 + 1 + 1, k, none⟩ = some (.int .i64 (x2)) ∧ V.cell? ⟨w.heap.size + 1 + 1, m, none⟩ = some (.int .i64 (y))) { wc with drawn := wc.drawn + 1 } := ⟨dK, dO⟩
                      have hSa : ∀ u v : Int, (fun V : World => V.cell? ⟨w.heap.size + 1 + 1 + 1, k, none⟩ = some (.int .i64 (x2)) ∧ V.cell? ⟨w.heap.size + 1 + 1, m, none⟩ = some (.int .i64 (y))) ((wc.alloc (.cells #[.int .i64 u, .int .i64 v] 3)).drew) := fun u v => by
                        have hba : Below wc.heap.size wc ((wc.alloc (.cells #[.int .i64 u, .int .i64 v] 3)).drew) := ((Below.refl _ wc).alloc (Nat.le_refl _) _).drew
                        exact ⟨(hba.cell (p := ⟨w.heap.size + 1 + 1 + 1, k, none⟩) (by simp; omega)).trans dK, (hba.cell (p := ⟨w.heap.size + 1 + 1, m, none⟩) (by simp; omega)).trans dO⟩
                      refine wp_region_head 11 (fun V => V.cell? ⟨w.heap.size + 1 + 1 + 1, k, none⟩ = some (.int .i64 (x2)) ∧ V.cell? ⟨w.heap.size + 1 + 1, m, none⟩ = some (.int .i64 (y))) (by kernel_rfl) (by kernel_rfl) ?_
                      refine take_op 0 (v := ?_) rfl (by kernel_rfl) (by kernel_rfl) rfl (by kernel_rfl) (by kernel_rfl) (by kernel_rfl) (fun _ _ _ h => h) hS (Or.inl ⟨by rfl, ?_⟩) ?_
                      rotate_left
                      · intro W hW; obtain ⟨g0, g1⟩ := hW; go_simp; with_reducible rfl
                      simp only [Act.put, List.setIfInBounds_toArray, List.set_cons_zero, List.set_cons_succ]
                      refine take_op 1 (v := ?_) rfl (by kernel_rfl) (by kernel_rfl) rfl (by kernel_rfl) (by kernel_rfl) (by kernel_rfl) (fun _ _ _ h => h) hS (Or.inl ⟨by rfl, ?_⟩) ?_
                      rotate_left
                      · intro W hW; obtain ⟨g0, g1⟩ := hW; go_simp; with_reducible rfl
                      simp only [Act.put, List.setIfInBounds_toArray, List.set_cons_zero, List.set_cons_succ]
                      refine take_op 2 (v := ?_) rfl (by kernel_rfl) (by kernel_rfl) rfl (by kernel_rfl) (by kernel_rfl) (by kernel_rfl) (fun _ _ _ h => h) hS (Or.inl ⟨by rfl, ?_⟩) ?_
                      rotate_left
                      · intro W hW; obtain ⟨g0, g1⟩ := hW; go_simp; with_reducible rfl
                      simp only [Act.put, List.setIfInBounds_toArray, List.set_cons_zero, List.set_cons_succ]
                      refine take_op 3 (v := ?_) rfl (by kernel_rfl) (by kernel_rfl) rfl (by kernel_rfl) (by kernel_rfl) (by kernel_rfl) (fun _ _ _ h => h) hS (Or.inl ⟨by rfl, ?_⟩) ?_
                      rotate_left
                      · intro W hW; obtain ⟨g0, g1⟩ := hW; go_simp; with_reducible rfl
                      simp only [Act.put, List.setIfInBounds_toArray, List.set_cons_zero, List.set_cons_succ]
                      refine take_op 4 (v := ?_) rfl (by kernel_rfl) (by kernel_rfl) rfl (by kernel_rfl) (by kernel_rfl) (by kernel_rfl) (fun _ _ _ h => h) hS (Or.inl ⟨by rfl, ?_⟩) ?_
                      rotate_left
                      · intro W hW; obtain ⟨g0, g1⟩ := hW; go_simp; with_reducible rfl
                      simp only [Act.put, List.setIfInBounds_toArray, List.set_cons_zero, List.set_cons_succ]
                      refine take_op 5 (v := ?_) rfl (by kernel_rfl) (by kernel_rfl) rfl (by kernel_rfl) (by kernel_rfl) (by kernel_rfl) (fun _ _ _ h => h) hS (Or.inl ⟨by rfl, ?_⟩) ?_
                      rotate_left
                      · intro W hW; obtain ⟨g0, g1⟩ := hW; go_simp; with_reducible rfl
                      simp only [Act.put, List.setIfInBounds_toArray, List.set_cons_zero, List.set_cons_succ]
                      refine take_op 6 (v := ?_) rfl (by kernel_rfl) (by kernel_rfl) rfl (by kernel_rfl) (by kernel_rfl) (by kernel_rfl) (fun _ _ _ h => h) hS (Or.inl ⟨by rfl, ?_⟩) ?_
                      rotate_left
                      · intro W hW; obtain ⟨g0, g1⟩ := hW; go_simp; with_reducible rfl
                      simp only [Act.put, List.setIfInBounds_toArray, List.set_cons_zero, List.set_cons_succ]
                      refine take_op 7 (v := ?_) rfl (by kernel_rfl) (by kernel_rfl) rfl (by kernel_rfl) (by kernel_rfl) (by kernel_rfl) (fun _ _ _ h => h) hS (Or.inl ⟨by rfl, ?_⟩) ?_
                      rotate_left
                      · intro W hW; obtain ⟨g0, g1⟩ := hW; go_simp; with_reducible rfl
                      simp only [Act.put, List.setIfInBounds_toArray, List.set_cons_zero, List.set_cons_succ]
                      refine take_op 8 (v := ?_) rfl (by kernel_rfl) (by kernel_rfl) rfl (by kernel_rfl) (by kernel_rfl) (by kernel_rfl) (fun _ _ _ h => h) hS (Or.inl ⟨by rfl, ?_⟩) ?_
                      rotate_left
                      · intro W hW; obtain ⟨g0, g1⟩ := hW; go_simp; with_reducible rfl
                      simp only [Act.put, List.setIfInBounds_toArray, List.set_cons_zero, List.set_cons_succ]
                      refine only_op 9 rfl (by kernel_rfl) (by kernel_rfl) (by kernel_rfl) (by rfl) (fun K hK => ?_)
                      go_simp
                      refine hK _ _ (hSa _ _) ?_
                      clear hK K
                      try simp only [Act.put, List.setIfInBounds_toArray, List.set_cons_zero, List.set_cons_succ]
                      refine only_op 10 rfl (by kernel_rfl) (by kernel_rfl) (by kernel_rfl) (by rfl) (fun K hK => ?_)
                      go_simp
                      change Calls _ _ _ (wc.drew.alloc _) _
                      refine (min_newG (x2) (y + 1) wc.drew wc.heap.size rfl).mono ?_
                      rintro e w9 ⟨rfl, rfl⟩
                      refine hK _ _ (hSa _ _) ?_
                      clear hK K
                      try simp only [Act.put, List.setIfInBounds_toArray, List.set_cons_zero, List.set_cons_succ]
                      refine anyH_left (by kernel_rfl) (by kernel_rfl) ?_
                      change wpAny Try.prog Region.Mode.any _ _ 2 _ _ ((wc.alloc (.cells #[.int .i64 (x2), .int .i64 (y + 1)] 3)).drew)
                      have m9 := (hSa (x2) (y + 1)).1
                      have f9 : ((wc.alloc (.cells #[.int .i64 (x2), .int .i64 (y + 1)] 3)).drew).frozen? ⟨w.heap.size + 1 + 1 + 1, k, none⟩ = false := row_frozen ((SC.alloc (.cells #[.int .i64 (x2), .int .i64 (y + 1)] 3)).drew).b3 k
                      refine tail_op 11 rfl (by kernel_rfl) (by rfl) (fun K hK => ?_)
                      go_simp
                      refine hK _ _ ?_
                      clear hK K
                      try simp only [Act.put, List.setIfInBounds_toArray, List.set_cons_zero, List.set_cons_succ]
                      refine tail_op 12 rfl (by kernel_rfl) (by rfl) (fun K hK => ?_)
                      go_simp
                      refine hK _ _ ?_
                      clear hK K
                      try simp only [Act.put, List.setIfInBounds_toArray, List.set_cons_zero, List.set_cons_succ]
                      refine wpAny_done (by kernel_rfl) ?_ _
                      simp only [Exit.then]
                      have h9 := ((SC.set k (min (x2) (y + 1))).alloc (.cells #[.int .i64 (x2), .int .i64 (y + 1)] 3)).drew
                      have hl9 : (ol.set k (x2)).set k (min (x2) (y + 1)) = ol.set k x3 := by rw [List.set_set, Hz.out]
                      rw [hl9] at h9
                      have H9 := Lib.hid h9
                      clear h9 hl9
                      go_wp2_with fail
                      go_meet
                      case rel => exact ⟨rfl, H9.out⟩
                  case rest =>
                    obtain ⟨rfl, SC⟩ := hcut
                    go_upto_region 13 with fail
                    go_cut [12, 116] from 12 to 136 (fun v12 v116 wx => v12 = .int .i64 (k : Int) ∧ v116 = .bool b4 ∧ SW w #[.slice A n c, .string r, .int .i64 e] rl bl (ol.set k (x3)) wx)
                    case first =>
                      have SN2 := Lib.hid SC
                      have cbox : wc.cell? ⟨w.heap.size, 1, none⟩ = some (.string r) := by simp [World.cell?, SC.b0]
                      clear SC
                      by_cases h0 : k = 0
                      · have h1 : ¬ (0 : Int) < (k : Int) := by omega
                        have hb : b4 = false := by rw [← Hb4.out, sc4, decide_eq_false (show ¬ 0 < k by omega)]; rfl
                        clear h0
                        go_wp2_with fail
                        go_meet
                        case rel => exact ⟨rfl, by rw [hb], SN2.out⟩
                      · have h1 : (0 : Int) < (k : Int) := by omega
                        obtain ⟨m, Hm⟩ : ∃ m, Hid (k = m + 1) := ⟨k - 1, by show _ = _; omega⟩
                        have hmr : m < r.size := by have := Hm.out; omega
                        have hmr2 : (m : Int) < (r.size : Int) := by omega
                        have hw1 : IntKind.i64.wrap ((k : Int) - 1) = (m : Int) := by rw [IntWalk.i64_in _ (by omega)]; have := Hm.out; omega
                        have hm2 : (m : Int) < 41 := by have := Hm.out; omega
                        have hcmp : (((r[m]'hmr).toNat : Int) == 32) = b4 := by
                          rw [show (32 : Int) = ((32 : UInt8).toNat : Int) from rfl, u8_beq, ← Hb4.out, sc4, Hm.out, Nat.add_sub_cancel, tl_getD hmr, decide_eq_true (Nat.succ_pos m)]
                          rfl
                        clear h0
                        go_wp2_with fail
                        go_meet
                        case rel => exact ⟨rfl, by first | rfl | rw [hcmp], SN2.out⟩
                    case rest =>
                      obtain ⟨rfl, rfl, SC⟩ := hcut
                      go_upto_if 116 with fail
                      go_cut [12] from 12 to 136 (fun v12 wx => v12 = .int .i64 (k : Int) ∧ SW w #[.slice A n c, .string r, .int .i64 e] rl bl (ol.set k x4) wx)
                      case first =>
                        cases b4 with
                        | false =>
                          have hz : x3 = x4 := by rw [← Hx4.out, sv4, Hb4.out]; exact Hx3.out.symm
                          rw [hz] at SC
                          have SC2 := Lib.hid SC
                          clear SC hz
                          go_wp2_with fail
                          go_meet
                          case rel => exact ⟨rfl, SC2.out⟩
                        | true =>
                          have h0 : 0 < k := by
                            have := Hb4.out
                            unfold sc4 at this
                            simp only [Bool.and_eq_true, decide_eq_true_eq] at this
                            exact this.1
                          obtain ⟨m, Hm⟩ : ∃ m, Hid (k = m + 1) := ⟨k - 1, by show _ = _; omega⟩
                          have hmr : m < r.size := by have := Hm.out; omega
                          have hmr2 : (m : Int) < (r.size : Int) := by omega
                          have hw1 : IntKind.i64.wrap ((k : Int) - 1) = (m : Int) := by rw [IntWalk.i64_in _ (by omega)]; have := Hm.out; omega
                          have hm2 : (m : Int) < 41 := by have := Hm.out; omega
                          have dK := row_cell SC.b3 k (by rw [List.length_set]; have := HB.out.1; omega)
                          rw [List.getD_eq_getElem?_getD, List.getElem?_set_self (by have := HB.out.1; omega), Option.getD_some] at dK
                          have dO := row_cell SC.b3 m (by rw [List.length_set]; have := HB.out.1; have := Hm.out; omega)
                          rw [List.getD_eq_getElem?_getD, List.getElem?_set_ne (by have := Hm.out; omega), ← List.getD_eq_getElem?_getD] at dO
                          obtain ⟨y, Hy⟩ : ∃ y, Hid (ol.getD m 0 = y) := ⟨_, rfl⟩
                          have hyb := HB.out.2 m
                          rw [Hy.out] at dO hyb
                          have hlt := SC.lt
                          have hw3 : IntKind.i64.wrap (y + 1) = y + 1 := IntWalk.i64_in _ (by omega)
                          have hz : x4 = min x3 (y + 1) := by rw [← Hx4.out, sv4, Hb4.out, cond_true, Hx3.out, ← Hp.out, Hm.out, Nat.add_sub_cancel, Hy.out]
                          have Hz := Lib.hid hz
                          clear hz h0 hyb
                          go_wp2_with fail
                          have hS : (fun V : World => V.cell? ⟨w.heap.size + 1 + 1 + 1, k, none⟩ = some (.int .i64 (x3)) ∧ V.cell? ⟨w.heap.size + 1 + 1 + 1, m, none⟩ = some (.int .i64 (y))) { wc with drawn := wc.drawn + 1 } := ⟨dK, dO⟩
                          have hSa : ∀ u v : Int, (fun V : World => V.cell? ⟨w.heap.size + 1 + 1 + 1, k, none⟩ = some (.int .i64 (x3)) ∧ V.cell? ⟨w.heap.size + 1 + 1 + 1, m, none⟩ = some (.int .i64 (y))) ((wc.alloc (.cells #[.int .i64 u, .int .i64 v] 3)).drew) := fun u v => by
                            have hba : Below wc.heap.size wc ((wc.alloc (.cells #[.int .i64 u, .int .i64 v] 3)).drew) := ((Below.refl _ wc).alloc (Nat.le_refl _) _).drew
                            exact ⟨(hba.cell (p := ⟨w.heap.size + 1 + 1 + 1, k, none⟩) (by simp; omega)).trans dK, (hba.cell (p := ⟨w.heap.size + 1 + 1 + 1, m, none⟩) (by simp; omega)).trans dO⟩
                          refine wp_region_head 11 (fun V => V.cell? ⟨w.heap.size + 1 + 1 + 1, k, none⟩ = some (.int .i64 (x3)) ∧ V.cell? ⟨w.heap.size + 1 + 1 + 1, m, none⟩ = some (.int .i64 (y))) (by kernel_rfl) (by kernel_rfl) ?_
                          refine take_op 0 (v := ?_) rfl (by kernel_rfl) (by kernel_rfl) rfl (by kernel_rfl) (by kernel_rfl) (by kernel_rfl) (fun _ _ _ h => h) hS (Or.inl ⟨by rfl, ?_⟩) ?_
                          rotate_left
                          · intro W hW; obtain ⟨g0, g1⟩ := hW; go_simp; with_reducible rfl
                          simp only [Act.put, List.setIfInBounds_toArray, List.set_cons_zero, List.set_cons_succ]
                          refine take_op 1 (v := ?_) rfl (by kernel_rfl) (by kernel_rfl) rfl (by kernel_rfl) (by kernel_rfl) (by kernel_rfl) (fun _ _ _ h => h) hS (Or.inl ⟨by rfl, ?_⟩) ?_
                          rotate_left
                          · intro W hW; obtain ⟨g0, g1⟩ := hW; go_simp; with_reducible rfl
                          simp only [Act.put, List.setIfInBounds_toArray, List.set_cons_zero, List.set_cons_succ]
                          refine take_op 2 (v := ?_) rfl (by kernel_rfl) (by kernel_rfl) rfl (by kernel_rfl) (by kernel_rfl) (by kernel_rfl) (fun _ _ _ h => h) hS (Or.inl ⟨by rfl, ?_⟩) ?_
                          rotate_left
                          · intro W hW; obtain ⟨g0, g1⟩ := hW; go_simp; with_reducible rfl
                          simp only [Act.put, List.setIfInBounds_toArray, List.set_cons_zero, List.set_cons_succ]
                          refine take_op 3 (v := ?_) rfl (by kernel_rfl) (by kernel_rfl) rfl (by kernel_rfl) (by kernel_rfl) (by kernel_rfl) (fun _ _ _ h => h) hS (Or.inl ⟨by rfl, ?_⟩) ?_
                          rotate_left
                          · intro W hW; obtain ⟨g0, g1⟩ := hW; go_simp; with_reducible rfl
                          simp only [Act.put, List.setIfInBounds_toArray, List.set_cons_zero, List.set_cons_succ]
                          refine take_op 4 (v := ?_) rfl (by kernel_rfl) (by kernel_rfl) rfl (by kernel_rfl) (by kernel_rfl) (by kernel_rfl) (fun _ _ _ h => h) hS (Or.inl ⟨by rfl, ?_⟩) ?_
                          rotate_left
                          · intro W hW; obtain ⟨g0, g1⟩ := hW; go_simp; with_reducible rfl
                          simp only [Act.put, List.setIfInBounds_toArray, List.set_cons_zero, List.set_cons_succ]
                          refine take_op 5 (v := ?_) rfl (by kernel_rfl) (by kernel_rfl) rfl (by kernel_rfl) (by kernel_rfl) (by kernel_rfl) (fun _ _ _ h => h) hS (Or.inl ⟨by rfl, ?_⟩) ?_
                          rotate_left
                          · intro W hW; obtain ⟨g0, g1⟩ := hW; go_simp; with_reducible rfl
                          simp only [Act.put, List.setIfInBounds_toArray, List.set_cons_zero, List.set_cons_succ]
                          refine take_op 6 (v := ?_) rfl (by kernel_rfl) (by kernel_rfl) rfl (by kernel_rfl) (by kernel_rfl) (by kernel_rfl) (fun _ _ _ h => h) hS (Or.inl ⟨by rfl, ?_⟩) ?_
                          rotate_left
                          · intro W hW; obtain ⟨g0, g1⟩ := hW; go_simp; with_reducible rfl
                          simp only [Act.put, List.setIfInBounds_toArray, List.set_cons_zero, List.set_cons_succ]
                          refine take_op 7 (v := ?_) rfl (by kernel_rfl) (by kernel_rfl) rfl (by kernel_rfl) (by kernel_rfl) (by kernel_rfl) (fun _ _ _ h => h) hS (Or.inl ⟨by rfl, ?_⟩) ?_
                          rotate_left
                          · intro W hW; obtain ⟨g0, g1⟩ := hW; go_simp; with_reducible rfl
                          simp only [Act.put, List.setIfInBounds_toArray, List.set_cons_zero, List.set_cons_succ]
                          refine take_op 8 (v := ?_) rfl (by kernel_rfl) (by kernel_rfl) rfl (by kernel_rfl) (by kernel_rfl) (by kernel_rfl) (fun _ _ _ h => h) hS (Or.inl ⟨by rfl, ?_⟩) ?_
                          rotate_left
                          · intro W hW; obtain ⟨g0, g1⟩ := hW; go_simp; with_reducible rfl
                          simp only [Act.put, List.setIfInBounds_toArray, List.set_cons_zero, List.set_cons_succ]
                          refine only_op 9 rfl (by kernel_rfl) (by kernel_rfl) (by kernel_rfl) (by rfl) (fun K hK => ?_)
                          go_simp
                          refine hK _ _ (hSa _ _) ?_
                          clear hK K
                          try simp only [Act.put, List.setIfInBounds_toArray, List.set_cons_zero, List.set_cons_succ]
                          refine only_op 10 rfl (by kernel_rfl) (by kernel_rfl) (by kernel_rfl) (by rfl) (fun K hK => ?_)
                          go_simp
                          change Calls _ _ _ (wc.drew.alloc _) _
                          refine (min_newG (x3) (y + 1) wc.drew wc.heap.size rfl).mono ?_
                          rintro e w9 ⟨rfl, rfl⟩
                          refine hK _ _ (hSa _ _) ?_
                          clear hK K
                          try simp only [Act.put, List.setIfInBounds_toArray, List.set_cons_zero, List.set_cons_succ]
                          refine anyH_left (by kernel_rfl) (by kernel_rfl) ?_
                          change wpAny Try.prog Region.Mode.any _ _ 2 _ _ ((wc.alloc (.cells #[.int .i64 (x3), .int .i64 (y + 1)] 3)).drew)
                          have m9 := (hSa (x3) (y + 1)).1
                          have f9 : ((wc.alloc (.cells #[.int .i64 (x3), .int .i64 (y + 1)] 3)).drew).frozen? ⟨w.heap.size + 1 + 1 + 1, k, none⟩ = false := row_frozen ((SC.alloc (.cells #[.int .i64 (x3), .int .i64 (y + 1)] 3)).drew).b3 k
                          refine tail_op 11 rfl (by kernel_rfl) (by rfl) (fun K hK => ?_)
                          go_simp
                          refine hK _ _ ?_
                          clear hK K
                          try simp only [Act.put, List.setIfInBounds_toArray, List.set_cons_zero, List.set_cons_succ]
                          refine tail_op 12 rfl (by kernel_rfl) (by rfl) (fun K hK => ?_)
                          go_simp
                          refine hK _ _ ?_
                          clear hK K
                          try simp only [Act.put, List.setIfInBounds_toArray, List.set_cons_zero, List.set_cons_succ]
                          refine wpAny_done (by kernel_rfl) ?_ _
                          simp only [Exit.then]
                          have h9 := ((SC.set k (min (x3) (y + 1))).alloc (.cells #[.int .i64 (x3), .int .i64 (y + 1)] 3)).drew
                          have hl9 : (ol.set k (x3)).set k (min (x3) (y + 1)) = ol.set k x4 := by rw [List.set_set, Hz.out]
                          rw [hl9] at h9
                          have H9 := Lib.hid h9
                          clear h9 hl9
                          go_wp2_with fail
                          go_meet
                          case rel => exact ⟨rfl, H9.out⟩
                      case rest =>
                        obtain ⟨rfl, SC⟩ := hcut
                        have dK := row_cell SC.b3 k (by rw [List.length_set]; have := HB.out.1; omega)
                        rw [List.getD_eq_getElem?_getD, List.getElem?_set_self (by have := HB.out.1; omega), Option.getD_some] at dK
                        have fK := row_frozen SC.b3 k
                        have hlt := SC.lt
                        have SC2 := Lib.hid SC
                        clear SC
                        obtain ⟨g, hg⟩ : ∃ g, gk = g + 1 := ⟨gk - 1, by have := Hkg.out; omega⟩
                        have hv : min x4 1048576 = signAt (tl r) rl bl last sg k p := by rw [signAt, if_neg (by rw [tl_size]; omega), Hx4.out]
                        have hst : signTo (tl r) rl bl last sg (k + 1) = ol.set k (min x4 1048576) := by rw [signTo, Hol.out, Hp.out, hv]
                        have Hst := Lib.hid hst
                        have Hg := Lib.hid hg
                        clear hg hv hst
                        go_wp2_with (go_at_call 116; refine (min_newG _ _ _ _ rfl).mono ?_; rintro e w' ⟨rfl, rfl⟩)
                        go_roundg g
                        case measure => have := Hg.out; omega
                        case rel =>
                          refine ⟨k + 1, ⟨by have := Hkg.out; have := Hg.out; omega⟩, congrArg (Value.int .i64) (by omega), ?_⟩
                          have h9 := (SC2.out.set k (min x4 1048576)).alloc (.cells #[.int .i64 x4, .int .i64 1048576] 3)
                          rw [List.set_set] at h9
                          rw [Hst.out]
                          exact h9

      · have hkr2 : (r.size : Int) < (k : Int) := by omega
        obtain ⟨g, hg⟩ : ∃ g, gk = g + 1 := ⟨gk - 1, by have := Hkg.out; omega⟩
        have hst : signTo (tl r) rl bl last sg (k + 1) = ol.set k 1048576 := by rw [signTo, Hol.out, signAt, if_pos (by rw [tl_size]; omega)]
        have Hst := Lib.hid hst
        have Hg := Lib.hid hg
        have S2 := Lib.hid S
        clear hg hst S
        go_wp2_with fail
        go_roundg g
        case measure => have := Hg.out; omega
        case rel =>
          refine ⟨k + 1, ⟨by have := Hkg.out; have := Hg.out; omega⟩, congrArg (Value.int .i64) (by omega), ?_⟩
          rw [Hst.out]
          exact S2.out.set k 1048576
    · have hk41 : k = 41 := by have := Hkg.out; omega
      have hk2 : ¬ (k : Int) < 41 := by omega
      subst hk41
      have hl1 := (signTo_B (tl r) last sg Hrl.out Hbl.out 41).1
      obtain ⟨ol, hol⟩ : ∃ ol, signTo (tl r) rl bl last sg 41 = ol := ⟨_, rfl⟩
      rw [hol] at S hl1
      have hsz : (Try.prog.info? 160).map (·.size) = some (rowC ol).size := by rw [rowC_size, hl1]; kernel_rfl
      obtain ⟨w9, hw9⟩ : ∃ w9, wr.setRow (w.heap.size + 1 + 1 + 1) (rowC ol) = w9 := ⟨_, rfl⟩
      have h9 : w9.heap[w.heap.size + 1 + 1 + 1]? = some (.cells (rowC ol) 160 (0, 0)) := by rw [← hw9]; exact setRow_heap wr _ _ _ _ _ S.b3
      go_wp2_with (first
        | refine wpList_load_row rfl 160 _ rfl (w.heap.size + 1 + 1 + 1) rfl 160 _ (0, 0) _ S.b3 Try.underlying160 rfl hsz ?_
        | (refine wpList_store_row rfl 160 _ _ rfl (w.heap.size + 1 + 1 + 1) (rowC ol) rfl rfl 160 _ S.b3 hsz rfl (rowC_one _) ?_; rw [hw9]))
      refine bodyPost_ret (results_cell_row rfl _ w9 (w.heap.size + 1 + 1 + 1) 160 _ (0, 0) _ rfl h9 Try.underlying160 rfl hsz) rfl ⟨by rw [signL, hol], ?_⟩
      rw [← hw9]
      exact S.bel.trans (below_setRow _ _ (by omega))
  -- END
end Go.Proofs.Ytijmaphbaibllaa.Fl

set_option linter.unusedVariables false
set_option linter.unusedSimpArgs false
set_option linter.unnecessarySimpa false
namespace Go.Proofs.Ytijmaphbaibllaa.Fl
open Go.RowKit Go.Shelf Go.Proofs.YtijmaphbaibllaaW.PrintWords

theorem signL_B (rd : Str) {r before : List Int} (last sg : UInt8) (hr : RowB r) (hb : RowB before) : RowB (signL rd r before last sg) := signTo_B rd last sg hr hb 41

def afterGo (rd : Str) : Str → List Int → List Int → UInt8 → List Int
  | [], r, _, _ => r
  | s :: l, r, b, last => afterGo rd l (signL rd r b last s) r s
/-- The row after some signs. -/
def afterL (rd : Str) (r : List Int) (signs : Str) : List Int := afterGo rd signs r (List.replicate 41 0) 32

theorem afterGo_B (rd : Str) : ∀ (l : Str) (r b : List Int) (last : UInt8), RowB r → RowB b → RowB (afterGo rd l r b last)
  | [], r, b, last, hr, hb => hr
  | s :: l, r, b, last, hr, hb => afterGo_B rd l _ _ _ (signL_B rd last s hr hb) hr
theorem afterL_B (rd : Str) {r : List Int} (signs : Str) (hr : RowB r) : RowB (afterL rd r signs) := afterGo_B rd signs _ _ _ hr RowB.zero

/-- What after's loop keeps. -/
structure AW (w : World) (box : Array Value) (sg : ByteArray) (rl bl : List Int) (W : World) : Prop where
  b0 : W.heap[w.heap.size]? = some (.cells box 124 (0, 0))
  b1 : W.heap[w.heap.size + 1]? = some (.cells (rowC rl) 160 (0, 0))
  b2 : W.heap[w.heap.size + 2]? = some (.cells (rowC (List.replicate 41 0)) 160 (0, 0))
  b3 : W.heap[w.heap.size + 3]? = some (.cells (rowC bl) 160 (0, 0))
  sz : w.heap.size + 4 < W.heap.size
  bel : Below w.heap.size w W
  bytes : Kd.C (Kd.int .u8) W (some ⟨w.heap.size + 4, 0, none⟩) sg.size (bytesOf sg)

theorem AW.below {w : World} {box : Array Value} {sg : ByteArray} {rl bl : List Int} {W W' : World} (h : AW w box sg rl bl W) (hb : Below W.heap.size W W') : AW w box sg rl bl W' := by
  have hl := h.sz
  exact ⟨(hb.block _ (by omega)).trans h.b0, (hb.block _ (by omega)).trans h.b1, (hb.block _ (by omega)).trans h.b2, (hb.block _ (by omega)).trans h.b3, Nat.lt_of_lt_of_le h.sz hb.size, h.bel.trans (hb.mono h.bel.size), Kd.C_below h.bytes hb⟩

theorem setRow_size (w : World) (g : Nat) (cs : Array Value) : (w.setRow g cs).heap.size = w.heap.size := by simp [World.setRow]

theorem addr_add (g k : Nat) : (⟨g, 0, none⟩ : Addr).add k = ⟨g, k, none⟩ := by
  unfold Addr.add
  split
  · rename_i h0; rw [h0]
  · rw [Nat.zero_add]

theorem wanted_none {o : Oper} {y} (h : o.guard = none) : Region.wanted o y = true := by unfold Region.wanted; rw [h]

theorem exec_load_row {P : Program} {ev : Operand → Value} {o : Oper} {ty : TypeId} {x : Operand} (ho : o.op = .load ty x) {W : World} {g t : Nat} {cs : Array Value} {fr : Nat × Nat} {d : TypeDesc} (hx : ev x = .pointer (some ⟨g, 0, none⟩)) (hg : W.heap[g]? = some (.cells cs t fr))
    (hu : P.underlying ty = some d) (hd : (match d with | .struct _ | .array _ _ => true | _ => false) = true) (hi : (P.info? ty).map (·.size) = some cs.size) : (execOp ev o).run P W = .ok (.value (.agg cs)) W := by
  unfold execOp
  simp only [ho, hx, Instr.loadAt, Instr.sureAddr, Sem.run_bind, Sem.run_pure, Result.andThen_ok, run_loadVar_row W g t ty cs fr d hg hu hd hi]

theorem setRow_other' (w : World) (g k : Nat) (cs : Array Value) (h : k ≠ g) : (w.setRow g cs).heap[k]? = w.heap[k]? := setRow_other w g k cs h
theorem AW.set {w : World} {box : Array Value} {sg : ByteArray} {rl bl r2 b2 : List Int} {W : World} (h : AW w box sg rl bl W) : AW w box sg r2 b2 ((W.setRow (w.heap.size + 1) (rowC r2)).setRow (w.heap.size + 3) (rowC b2)) := by
  have h3 : (W.setRow (w.heap.size + 1) (rowC r2)).heap[w.heap.size + 3]? = some (.cells (rowC bl) 160 (0, 0)) := (setRow_other _ _ _ _ (by omega)).trans h.b3
  have hk : ∀ k, k ≠ w.heap.size + 1 → k ≠ w.heap.size + 3 → ((W.setRow (w.heap.size + 1) (rowC r2)).setRow (w.heap.size + 3) (rowC b2)).heap[k]? = W.heap[k]? := fun k h1 h2 => (setRow_other _ _ _ _ h2).trans (setRow_other _ _ _ _ h1)
  refine ⟨(hk _ (by omega) (by omega)).trans h.b0, (setRow_other _ _ _ _ (by omega)).trans (setRow_heap W _ _ _ _ _ h.b1), (hk _ (by omega) (by omega)).trans h.b2, setRow_heap _ _ _ _ _ _ h3, by rw [setRow_size, setRow_size]; exact h.sz, ?_, ?_⟩
  · exact (h.bel.trans (below_setRow _ _ (by omega))).trans (below_setRow _ _ (by omega))
  · refine ⟨h.bytes.1, h.bytes.2.1, fun hn => ?_⟩
    obtain ⟨ad, e, hc⟩ := h.bytes.2.2 hn
    cases e
    refine ⟨_, rfl, fun j p hj => ?_⟩
    obtain ⟨cs, h1, h4, h5⟩ := hc j p hj
    refine ⟨cs, h1, h4, fun i u hu => ?_⟩
    rw [← h5 i u hu, addr_add]
    exact World.cell?_of_block (hk _ (by simp) (by simp))

theorem AW_start (w : World) (box : Array Value) (sg : ByteArray) (rl : List Int) (hs : sg.size ≤ 140737488355328) : AW w box sg rl (List.replicate 41 0) (Lib.bytesWorld ((((w.alloc (.cells box 124)).alloc (.cells (rowC rl) 160)).alloc (.cells (rowC (List.replicate 41 0)) 160)).alloc (.cells (rowC (List.replicate 41 0)) 160)) 5 sg) := by
  obtain ⟨h0, h1, h2, h3, h4, h5⟩ := heap_alloc4 w (.cells box 124) (.cells (rowC rl) 160) (.cells (rowC (List.replicate 41 0)) 160) (.cells (rowC (List.replicate 41 0)) 160)
  generalize ((((w.alloc (.cells box 124)).alloc (.cells (rowC rl) 160)).alloc (.cells (rowC (List.replicate 41 0)) 160)).alloc (.cells (rowC (List.replicate 41 0)) 160)) = W at *
  have hb := bytes_C W sg hs
  rw [h4] at hb
  have hbl : Below W.heap.size W (Lib.bytesWorld W 5 sg) := bytes_below (Below.refl _ _) (Nat.le_refl _) _ _
  exact ⟨(hbl.block _ (by omega)).trans h0, (hbl.block _ (by omega)).trans h1, (hbl.block _ (by omega)).trans h2, (hbl.block _ (by omega)).trans h3, by rw [Lib.bytesWorld_size]; omega, h5.trans (hbl.mono (by omega)), hb⟩


set_option maxRecDepth 100000 in
set_option maxHeartbeats 4000000 in
theorem after_calls (A : Option Addr) (n c : Nat) (r : ByteArray) (e : Int) (rl : List Int) (sg : ByteArray) (w : World) (hr : r.size ≤ 40) (hrl : RowB rl) (hsg : sg.size ≤ 1000) :
    Calls Try.prog 122 #[.agg #[.slice A n c, .string r, .int .i64 e], .agg (rowC rl), .string sg] w fun e w' => e = .returned (.agg (rowC (afterL (tl r) rl (tl sg)))) ∧ Below w.heap.size w w' := by
  have Hrl := Lib.hid hrl
  have kb := fun W => print_bytes (P := Try.prog) 9 90 5 Try.underlying9 Try.underlying90 Try.underlying5 sg W
  have hlen : ((sg.size : Nat) : Int) ≤ 9223372036854775807 := by omega
  clear hrl
  go_enter Try.func122, Try.ntmps122
  go_wp2
  generalize grownCap _ _ _ _ = gc
  go_loopg [8, 14] sg.size (fun g v8 v14 wr => ∃ (k : Nat) (rl' bl' : List Int) (last : UInt8), Aside0 (k + g = sg.size) ∧ v14 = .int .i64 (k : Int) ∧ v8 = .int .u8 (last.toNat : Int) ∧ AW w #[.slice A n c, .string r, .int .i64 e] sg rl' bl' wr ∧ Aside0 (RowB rl' ∧ RowB bl' ∧ afterGo (tl r) ((tl sg).drop k) rl' bl' last = afterL (tl r) rl (tl sg)))
  case atStart =>
    refine ⟨0, rl, List.replicate 41 0, 32, ⟨by omega⟩, rfl, rfl, ?_, ⟨Hrl.out, RowB.zero, rfl⟩⟩
    exact AW_start w _ sg rl (by omega)
  case round =>
    obtain ⟨k, rl', bl', last, Hkg, rfl, rfl, S, Hrow⟩ := hrel
    by_cases hk : k < sg.size
    · have hk2 : (k : Int) < (sg.size : Int) := by omega
      have hk3 : (0 : Int) ≤ (k : Int) := by omega
      obtain ⟨ad, ead, hcell⟩ := C_at S.bytes k (by rw [bytesOf_length]; exact hk)
      cases ead
      have hbk : (bytesOf sg)[k]'(by rw [bytesOf_length]; exact hk) = ((sg[k]'hk).toNat : Int) := by simp [bytesOf]; rfl
      rw [hbk] at hcell
      have hlt := S.sz
      have Hk := Lib.hid hk
      have hdr : (tl sg).drop k = (sg[k]'hk) :: (tl sg).drop (k + 1) := by
        have h1 : k < (tl sg).length := by rw [tl_size]; exact hk
        rw [List.drop_eq_getElem_cons h1]
        congr 1
      obtain ⟨s, hs⟩ : ∃ s, sg[k]'hk = s := ⟨_, rfl⟩
      rw [hs] at hcell hdr
      have Hdr := Lib.hid hdr
      rw [addr_add] at hcell
      have hcell2 : wr.cell? ⟨w.heap.size + 1 + 1 + 1 + 1, k, none⟩ = some (.int .u8 (s.toNat : Int)) := hcell
      clear hk hbk hs hdr hcell
      have hszr : Hid ((Try.prog.info? 160).map (·.size) = some (rowC rl').size) := by show _ = _; rw [rowC_size, Hrow.out.1.1]; kernel_rfl
      have hszb : Hid ((Try.prog.info? 160).map (·.size) = some (rowC bl').size) := by show _ = _; rw [rowC_size, Hrow.out.2.1.1]; kernel_rfl
      obtain ⟨L, HL⟩ : ∃ L, Hid (signL (tl r) rl' bl' last s = L) := ⟨_, rfl⟩
      have hLB : Hid (RowB L) := by show RowB L; rw [← HL.out]; exact signL_B (tl r) last s Hrow.out.1 Hrow.out.2.1
      have Hsg := Lib.hid (sign_calls A n c r e rl' bl' last s wr.drew hr Hrow.out.1 Hrow.out.2.1)
      rw [HL.out] at Hsg
      have hszs : Hid ((Try.prog.info? 160).map (·.size) = some (rowC L).size) := by show _ = _; rw [rowC_size, hLB.out.1]; kernel_rfl
      have hold1 : Hid ((rowC rl').size = (rowC L).size) := by show _ = _; rw [rowC_size, rowC_size, Hrow.out.1.1, hLB.out.1]
      have hold2 : Hid ((rowC bl').size = (rowC rl').size) := by show _ = _; rw [rowC_size, rowC_size, Hrow.out.1.1, Hrow.out.2.1.1]
      go_upto_region 6 with fail
      have hS : (fun V : World => AW w #[.slice A n c, .string r, .int .i64 e] sg rl' bl' V) { wr with drawn := wr.drawn + 1 } := S.below ((Below.refl _ wr).drew)
      refine wp_region_head 7 (fun V => AW w #[.slice A n c, .string r, .int .i64 e] sg rl' bl' V) (by kernel_rfl) (by kernel_rfl) ?_
      refine take_op 0 (v := .agg #[.slice A n c, .string r, .int .i64 e]) rfl (by kernel_rfl) (by kernel_rfl) rfl (by kernel_rfl) (by kernel_rfl) (by kernel_rfl) (fun _ _ _ h => h) hS (Or.inl ⟨wanted_none rfl, ?_⟩) ?_
      · intro W hW; exact exec_load_row rfl rfl hW.b0 Try.underlying124 rfl (by kernel_rfl)
      simp only [Act.put, List.setIfInBounds_toArray, List.set_cons_zero, List.set_cons_succ]
      refine take_op 1 (v := .agg (rowC rl')) rfl (by kernel_rfl) (by kernel_rfl) rfl (by kernel_rfl) (by kernel_rfl) (by kernel_rfl) (fun _ _ _ h => h) hS (Or.inl ⟨wanted_none rfl, ?_⟩) ?_
      · intro W hW; exact exec_load_row rfl rfl hW.b1 Try.underlying160 rfl hszr.out
      simp only [Act.put, List.setIfInBounds_toArray, List.set_cons_zero, List.set_cons_succ]
      refine take_op 2 (v := .agg (rowC bl')) rfl (by kernel_rfl) (by kernel_rfl) rfl (by kernel_rfl) (by kernel_rfl) (by kernel_rfl) (fun _ _ _ h => h) hS (Or.inl ⟨wanted_none rfl, ?_⟩) ?_
      · intro W hW; exact exec_load_row rfl rfl hW.b3 Try.underlying160 rfl hszb.out
      simp only [Act.put, List.setIfInBounds_toArray, List.set_cons_zero, List.set_cons_succ]
      refine take_op 3 (v := ?_) rfl (by kernel_rfl) (by kernel_rfl) rfl (by kernel_rfl) (by kernel_rfl) (by kernel_rfl) (fun _ _ _ h => h) hS (Or.inl ⟨wanted_none rfl, ?_⟩) ?_
      rotate_left
      · intro W hW; go_simp; with_reducible rfl
      simp only [Act.put, List.setIfInBounds_toArray, List.set_cons_zero, List.set_cons_succ]
      refine take_op 4 (v := ?_) rfl (by kernel_rfl) (by kernel_rfl) rfl (by kernel_rfl) (by kernel_rfl) (by kernel_rfl) (fun _ _ _ h => h) hS (Or.inl ⟨wanted_none rfl, ?_⟩) ?_
      rotate_left
      · intro W hW; go_simp; with_reducible rfl
      simp only [Act.put, List.setIfInBounds_toArray, List.set_cons_zero, List.set_cons_succ]
      refine take_op 6 (v := .agg (rowC rl')) rfl (by kernel_rfl) (by kernel_rfl) rfl (by kernel_rfl) (by kernel_rfl) (by kernel_rfl) (fun _ _ _ h => h) hS (Or.inl ⟨wanted_none rfl, ?_⟩) ?_
      · intro W hW; exact exec_load_row rfl rfl hW.b1 Try.underlying160 rfl hszr.out
      simp only [Act.put, List.setIfInBounds_toArray, List.set_cons_zero, List.set_cons_succ]
      refine only_op 5 rfl (by kernel_rfl) (by kernel_rfl) (by kernel_rfl) (wanted_none rfl) ?_
      intro K hK
      go_simp
      refine Hsg.out.mono ?_
      rintro e w5 ⟨rfl, hb5⟩
      have S5 := (S.below ((Below.refl _ wr).drew)).below hb5
      refine hK _ _ S5 ?_
      clear hK K
      try simp only [Act.put, List.setIfInBounds_toArray, List.set_cons_zero, List.set_cons_succ]
      refine anyH_left (by kernel_rfl) (by kernel_rfl) ?_
      change wpAny Try.prog Region.Mode.any _ _ 2 _ _ w5
      refine tail_op 7 rfl (by kernel_rfl) (wanted_none rfl) ?_
      intro K hK
      refine wp_store_row 160 (.tmp 4) (.tmp 23) ?h0 (w.heap.size + 1) (rowC L) ?h1 ?h2 160 (rowC rl') ?h3 ?h4 ?h5 ?h6 ?_
      case h0 => rfl
      case h1 => rfl
      case h2 => rfl
      case h3 => exact S5.b1
      case h4 => exact hszs.out
      case h5 => exact hold1.out
      case h6 => exact rowC_one _
      refine hK _ _ ?_
      clear hK K
      try simp only [Act.put, List.setIfInBounds_toArray, List.set_cons_zero, List.set_cons_succ]
      have h3 : (w5.setRow (w.heap.size + 1) (rowC L)).heap[w.heap.size + 3]? = some (.cells (rowC bl') 160 (0, 0)) := (setRow_other _ _ _ _ (by omega)).trans S5.b3
      refine tail_op 8 rfl (by kernel_rfl) (wanted_none rfl) ?_
      intro K hK
      refine wp_store_row 160 (.tmp 7) (.tmp 24) ?g0 (w.heap.size + 3) (rowC rl') ?g1 ?g2 160 (rowC bl') ?g3 ?g4 ?g5 ?g6 ?_
      case g0 => rfl
      case g1 => rfl
      case g2 => rfl
      case g3 => exact h3
      case g4 => exact hszr.out
      case g5 => exact hold2.out
      case g6 => exact rowC_one _
      refine hK _ _ ?_
      clear hK K
      try simp only [Act.put, List.setIfInBounds_toArray, List.set_cons_zero, List.set_cons_succ]
      refine wpAny_done (by kernel_rfl) ?_ _
      simp only [Exit.then]
      have S6 : AW w #[.slice A n c, .string r, .int .i64 e] sg L rl' ((w5.setRow (w.heap.size + 1) (rowC L)).setRow (w.heap.size + 3) (rowC rl')) := S5.set
      have S7 := Lib.hid S6
      clear S6 hS S5 h3 hb5
      go_wp2_with fail
      obtain ⟨g, hg⟩ : ∃ g, gk = g + 1 := ⟨gk - 1, by have := Hkg.out; omega⟩
      go_roundg g
      case measure => omega
      case rel =>
        refine ⟨k + 1, _, _, s, ⟨by have := Hkg.out; omega⟩, congrArg (Value.int .i64) (by omega), rfl, S7.out, ⟨hLB.out, Hrow.out.1, ?_⟩⟩
        have := Hrow.out.2.2
        rw [Hdr.out, afterGo, HL.out] at this
        exact this
    · have hke : k = sg.size := by have := Hkg.out; omega
      have hk2 : ¬ (k : Int) < (sg.size : Int) := by omega
      have hfin : rl' = afterL (tl r) rl (tl sg) := by
        have := Hrow.out.2.2
        rw [hke, List.drop_of_length_le (by rw [tl_size]; omega)] at this
        exact this
      have hl1 := Hrow.out.1.1
      have Hfin := Lib.hid hfin
      clear hfin hke
      have hsz : (Try.prog.info? 160).map (·.size) = some (rowC rl').size := by rw [rowC_size, hl1]; kernel_rfl
      obtain ⟨w9, hw9⟩ : ∃ w9, wr.setRow (w.heap.size + 1 + 1) (rowC rl') = w9 := ⟨_, rfl⟩
      have h9 : w9.heap[w.heap.size + 1 + 1]? = some (.cells (rowC rl') 160 (0, 0)) := by rw [← hw9]; exact setRow_heap wr _ _ _ _ _ S.b2
      go_wp2_with (first
        | refine wpList_load_row rfl 160 _ rfl (w.heap.size + 1) rfl 160 _ (0, 0) _ S.b1 Try.underlying160 rfl hsz ?_
        | (refine wpList_store_row rfl 160 _ _ rfl (w.heap.size + 1 + 1) (rowC rl') rfl rfl 160 _ S.b2 hsz (by rw [rowC_size, rowC_size, hl1]; rfl) (rowC_one _) ?_; rw [hw9]))
      refine bodyPost_ret (results_cell_row rfl _ w9 (w.heap.size + 1 + 1) 160 _ (0, 0) _ rfl h9 Try.underlying160 rfl hsz) rfl ⟨by rw [Hfin.out], ?_⟩
      rw [← hw9]
      exact S.bel.trans (below_setRow _ _ (by omega))
end Go.Proofs.Ytijmaphbaibllaa.Fl

set_option linter.unusedVariables false
set_option linter.unusedSimpArgs false
set_option linter.unnecessarySimpa false
namespace Go.Proofs.Ytijmaphbaibllaa.Fl
open Go.RowKit Go.Shelf Go.Proofs.YtijmaphbaibllaaW.PrintWords

theorem part_row (l : List Int) (i : Nat) (hi : i < l.length) (w : World) : (part 3 (rowC l) i).run Try.prog w = .ok (.int .i64 (l.getD i 0)) w := by
  have hu : Try.prog.underlying 3 = some (.int .i64) := by kernel_rfl
  have hc : (rowC l)[i]? = some (.int .i64 (l.getD i 0)) := by simp [rowC, hi]
  simp [part, isAgg, Sem.run_bind, run_underlying hu, hc]

theorem equal_int (d : Nat) (x y : Int) (w : World) : (Op.equalIn (d + 1) 3 (.int .i64 x) (.int .i64 y)).run Try.prog w = .ok (x == y) w := by
  have hu : Try.prog.underlying 3 = some (.int .i64) := by kernel_rfl
  simp [Op.equalIn, Sem.run_bind, run_underlying hu]

theorem items_row (d : Nat) (a b : List Int) (w : World) : ∀ (is : List Nat), (∀ i ∈ is, i < a.length ∧ i < b.length) → (Op.eqItems (d + 1) 3 1 (rowC a) (rowC b) is).run Try.prog w = .ok (is.all fun i => a.getD i 0 == b.getD i 0) w
  | [], _ => rfl
  | i :: is, h => by
    have hi := h i List.mem_cons_self
    have ih := items_row d a b w is (fun j hj => h j (List.mem_cons_of_mem _ hj))
    simp only [Op.eqItems, Nat.mul_one, Sem.run_bind, part_row a i hi.1, part_row b i hi.2, equal_int, Result.andThen_ok, List.all_cons]
    cases hq : (a.getD i 0 == b.getD i 0)
    · simp
    · simp [ih]

theorem all_rows (a b : List Int) (ha : a.length = 41) (hb : b.length = 41) : ((List.range 41).all fun i => a.getD i 0 == b.getD i 0) = decide (a = b) := by
  rw [Bool.eq_iff_iff, List.all_eq_true, decide_eq_true_eq]
  constructor
  · intro h
    apply List.ext_getElem (by omega)
    intro i h1 h2
    have := h i (List.mem_range.2 (by omega))
    rw [beq_iff_eq, List.getD_eq_getElem?_getD, List.getD_eq_getElem?_getD, List.getElem?_eq_getElem h1, List.getElem?_eq_getElem h2] at this
    exact this
  · rintro rfl i _
    exact beq_self_eq_true _

theorem equal_row0 (d : Nat) (a b : List Int) (ha : a.length = 41) (hb : b.length = 41) (w : World) : (Op.equalIn (d + 2) 160 (.agg (rowC a)) (.agg (rowC b))).run Try.prog w = .ok (decide (a = b)) w := by
  have hu : Try.prog.underlying 160 = some (.array 41 3) := by kernel_rfl
  obtain ⟨i3, hi3⟩ : ∃ i, Try.prog.info? 3 = some i := Option.isSome_iff_exists.1 (by kernel_rfl)
  have hc : Try.prog.cellsOf 3 = 1 := by kernel_rfl
  rw [run_equalIn_array (P := Try.prog) (w := w) (d := d + 1) (xs := rowC a) (ys := rowC b) (hu := hu) (hi := hi3), hc, items_row d a b w _ (fun i hi => by have := List.mem_range.1 hi; omega), all_rows a b ha hb]

theorem equal_row (a b : List Int) (ha : a.length = 41) (hb : b.length = 41) (w : World) : (Op.equalIn 10000 160 (.agg (rowC a)) (.agg (rowC b))).run Try.prog w = .ok (decide (a = b)) w := equal_row0 9998 a b ha hb w

theorem exec_eql_row {ev : Operand → Value} {o : Oper} {x y : Operand} {ty : TypeId} (ho : o.op = .binOp .eql 160 x y ty) {a b : List Int} (hx : ev x = .agg (rowC a)) (hy : ev y = .agg (rowC b)) (ha : a.length = 41) (hb : b.length = 41) (W : World) :
    (execOp ev o).run Try.prog W = .ok (.value (.bool (decide (a = b)))) W := by
  have he := equal_row a b ha hb W
  unfold execOp
  simp only [ho, hx, hy]
  simp [Sem.run_bind, he, go_sem]

theorem C_row {W : World} {B t : Nat} {l : List Int} (h : W.heap[B]? = some (.cells (rowC l) t (0, 0))) (hl : l.length ≤ 1000) : Kd.C (Kd.int .i64) W (some ⟨B, 0, none⟩) l.length l := by
  refine ⟨rfl, by omega, fun hn => ⟨_, rfl, fun j p hj => ⟨[.int .i64 p], rfl, rfl, fun i u hu => ?_⟩⟩⟩
  cases i with
  | zero =>
    have h5 : j * (Kd.int .i64).sz + 0 = j := by show j * 1 + 0 = j; omega
    rw [h5, addr_add]
    have hu2 : Value.int .i64 p = u := by simpa using hu
    subst hu2
    have hlt := (List.getElem?_eq_some_iff.1 hj).1
    rw [row_cell h j hlt, List.getD_eq_getElem?_getD, hj]
    rfl
  | succ i => simp at hu

theorem two_blocks (w : World) (o0 o1 : Obj) : ((w.alloc o0).alloc o1).heap[w.heap.size]? = some o0 ∧ ((w.alloc o0).alloc o1).heap[w.heap.size + 1]? = some o1 ∧ ((w.alloc o0).alloc o1).heap.size = w.heap.size + 2 ∧ Below w.heap.size w ((w.alloc o0).alloc o1) := by
  refine ⟨?_, ?_, by simp, ((Below.refl _ w).alloc (Nat.le_refl _) _).alloc (by simp) _⟩
  · rw [Below.heap_alloc _ _ _ (by simp)]; exact World.alloc_heap_new _ _
  · have := World.alloc_heap_new (w.alloc o0) o1
    rwa [World.size_alloc] at this

theorem slice_row (B m : Nat) (W : World) (hm : m ≤ 41) : (Instr.sliceAt 160 (.pointer (some ⟨B, 0, none⟩)) none (some (.int .i64 (m : Int))) none).run Try.prog W = .ok (.slice (some ⟨B, 0, none⟩) m 41) W := by
  have hal : Try.prog.arrayLen 160 = 41 := by kernel_rfl
  have he : Try.prog.elem 160 = 3 := by kernel_rfl
  have hu : Try.prog.underlying 160 = some (.array (Try.prog.arrayLen 160) (Try.prog.elem 160)) := by kernel_rfl
  obtain ⟨i3, hi3⟩ : ∃ i, Try.prog.info? 3 = some i := Option.isSome_iff_exists.1 (by kernel_rfl)
  rw [run_sliceAt_array_h W 160 ⟨B, 0, none⟩ hu .i64 (m : Int) (by omega) (by rw [hal]; omega), he]
  simp [sizeOf, typeInfo, Sem.run_bind, hi3, slicedAt, hal, Addr.add]

theorem c151_calls (x : Int) (B : Nat) (box : Array Value) (e : Int) (w : World) (hB : w.heap[B]? = some (.cells box 124 (0, 0))) (he : box[2]? = some (.int .i64 e)) :
    Calls Try.prog 151 #[.int .i64 x, .pointer (some ⟨B, 0, none⟩)] w fun ex w' => ex = .returned (.bool (decide (x ≤ e))) ∧ Below w.heap.size w w' := by
  have c2 : w.cell? ⟨B, 2, none⟩ = some (.int .i64 e) := by simp [World.cell?, hB, he]
  clear hB he
  go_enter Try.func151, Try.ntmps151
  go_wp2
  go_ret
  exact ⟨rfl, Below.refl _ _⟩

/-- Whether no more signs can explain what is read with so few errors. -/
def hopelessB (rd : Str) (e : Int) (rl : List Int) : Bool := if rl = begunL rd then false else !((rl.take (rd.length + 1)).any fun n => decide (n ≤ e))

set_option maxRecDepth 100000 in
set_option maxHeartbeats 4000000 in
theorem hopeless_calls (A : Option Addr) (n c : Nat) (r : ByteArray) (e : Int) (rl : List Int) (w : World) (hr : r.size ≤ 40) (hrl : RowB rl) :
    Calls Try.prog 121 #[.agg #[.slice A n c, .string r, .int .i64 e], .agg (rowC rl)] w fun ex w' => ex = .returned (.bool (hopelessB (tl r) e rl)) ∧ Below w.heap.size w w' := by
  have Hrl := Lib.hid hrl
  obtain ⟨L, HL⟩ : ∃ L, Hid (begunL (tl r) = L) := ⟨_, rfl⟩
  have HLB : Hid (RowB L) := by show RowB L; rw [← HL.out]; exact begunL_B _
  have Hbeg := Lib.hid (begun_calls A n c r e)
  rw [HL.out] at Hbeg
  have hszr : Hid ((Try.prog.info? 160).map (·.size) = some (rowC rl).size) := by show _ = _; rw [rowC_size, hrl.1]; kernel_rfl
  have hlen : ((r.size : Nat) : Int) ≤ 40 := by omega
  clear hrl
  go_enter Try.func121, Try.ntmps121
  go_upto_region 1 with fail
  obtain ⟨b0, b1, hsz, hbel⟩ := two_blocks w (.cells #[.slice A n c, .string r, .int .i64 e] 124) (.cells (rowC rl) 160)
  generalize ((w.alloc (.cells #[.slice A n c, .string r, .int .i64 e] 124)).alloc (.cells (rowC rl) 160)) = W0 at *
  have hS : (fun V : World => V.heap[w.heap.size]? = some (.cells #[.slice A n c, .string r, .int .i64 e] 124 (0, 0)) ∧ V.heap[w.heap.size + 1]? = some (.cells (rowC rl) 160 (0, 0))) { W0 with drawn := W0.drawn + 1 } := ⟨b0, b1⟩
  refine wp_region_head 4 (fun V : World => V.heap[w.heap.size]? = some (.cells #[.slice A n c, .string r, .int .i64 e] 124 (0, 0)) ∧ V.heap[w.heap.size + 1]? = some (.cells (rowC rl) 160 (0, 0))) (by kernel_rfl) (by kernel_rfl) ?_
  refine take_op 0 (v := .agg (rowC rl)) rfl (by kernel_rfl) (by kernel_rfl) rfl (by kernel_rfl) (by kernel_rfl) (by kernel_rfl) (fun _ _ _ h => h) hS (Or.inl ⟨wanted_none rfl, ?_⟩) ?_
  · intro W hW; exact exec_load_row rfl rfl hW.2 Try.underlying160 rfl hszr.out
  simp only [Act.put, List.setIfInBounds_toArray, List.set_cons_zero, List.set_cons_succ]
  refine take_op 1 (v := .agg #[.slice A n c, .string r, .int .i64 e]) rfl (by kernel_rfl) (by kernel_rfl) rfl (by kernel_rfl) (by kernel_rfl) (by kernel_rfl) (fun _ _ _ h => h) hS (Or.inl ⟨wanted_none rfl, ?_⟩) ?_
  · intro W hW; exact exec_load_row rfl rfl hW.1 Try.underlying124 rfl (by kernel_rfl)
  simp only [Act.put, List.setIfInBounds_toArray, List.set_cons_zero, List.set_cons_succ]
  refine only_op 2 rfl (by kernel_rfl) (by kernel_rfl) (by kernel_rfl) (wanted_none rfl) ?_
  intro K hK
  go_simp
  refine (Hbeg.out W0.drew hr).mono ?_
  rintro ex w5 ⟨rfl, hb5⟩
  have hb6 : Below W0.heap.size W0 w5 := ((Below.refl _ W0).drew).trans hb5
  have d0 := (hb6.block _ (show w.heap.size < W0.heap.size by omega)).trans b0
  have d1 := (hb6.block _ (show w.heap.size + 1 < W0.heap.size by omega)).trans b1
  refine hK _ _ ⟨d0, d1⟩ ?_
  clear hK K
  try simp only [Act.put, List.setIfInBounds_toArray, List.set_cons_zero, List.set_cons_succ]
  refine take_op 3 (v := .bool (decide (rl = L))) rfl (by kernel_rfl) (by kernel_rfl) rfl (by kernel_rfl) (by kernel_rfl) (by kernel_rfl) (fun _ _ _ h => h) ⟨d0, d1⟩ (Or.inl ⟨wanted_none rfl, ?_⟩) ?_
  · intro W hW; exact exec_eql_row rfl rfl rfl Hrl.out.1 HLB.out.1 W
  simp only [Act.put, List.setIfInBounds_toArray, List.set_cons_zero, List.set_cons_succ]
  refine anyH_left (by kernel_rfl) (by kernel_rfl) ?_
  change wpAny Try.prog Region.Mode.any _ _ 0 _ _ w5
  refine wpAny_done (by kernel_rfl) ?_ _
  simp only [Exit.then]
  have hbw : Below w.heap.size w w5 := hbel.trans (hb6.mono (by omega))
  by_cases hq : rl = L
  · have hd : decide (rl = L) = true := decide_eq_true hq
    have HR : Hid (hopelessB (tl r) e rl = false) := by show _ = _; unfold hopelessB; rw [if_pos (by rw [HL.out]; exact hq)]
    rw [hd]
    clear hq hd
    go_wp2
    go_ret
    exact ⟨by rw [HR.out]; rfl, hbw⟩
  · have hd : decide (rl = L) = false := decide_eq_false hq
    have HR : Hid (hopelessB (tl r) e rl = !((rl.take (r.size + 1)).any fun n => decide (n ≤ e))) := by show _ = _; unfold hopelessB; rw [if_neg (by rw [HL.out]; exact hq), tl_size]
    have c1 : w5.cell? ⟨w.heap.size, 1, none⟩ = some (.string r) := by simp [World.cell?, d0]
    have hC := C_take (C_row d1 (by rw [Hrl.out.1]; omega)) (r.size + 1) (by rw [Hrl.out.1]; omega)
    have hA : Answers 151 #[] #[.pointer (some ⟨w.heap.size, 0, none⟩)] (Value.int .i64) (rl.take (r.size + 1)) (fun n => decide (n ≤ e)) w5 :=
      ⟨enters_of Try.func151 (by kernel_rfl) rfl, fun x hx V hV => c151_calls x w.heap.size _ e V ((hV.block _ (lt_of_block d0)).trans d0) rfl⟩
    have Hc := Lib.hid (conInt_calls (some ⟨w.heap.size + 1, 0, none⟩) (r.size + 1) 41 (rl.take (r.size + 1)) 151 #[] _ _ w5 hC hA)
    obtain ⟨bb, Hbb⟩ : ∃ bb, Hid ((rl.take (r.size + 1)).any (fun n => decide (n ≤ e)) = bb) := ⟨_, rfl⟩
    rw [Hbb.out] at Hc HR
    have hw1 : IntKind.i64.wrap ((r.size : Int) + 1) = (r.size : Int) + 1 := IntWalk.i64_in _ (by omega)
    have hsz2 := hbw.size
    have hsl : ∀ W, (Instr.sliceAt 160 (.pointer (some ⟨w.heap.size + 1, 0, none⟩)) none (some (.int .i64 ((r.size : Int) + 1))) none).run Try.prog W = .ok (.slice (some ⟨w.heap.size + 1, 0, none⟩) (r.size + 1) 41) W := fun W => slice_row (w.heap.size + 1) (r.size + 1) W (by omega)
    rw [hd]
    clear hq hd hC hA d0 d1 hsz hS b0 b1
    go_wp2_with (go_at_call 111; refine Hc.out.mono ?_; rintro ex w6 ⟨rfl, hb7⟩)
    go_ret
    exact ⟨by rw [HR.out]; rfl, hbw.trans (hb7.mono hsz2)⟩

end Go.Proofs.Ytijmaphbaibllaa.Fl

set_option linter.unusedVariables false
set_option linter.unusedSimpArgs false
set_option linter.unnecessarySimpa false
namespace Go.Proofs.Ytijmaphbaibllaa.Fl
open Go.RowKit Go.Shelf Go.Proofs.YtijmaphbaibllaaW.PrintWords

/-- The signs of a letter behind a text. -/
def behind (text : List Int) (s : Str) : Str := if text = [] then s else 32 :: s

/-- All texts of so many letters that begin with a text; f: how many letters are left. -/
def addL (rd : Str) (e : Int) (ls : List Str) : Nat → List Int → List Int → List (List Int)
  | 0, text, row => if hopelessB rd e row = true then [] else if row.getD rd.length 0 ≤ e then [text] else []
  | f + 1, text, row => if hopelessB rd e row = true then [] else (List.range ls.length).flatMap fun (n : Nat) => addL rd e ls f (text ++ [(n : Int)]) (afterL rd row (behind text (ls.getD n [])))

theorem addL_count (rd : Str) (e : Int) (ls : List Str) (h6 : ls.length ≤ 6) : ∀ (f : Nat) (text row : List Int), (addL rd e ls f text row).length ≤ 6 ^ f
  | 0, text, row => by
    unfold addL
    split
    · simp
    · split <;> simp
  | f + 1, text, row => by
    unfold addL
    split
    · simp
    · rw [List.length_flatMap]
      have : ∀ (l : List Nat), (l.map fun (n : Nat) => (addL rd e ls f (text ++ [(n : Int)]) (afterL rd row (behind text (ls.getD n [])))).length).sum ≤ l.length * 6 ^ f := by
        intro l
        induction l with
        | nil => simp
        | cons a l ih =>
          simp only [List.map_cons, List.sum_cons, List.length_cons, Nat.succ_mul]
          have := addL_count rd e ls h6 f (text ++ [(a : Int)]) (afterL rd row (behind text (ls.getD a [])))
          omega
      have h1 := this (List.range ls.length)
      rw [List.length_range] at h1
      refine Nat.le_trans h1 ?_
      rw [Nat.pow_succ, Nat.mul_comm (6 ^ f) 6]
      exact Nat.mul_le_mul_right _ h6

/-- The first so many letters' texts. -/
def addTo (rd : Str) (e : Int) (ls : List Str) (f : Nat) (text row : List Int) (k : Nat) : List (List Int) :=
  (List.range k).flatMap fun (n : Nat) => addL rd e ls f (text ++ [(n : Int)]) (afterL rd row (behind text (ls.getD n [])))
theorem addTo_succ (rd : Str) (e : Int) (ls : List Str) (f : Nat) (text row : List Int) (k : Nat) :
    addTo rd e ls f text row (k + 1) = addTo rd e ls f text row k ++ addL rd e ls f (text ++ [(k : Int)]) (afterL rd row (behind text (ls.getD k []))) := by
  unfold addTo
  rw [List.range_succ, List.flatMap_append]
  simp
theorem addTo_count (rd : Str) (e : Int) (ls : List Str) (h6 : ls.length ≤ 6) (f : Nat) (text row : List Int) : ∀ k, (addTo rd e ls f text row k).length ≤ k * 6 ^ f
  | 0 => by simp [addTo]
  | k + 1 => by
    rw [addTo_succ, List.length_append, Nat.succ_mul]
    have h1 := addTo_count rd e ls h6 f text row k
    have h2 := addL_count rd e ls h6 f (text ++ [(k : Int)]) (afterL rd row (behind text (ls.getD k [])))
    omega

abbrev Out : Kd (List Int) := Kd.slice 3 (Kd.int .i64)
/-- The function value of add. -/
def addV (n : Nat) : Value := .func (.func 120) #[] #[.pointer (some ⟨n, 0, none⟩), .pointer (some ⟨n + 1, 0, none⟩), .pointer (some ⟨n + 2, 0, none⟩), .pointer (some ⟨n + 3, 0, none⟩)]

/-- What add keeps: the boxes from n on; what is told of the texts so far. -/
structure TI (w0 : World) (n : Nat) (box : Array Value) (m : Int) (ok : Nat → Prop) (vo : Value) (outs : List (List Int)) (W : World) : Prop where
  b0 : W.heap[n]? = some (.cells box 124 (0, 0))
  b1 : W.heap[n + 1]? = some (.cells #[.int .i64 m] 3 (0, 0))
  b2 : W.heap[n + 2]? = some (.cells #[vo] 48 (0, 0))
  b3 : W.heap[n + 3]? = some (.cells #[addV n] 159 (0, 0))
  own : Kd.S Out 25 W (n + 4) ok vo outs
  bel : Below n w0 W
  sz : n + 4 ≤ W.heap.size

theorem TI.below {w0 : World} {n : Nat} {box : Array Value} {m : Int} {ok : Nat → Prop} {vo : Value} {outs : List (List Int)} {W W' : World} (h : TI w0 n box m ok vo outs W) (hb : Below W.heap.size W W') : TI w0 n box m ok vo outs W' := by
  have hs := h.sz
  exact ⟨(hb.block _ (by omega)).trans h.b0, (hb.block _ (by omega)).trans h.b1, (hb.block _ (by omega)).trans h.b2, (hb.block _ (by omega)).trans h.b3, Kd.S_below h.own hb, h.bel.trans (hb.mono (by omega)), Nat.le_trans hs hb.size⟩

/-- What a call of add leaves of what was there. -/
structure Left9 (n : Nat) (vo v : Value) (d : Nat) (vo' : Value) (W W' : World) : Prop where
  size : W.heap.size ≤ W'.heap.size
  same : ∀ k, k < W.heap.size → k ≠ n + 2 → some k ≠ vo.ownBlock → some k ≠ v.ownBlock → W'.heap[k]? = W.heap[k]?
  text : ∀ g cur, v.ownBlock = some g → W.heap[g]? = some (.cells cur 3 (0, 0)) → ∃ cur' : Array Value, W'.heap[g]? = some (.cells cur' 3 (0, 0)) ∧ cur'.size = cur.size ∧ ∀ j, j < d → cur'[j]? = cur[j]?
  out : vo'.ownBlock = vo.ownBlock ∨ ∃ b, vo'.ownBlock = some b ∧ W.heap.size ≤ b

end Go.Proofs.Ytijmaphbaibllaa.Fl

set_option linter.unusedVariables false
set_option linter.unusedSimpArgs false
set_option linter.unnecessarySimpa false
namespace Go.Proofs.Ytijmaphbaibllaa.Fl
open Go.RowKit Go.Shelf Go.Proofs.YtijmaphbaibllaaW.PrintWords

def AddPost (w0 : World) (n : Nat) (box : Array Value) (m : Int) (ok : Nat → Prop) (vo v : Value) (d : Nat) (outs : List (List Int)) (W : World) (ex : Ending) (W' : World) : Prop :=
  (∃ u, ex = .returned u) ∧ ∃ vo', TI w0 n box m ok vo' outs W' ∧ Left9 n vo v d vo' W W'

theorem left_below {n : Nat} {vo v : Value} {d : Nat} {W W' : World} (hb : Below W.heap.size W W') : Left9 n vo v d vo W W' :=
  ⟨hb.size, fun k hk _ _ _ => hb.block k hk, fun g cur _ hg => ⟨cur, (hb.block g (lt_of_block hg)).trans hg, rfl, fun _ _ => rfl⟩, .inl rfl⟩

set_option maxRecDepth 100000 in
set_option maxHeartbeats 4000000 in
theorem add_hopeless (w0 : World) (n : Nat) (A : Option Addr) (c : Nat) (ls : List ByteArray) (r : ByteArray) (e m : Int) (ok : Nat → Prop) (vo v : Value) (l row : List Int) (outs : List (List Int)) (W : World) (hr : r.size ≤ 40) (hrow : RowB row)
    (T : TI w0 n #[.slice A ls.length c, .string r, .int .i64 e] m ok vo outs W) (ht : Kd.R (Kd.int .i64) 3 W (n + 4) (fun _ => True) v l) (hh : hopelessB (tl r) e row = true) :
    Calls Try.prog 120 #[v, .agg (rowC row), .pointer (some ⟨n, 0, none⟩), .pointer (some ⟨n + 1, 0, none⟩), .pointer (some ⟨n + 2, 0, none⟩), .pointer (some ⟨n + 3, 0, none⟩)] W
      (AddPost w0 n #[.slice A ls.length c, .string r, .int .i64 e] m ok vo v l.length outs W) := by
  have hb0 : Below W.heap.size W (W.alloc (.cells (rowC row) 160)) := (Below.refl _ W).alloc (Nat.le_refl _) _
  have T1 := T.below hb0
  have h7 : (W.alloc (.cells (rowC row) 160)).heap[W.heap.size]? = some (.cells (rowC row) 160 (0, 0)) := World.alloc_heap_new _ _
  have Hh := Lib.hid (hopeless_calls A ls.length c r e row (W.alloc (.cells (rowC row) 160)) hr hrow)
  rw [hh] at Hh
  have hsz : Hid ((Try.prog.info? 160).map (·.size) = some (rowC row).size) := by show _ = _; rw [rowC_size, hrow.1]; kernel_rfl
  obtain ⟨A1, c1, rfl⟩ := Kd.R_slice ht
  have T1' := Lib.hid T1
  have H7 := Lib.hid h7
  have Hb0 := Lib.hid hb0
  clear T1 h7 hb0 hh
  go_enter Try.func120, Try.ntmps120
  go_wp2_with (first
    | (refine wpList_load_row rfl 160 _ rfl W.heap.size rfl 160 _ (0, 0) _ H7.out Try.underlying160 rfl hsz.out ?_)
    | (refine wpList_load_row rfl 124 _ rfl n rfl 124 _ (0, 0) _ T1'.out.b0 Try.underlying124 rfl (by kernel_rfl) ?_)
    | (go_at_call 121; refine Hh.out.mono ?_; rintro ex w2 ⟨rfl, hb2⟩))
  go_end0
  have hb3 : Below W.heap.size W w2 := Hb0.out.trans (hb2.mono (by rw [World.size_alloc]; omega))
  exact ⟨⟨_, rfl⟩, vo, T.below hb3, left_below hb3⟩

theorem append_wpS {P : Program} {o : Oper} {a : Act} {Q : Exit → Act → World → Prop} {Kc : Act → World → Prop} {α : Type} (d : Kd α) {w0 W : World} (base : Nat) (hgd : o.guard = none) (s x : Operand) (t e : TypeId) (z : Value) (bytes : Nat)
    (ho : o.op = .call { callee := .builtin .append, args := #[s, x], argTypes := #[t, t] })
    (ht : P.underlying t = some (.slice e)) (hinfo : (P.info? e).map (fun i => (i.zero, i.size, i.bytes)) = some (some z, d.sz, bytes)) (hz : z.cells.size = d.sz) (hs0 : 0 < d.sz) (hb0 : 0 < bytes)
    (v : Value) (xs : List α) (p : α) (cs : List Value) (ok okp : Nat → Prop) (hs : a.eval s = v) (hx : a.eval x = .slice (some ⟨W.heap.size, 0, none⟩) 1 1) (hp : d.M W base okp p cs) (hokp : ∀ k, okp k → ok k ∧ some k ≠ v.ownBlock) (hfresh : ∀ k, W.heap.size ≤ k → ok k)
    (HO : Kd.S d e W base (fun k => ok k ∧ ¬ okp k) v xs) (HB : Below base w0 W) (hbase : base ≤ W.heap.size) (hl : (xs.length + 1) * bytes ≤ 140737488355328)
    (h : ∀ v1 w1, Kd.S d e w1 base ok v1 (xs ++ [p]) → Below base w0 w1 → W.grownBy w1 v.ownBlock → (v1.ownBlock = v.ownBlock ∨ ∃ b, v1.ownBlock = some b ∧ W.heap.size ≤ b) → Kc (a.put o.dst v1) w1) :
    Oper.wp P o a (W.alloc (.cells cs.toArray e)) Kc Q := by
  have hw : Region.wanted o (yielded #[o] a.tmps) = true := wanted_none hgd
  have := Kd.S_append_step (ops := #[o]) (Q := Q) d base hw s x t e z bytes ho ht hinfo hz hs0 hb0 v xs p cs ok okp hs hx hp hokp hfresh HO HB hbase hl h
  rwa [if_pos hw] at this

theorem TI.put {w0 : World} {n : Nat} {box : Array Value} {m : Int} {ok : Nat → Prop} {vo v1 : Value} {outs outs' : List (List Int)} {W W4 : World} (T : TI w0 n box m ok vo outs W) (hb : Below (n + 4) W W4) (hS : Kd.S Out 25 W4 (n + 4) ok v1 outs') : TI w0 n box m ok v1 outs' (W4.setCell ⟨n + 2, 0, none⟩ v1) := by
  have hk : ∀ k, k < n + 4 → k ≠ n + 2 → (W4.setCell ⟨n + 2, 0, none⟩ v1).heap[k]? = W.heap[k]? := fun k hk hne => (Below.heap_setCell _ _ _ _ (by simpa using hne)).trans (hb.block k hk)
  refine ⟨(hk _ (by omega) (by omega)).trans T.b0, (hk _ (by omega) (by omega)).trans T.b1, one_setCell ((hb.block _ (by omega)).trans T.b2), (hk _ (by omega) (by omega)).trans T.b3, ?_, (T.bel.trans (hb.mono (by omega))).setCell (p := ⟨n + 2, 0, none⟩) (by simp) _, ?_⟩
  · refine Kd.S_mono (Kd.S_step (Kd.S_bound hS) (fun k hk2 _ => Below.heap_setCell _ _ _ _ ?_)) (fun _ h => h.1)
    have := hk2.2.1
    simp
    omega
  · have h1 := T.sz
    have h2 := hb.size
    simp [World.setCell]
    omega

theorem left_leaf {n d : Nat} {base : Nat} {ok okt : Nat → Prop} {vo v v1 u : Value} {outs : List (List Int)} {l : List Int} {W V1 w3 w4 : World} (hbw : Below W.heap.size W V1) (hb3 : Below V1.heap.size V1 w3) (hg4 : w3.grownBy w4 vo.ownBlock) (hat : v1.ownBlock = vo.ownBlock ∨ ∃ b, v1.ownBlock = some b ∧ w3.heap.size ≤ b)
    (ho : Kd.S Out 25 V1 base ok vo outs) (ht : Kd.R (Kd.int .i64) 3 W (n + 4) okt v l) (hsz : n + 4 ≤ W.heap.size) : Left9 n vo v d v1 W (w4.setCell ⟨n + 2, 0, none⟩ u) := by
  have h1 := hbw.size
  have h2 := hb3.size
  have h3 := hg4.size
  have hsame : ∀ k, k < W.heap.size → k ≠ n + 2 → some k ≠ vo.ownBlock → (w4.setCell ⟨n + 2, 0, none⟩ u).heap[k]? = W.heap[k]? := fun k hk hne hno => by
    rw [Below.heap_setCell _ _ _ _ (by simpa using hne), hg4.block k (by omega) hno, hb3.block k (by omega), hbw.block k hk]
  refine ⟨by simp [World.setCell]; omega, fun k hk hne hno _ => hsame k hk hne hno, fun g cur hg hcur => ⟨cur, ?_, rfl, fun _ _ => rfl⟩, ?_⟩
  · have hgl := lt_of_block hcur
    have hgb := Kd.R_base ht g hg
    refine (hsame g hgl (by omega) (fun he => ?_)).trans hcur
    obtain ⟨cells, hc⟩ := Kd.S_typed ho g he.symm
    rw [hbw.block g hgl, hcur] at hc
    injection hc with hc
    injection hc with _ hc2
    cases hc2
  · rcases hat with h | ⟨b, h, hb⟩
    · exact .inl h
    · exact .inr ⟨b, h, by omega⟩

theorem clone_calls (v : Value) (l : List Int) (base : Nat) (ok : Nat → Prop) (W : World) (ht : Kd.R (Kd.int .i64) 3 W base ok v l) (hl : l.length ≤ 1000) :
    Calls Try.prog 96 #[v] W fun ex w' => ∃ v', ex = .returned v' ∧ Kd.R (Kd.int .i64) 3 w' W.heap.size (fun k => W.heap.size ≤ k) v' l ∧ Below W.heap.size W w' := by
  obtain ⟨A1, c1, rfl⟩ := Kd.R_slice ht
  cases A1 with
  | none =>
    have h0 : l = [] := by
      cases l with
      | nil => rfl
      | cons x r => obtain ⟨g, cap, hv, _⟩ := Kd.R_form ht (by simp); cases hv
    subst h0
    refine (Try.slices_Clone_int_nil _ _ W).mono ?_
    rintro ex w' ⟨rfl, rfl⟩
    exact ⟨_, rfl, Kd.R_nil _ _ _ _ _, Below.refl _ _⟩
  | some ad =>
    rcases Nat.eq_zero_or_pos l.length with h0 | h0
    · have hl0 : l = [] := List.eq_nil_of_length_eq_zero h0
      subst hl0
      refine (Try.slices_Clone_int_zero ad c1 W).mono ?_
      rintro ex w' ⟨v', rfl, ho, _, hb⟩
      exact ⟨v', rfl, Kd.R_of_own ho (fun k hk => own_base ho k hk), hb⟩
    · obtain ⟨g, cap, hv, hg1, hg2, hg3⟩ := Kd.R_form ht h0
      injection hv with hv _ hv2
      injection hv with hv
      subst hv hv2
      refine (Try.slices_Clone_int g 0 l.length c1 l W (Nat.le_refl _) (by omega) (fun j hj => ?_)).mono ?_
      · have := (Kd.R_celln 0 ht (j : Int) (by omega) (by omega)).1
        rw [Nat.zero_add]
        simpa [rdOf] using this
      · rintro ex w' ⟨v', rfl, ho, _, hb⟩
        rw [List.take_length] at ho
        exact ⟨v', rfl, Kd.R_of_own ho (fun k hk => own_base ho k hk), hb⟩

set_option maxRecDepth 100000 in
set_option maxHeartbeats 4000000 in
theorem add_leaf (w0 : World) (n : Nat) (A : Option Addr) (c : Nat) (ls : List ByteArray) (r : ByteArray) (e : Int) (ok : Nat → Prop) (vo v : Value) (l row : List Int) (outs : List (List Int)) (W : World) (hr : r.size ≤ 40) (hrow : RowB row)
    (T : TI w0 n #[.slice A ls.length c, .string r, .int .i64 e] (l.length : Int) ok vo outs W) (ht : Kd.R (Kd.int .i64) 3 W (n + 4) (fun _ => True) v l) (hl5 : l.length ≤ 5) (hap : ∀ k, ok k → some k ≠ v.ownBlock) (hfr : ∀ k, W.heap.size ≤ k → ok k) (hcnt : outs.length < 1000000000) (hh : hopelessB (tl r) e row = false) (res : List (List Int)) (hres : (if row.getD r.size 0 ≤ e then [l] else []) = res) :
    Calls Try.prog 120 #[v, .agg (rowC row), .pointer (some ⟨n, 0, none⟩), .pointer (some ⟨n + 1, 0, none⟩), .pointer (some ⟨n + 2, 0, none⟩), .pointer (some ⟨n + 3, 0, none⟩)] W
      (AddPost w0 n #[.slice A ls.length c, .string r, .int .i64 e] (l.length : Int) ok vo v l.length (outs ++ res) W) := by
  have Hres := Lib.hid hres
  clear hres
  have hb0 : Below W.heap.size W (W.alloc (.cells (rowC row) 160)) := (Below.refl _ W).alloc (Nat.le_refl _) _
  have T1 := T.below hb0
  have h7 : (W.alloc (.cells (rowC row) 160)).heap[W.heap.size]? = some (.cells (rowC row) 160 (0, 0)) := World.alloc_heap_new _ _
  have Hh : Hid (Calls Try.prog 121 #[.agg #[.slice A ls.length c, .string r, .int .i64 e], .agg (rowC row)] (W.alloc (.cells (rowC row) 160)) fun ex w2 => ex = .returned (.bool false) ∧ Below (W.heap.size + 1) (W.alloc (.cells (rowC row) 160)) w2 ∧ w2.cell? ⟨n + 1, 0, none⟩ = some (.int .i64 (l.length : Int))) := by
    refine (hopeless_calls A ls.length c r e row (W.alloc (.cells (rowC row) 160)) hr hrow).mono ?_
    rintro ex w2 ⟨rfl, hb2⟩
    have hb3 := hb2
    rw [World.size_alloc] at hb2
    exact ⟨by rw [hh], hb2, cell_of_one (T1.below hb3).b1⟩
  have hsz : Hid ((Try.prog.info? 160).map (·.size) = some (rowC row).size) := by show _ = _; rw [rowC_size, hrow.1]; kernel_rfl
  have hlen : ((l.length : Nat) : Int) ≤ 5 := by omega
  have hlr : ((r.size : Nat) : Int) < 41 := by omega
  obtain ⟨A1, c1, rfl⟩ := Kd.R_slice ht
  obtain ⟨Ao, co, rfl⟩ := Kd.R_slice (Kd.S_R T.own)
  have T1' := Lib.hid T1
  have H7 := Lib.hid h7
  have Hb0 := Lib.hid hb0
  have Hrow := Lib.hid hrow
  clear T1 h7 hb0 hh hrow
  go_enter Try.func120, Try.ntmps120
  go_upto_region 3 with (first
    | (refine wpList_load_row rfl 160 _ rfl W.heap.size rfl 160 _ (0, 0) _ H7.out Try.underlying160 rfl hsz.out ?_)
    | (refine wpList_load_row rfl 124 _ rfl n rfl 124 _ (0, 0) _ T1'.out.b0 Try.underlying124 rfl (by kernel_rfl) ?_)
    | (go_at_call 121; refine Hh.out.mono ?_; rintro ex w2 ⟨rfl, hb2, hcm⟩))
  have hb2' : Below (W.alloc (.cells (rowC row) 160)).heap.size (W.alloc (.cells (rowC row) 160)) w2 := by rw [World.size_alloc]; exact hb2
  have T2 := T1'.out.below hb2'
  have d7 := (hb2.block W.heap.size (Nat.lt_succ_self _)).trans H7.out
  obtain ⟨x, Hx⟩ : ∃ x, Hid (row.getD r.size 0 = x) := ⟨_, rfl⟩
  have cx := row_cell d7 r.size (by rw [Hrow.out.1]; omega)
  rw [Hx.out] at cx
  have hS : (fun V : World => V.cell? ⟨n, 1, none⟩ = some (.string r) ∧ V.cell? ⟨n, 2, none⟩ = some (.int .i64 e) ∧ V.cell? ⟨W.heap.size, r.size, none⟩ = some (.int .i64 x)) { w2 with drawn := w2.drawn + 1 } := ⟨by simp [World.cell?, T2.b0], by simp [World.cell?, T2.b0], cx⟩
  have hge : (0 : Int) ≤ (r.size : Int) := by omega
  refine wp_region_head 8 (fun V : World => V.cell? ⟨n, 1, none⟩ = some (.string r) ∧ V.cell? ⟨n, 2, none⟩ = some (.int .i64 e) ∧ V.cell? ⟨W.heap.size, r.size, none⟩ = some (.int .i64 x)) (by kernel_rfl) (by kernel_rfl) ?_
  refine take_op 0 (v := ?_) rfl (by kernel_rfl) (by kernel_rfl) rfl (by kernel_rfl) (by kernel_rfl) (by kernel_rfl) (fun _ _ _ h => h) hS (Or.inl ⟨wanted_none rfl, ?_⟩) ?_
  rotate_left
  · intro W hW; obtain ⟨g0, g1, g2⟩ := hW; go_simp; with_reducible rfl
  simp only [Act.put, List.setIfInBounds_toArray, List.set_cons_zero, List.set_cons_succ]
  refine take_op 1 (v := ?_) rfl (by kernel_rfl) (by kernel_rfl) rfl (by kernel_rfl) (by kernel_rfl) (by kernel_rfl) (fun _ _ _ h => h) hS (Or.inl ⟨wanted_none rfl, ?_⟩) ?_
  rotate_left
  · intro W hW; obtain ⟨g0, g1, g2⟩ := hW; go_simp; with_reducible rfl
  simp only [Act.put, List.setIfInBounds_toArray, List.set_cons_zero, List.set_cons_succ]
  refine take_op 2 (v := ?_) rfl (by kernel_rfl) (by kernel_rfl) rfl (by kernel_rfl) (by kernel_rfl) (by kernel_rfl) (fun _ _ _ h => h) hS (Or.inl ⟨wanted_none rfl, ?_⟩) ?_
  rotate_left
  · intro W hW; obtain ⟨g0, g1, g2⟩ := hW; go_simp; with_reducible rfl
  simp only [Act.put, List.setIfInBounds_toArray, List.set_cons_zero, List.set_cons_succ]
  refine take_op 3 (v := ?_) rfl (by kernel_rfl) (by kernel_rfl) rfl (by kernel_rfl) (by kernel_rfl) (by kernel_rfl) (fun _ _ _ h => h) hS (Or.inl ⟨wanted_none rfl, ?_⟩) ?_
  rotate_left
  · intro W hW; obtain ⟨g0, g1, g2⟩ := hW; go_simp; with_reducible rfl
  simp only [Act.put, List.setIfInBounds_toArray, List.set_cons_zero, List.set_cons_succ]
  refine take_op 4 (v := ?_) rfl (by kernel_rfl) (by kernel_rfl) rfl (by kernel_rfl) (by kernel_rfl) (by kernel_rfl) (fun _ _ _ h => h) hS (Or.inl ⟨wanted_none rfl, ?_⟩) ?_
  rotate_left
  · intro W hW; obtain ⟨g0, g1, g2⟩ := hW; go_simp; with_reducible rfl
  simp only [Act.put, List.setIfInBounds_toArray, List.set_cons_zero, List.set_cons_succ]
  refine take_op 5 (v := ?_) rfl (by kernel_rfl) (by kernel_rfl) rfl (by kernel_rfl) (by kernel_rfl) (by kernel_rfl) (fun _ _ _ h => h) hS (Or.inl ⟨wanted_none rfl, ?_⟩) ?_
  rotate_left
  · intro W hW; obtain ⟨g0, g1, g2⟩ := hW; go_simp; with_reducible rfl
  simp only [Act.put, List.setIfInBounds_toArray, List.set_cons_zero, List.set_cons_succ]
  refine take_op 6 (v := ?_) rfl (by kernel_rfl) (by kernel_rfl) rfl (by kernel_rfl) (by kernel_rfl) (by kernel_rfl) (fun _ _ _ h => h) hS (Or.inl ⟨wanted_none rfl, ?_⟩) ?_
  rotate_left
  · intro W hW; obtain ⟨g0, g1, g2⟩ := hW; go_simp; with_reducible rfl
  simp only [Act.put, List.setIfInBounds_toArray, List.set_cons_zero, List.set_cons_succ]
  refine take_op 7 (v := ?_) rfl (by kernel_rfl) (by kernel_rfl) rfl (by kernel_rfl) (by kernel_rfl) (by kernel_rfl) (fun _ _ _ h => h) hS (Or.inl ⟨wanted_none rfl, ?_⟩) ?_
  rotate_left
  · intro W hW; obtain ⟨g0, g1, g2⟩ := hW; go_simp; with_reducible rfl
  simp only [Act.put, List.setIfInBounds_toArray, List.set_cons_zero, List.set_cons_succ]
  refine anyH_left (by kernel_rfl) (by kernel_rfl) ?_
  change wpAny Try.prog Region.Mode.any _ _ 0 _ _ w2.drew
  refine wpAny_done (by kernel_rfl) ?_ _
  simp only [Exit.then]
  have hbw : Below W.heap.size W w2.drew := (Hb0.out.trans (hb2.mono (Nat.le_succ _))).trans ((Below.refl _ w2).drew)
  have T3 := T2.below ((Below.refl _ w2).drew)
  clear hS cx d7 T2
  generalize w2.drew = V1 at *
  by_cases hx : x ≤ e
  · have hd : decide (x ≤ e) = true := decide_eq_true hx
    have HE : Hid (res = [l]) := by show _ = _; rw [← Hres.out, Hx.out, if_pos hx]
    rw [hd]
    have c2 : V1.cell? ⟨n + 2, 0, none⟩ = some (.slice Ao outs.length co) := cell_of_one T3.b2
    have T3' := Lib.hid T3
    have ht1 := Lib.hid (Kd.R_below (Kd.R_below ht hbw) ((Below.refl _ V1).drew))
    have hz1 := hbw.size
    have hz2 := T3.sz
    clear T3 hd hx
    go_upto_region 4 with fail
    have hS : (fun V : World => V.cell? ⟨n + 2, 0, none⟩ = some (.slice Ao outs.length co)) { V1 with drawn := V1.drawn + 1 } := c2
    refine wp_region_head 5 (fun V : World => V.cell? ⟨n + 2, 0, none⟩ = some (.slice Ao outs.length co)) (by kernel_rfl) (by kernel_rfl) ?_
    refine take_op 0 (v := ?_) rfl (by kernel_rfl) (by kernel_rfl) rfl (by kernel_rfl) (by kernel_rfl) (by kernel_rfl) (fun _ _ _ h => h) hS (Or.inl ⟨wanted_none rfl, ?_⟩) ?_
    rotate_left
    · intro W hW; have g0 : W.cell? ⟨n + 2, 0, none⟩ = some (.slice Ao outs.length co) := hW; go_simp; with_reducible rfl
    simp only [Act.put, List.setIfInBounds_toArray, List.set_cons_zero, List.set_cons_succ]
    refine take_op 1 (v := ?_) rfl (by kernel_rfl) (by kernel_rfl) rfl (by kernel_rfl) (by kernel_rfl) (by kernel_rfl) (fun _ _ _ h => h) hS (Or.inl ⟨wanted_none rfl, ?_⟩) ?_
    rotate_left
    · intro W hW; go_simp; with_reducible rfl
    simp only [Act.put, List.setIfInBounds_toArray, List.set_cons_zero, List.set_cons_succ]
    refine only_op 2 rfl (by kernel_rfl) (by kernel_rfl) (by kernel_rfl) (wanted_none rfl) ?_
    intro K hK
    go_simp
    refine (clone_calls _ l (n + 4) (fun _ => True) V1.drew ht1.out (by omega)).mono ?_
    rintro ex w3 ⟨v', rfl, hR3, hb3⟩
    have hb3' : Below V1.heap.size V1 w3 := ((Below.refl _ V1).drew).trans hb3
    have T4 := T3'.out.below hb3'
    have c3 : w3.cell? ⟨n + 2, 0, none⟩ = some (.slice Ao outs.length co) := cell_of_one T4.b2
    obtain ⟨A3, c3', rfl⟩ := Kd.R_slice hR3
    refine hK _ _ c3 ?_
    clear hK K
    try simp only [Act.put, List.setIfInBounds_toArray, List.set_cons_zero, List.set_cons_succ]
    have hz3 := hb3'.size
    refine only_op 3 rfl (by kernel_rfl) (by kernel_rfl) (by kernel_rfl) (wanted_none rfl) ?_
    intro K hK
    go_simp
    refine hK _ _ ?_ ?_
    · exact (((Below.refl w3.heap.size w3).alloc (Nat.le_refl _) _).cell (p := ⟨n + 2, 0, none⟩) (by simp; omega)).trans c3
    clear hK K
    try simp only [Act.put, List.setIfInBounds_toArray, List.set_cons_zero, List.set_cons_succ]
    refine only_op 4 rfl (by kernel_rfl) (by kernel_rfl) (by kernel_rfl) (wanted_none rfl) ?_
    intro K hK
    change Oper.wp _ _ _ (w3.alloc (.cells [.slice A3 l.length c3'].toArray 25)) _ _
    have hS3 := Kd.S_old T3'.out.own hb3'
    have hlt3 := Kd.S_lt T3'.out.own
    refine append_wpS Out (w0 := w3) (n + 4) rfl (.tmp 25) (.tmp 28) 48 25 (.slice none 0 0) 24 rfl Try.underlying48 info25 rfl (by decide) (by omega) (.slice Ao outs.length co) outs l [.slice A3 l.length c3'] ok (fun k => V1.heap.size ≤ k) rfl rfl ⟨_, rfl, Kd.R_lower hR3 (by show n + 4 ≤ V1.drew.heap.size; exact hz2)⟩ (fun k hk => ⟨hfr k (by omega), fun he => by have := hlt3 k he.symm; omega⟩) (fun k hk => hfr k (by omega)) (Kd.S_mono hS3 (fun k hk => ⟨hk.1, by have := hk.2; omega⟩)) (Below.refl _ _) (by omega) (by omega) ?_
    intro v1 w4 hS4 hb4 hg4 hat4
    obtain ⟨A5, c5, hv1⟩ := Kd.R_slice (Kd.S_R hS4)
    rw [List.length_append, List.length_singleton] at hv1
    subst hv1
    have k2 : w4.heap[n + 2]? = some (.cells #[.slice Ao outs.length co] 48 (0, 0)) := (hb4.block _ (by omega)).trans T4.b2
    have m2 : w4.cell? ⟨n + 2, 0, none⟩ = some (.slice Ao outs.length co) := cell_of_one k2
    have f2 : w4.frozen? ⟨n + 2, 0, none⟩ = false := by simp [World.frozen?, k2]
    refine hK _ _ m2 ?_
    clear hK K
    try simp only [Act.put, List.setIfInBounds_toArray, List.set_cons_zero, List.set_cons_succ]
    refine anyH_left (by kernel_rfl) (by kernel_rfl) ?_
    change wpAny Try.prog Region.Mode.any _ _ 1 _ _ w4
    refine tail_op 5 rfl (by kernel_rfl) (wanted_none rfl) ?_
    intro K hK
    go_simp
    refine hK _ _ ?_
    clear hK K
    try simp only [Act.put, List.setIfInBounds_toArray, List.set_cons_zero, List.set_cons_succ]
    refine wpAny_done (by kernel_rfl) ?_ _
    simp only [Exit.then]
    have hT9 := TI.put T4 hb4 hS4
    have hL9 := left_leaf (d := l.length) (u := .slice A5 (outs.length + 1) c5) hbw hb3' hg4 hat4 T3'.out.own ht T.sz
    have HT9 := Lib.hid hT9
    have HL9 := Lib.hid hL9
    clear hT9 hL9 k2 m2 f2
    go_wp2
    go_end0
    refine ⟨⟨_, rfl⟩, _, ?_, HL9.out⟩
    rw [HE.out]
    exact HT9.out
  · have hd : decide (x ≤ e) = false := decide_eq_false hx
    have HE : Hid (res = []) := by show _ = _; rw [← Hres.out, Hx.out, if_neg hx]
    rw [hd]
    have T3' := Lib.hid T3
    clear T3 hd hx
    go_wp2
    go_end0
    refine ⟨⟨_, rfl⟩, _, ?_, left_below hbw⟩
    rw [HE.out, List.append_nil]
    exact T3'.out

end Go.Proofs.Ytijmaphbaibllaa.Fl

set_option linter.unusedVariables false
set_option linter.unusedSimpArgs false
set_option linter.unnecessarySimpa false
namespace Go.Proofs.Ytijmaphbaibllaa.Fl
open Go.RowKit Go.Shelf Go.Proofs.YtijmaphbaibllaaW.PrintWords

theorem run_append_text {P : Program} (w : World) (base : Nat) (t ty e : TypeId) (i : TypeInfo) (z : Value) (bytes : Nat) (ht : P.underlying t = some (.slice e)) (hi : P.info? e = some i) (hz : i.zero = some z)
    (hsize : i.size = 1) (hby : i.bytes = bytes) (hzs : z.cells.size = 1)
    (v : Value) (n : Nat) (xs : List Value) (hown : w.ownsRow base e 1 v n xs)
    (a : Addr) (c : Nat) (u : Value) (hnew : w.cell? a = some u) (h1 : u.oneCell' = true)
    (h63 : n + 1 ≤ maxLen) (hbytes : (n + 1) * bytes ≤ 140737488355328) (hbase : base ≤ w.heap.size) :
    ∃ v' w', (Builtin.append_ #[t, t] ty #[v, .slice (some a) 1 c]).run P w = .ok v' w' ∧ w'.ownsRow base e 1 v' (n + 1) (xs ++ [u]) ∧ w.grownBy w' v.ownBlock ∧
      (v'.ownBlock = v.ownBlock ∨ v'.ownBlock = some w.heap.size) ∧
      (∀ g cur, v.ownBlock = some g → w.heap[g]? = some (.cells cur e (0, 0)) → ∃ cur' : Array Value, w'.heap[g]? = some (.cells cur' e (0, 0)) ∧ cur'.size = cur.size ∧ ∀ j, j < n → cur'[j]? = cur[j]?) := by
  have hnews : ∀ j x, [u][j]? = some x → w.cell? (a.add j) = some x := fun j x hj => by
    cases j with
    | zero => simp at hj; subst hj; simpa [Addr.add] using hnew
    | succ j => simp at hj
  obtain ⟨v', w', hr, h2, h3, _, h5⟩ := run_append_own_at (P := P) w base t ty e i z 1 bytes ht hi hz hsize hby hzs (by omega) v n xs hown a 1 c [u] rfl hnews (by simpa using h1) h63 hbytes hbase
  refine ⟨v', w', hr, h2, h3, h5, fun g cur hg hcur => ?_⟩
  rcases hown.2 with ⟨rfl, rfl⟩ | ⟨g', cap, cur0, rfl, hbg, hg0, hnc, hcm, hcs, htake⟩
  · simp [Value.ownBlock] at hg
  · have hgg : g' = g := by simpa [Value.ownBlock] using hg
    subst hgg
    rw [hg0] at hcur
    injection hcur with hcur
    injection hcur with hcur _ _
    subst hcur
    by_cases hroom : n + 1 ≤ cap
    · have hr2 := run_append_room (P := P) w t ty e i ht hi g' n cap cur0 hg0 a 1 c [u] (by rw [hsize]; rfl) hnews (by simpa using h1) hroom (by rw [hsize, hcs]; simpa using hroom)
      rw [hr] at hr2
      injection hr2 with _ hw
      subst hw
      refine ⟨_, setRow_heap w g' cur0 _ e _ hg0, ?_, fun j hj => ?_⟩
      · rw [hsize]
        simp only [List.size_toArray, List.length_append, List.length_take, List.length_drop, Array.length_toList, List.length_singleton]
        omega
      · rw [hsize]
        simp only [List.getElem?_toArray]
        rw [List.append_assoc, List.getElem?_append_left (by rw [List.length_take, Array.length_toList]; omega), List.getElem?_take, if_pos (by omega)]
        simp
    · have holds : ∀ j x, xs[j]? = some x → w.cell? ((⟨g', 0, none⟩ : Addr).add j) = some x := hown.cells (g := g') rfl
      have hr2 := run_append_grow (P := P) w t ty e i z ht hi hz ⟨g', 0, none⟩ n cap xs (by rw [hsize]; exact hown.1) holds a 1 c [u] (by rw [hsize]; rfl) hnews (by omega) (by simp only [maxLen] at h63; omega) (growslice_fits (by omega) (by rw [hby]; exact hbytes))
      rw [hr] at hr2
      injection hr2 with _ hw
      subst hw
      exact ⟨cur0, (Below.heap_alloc w.drew _ g' (lt_of_block hg0)).trans hg0, rfl, fun _ _ => rfl⟩

/-- The same, at the operation, of whole numbers. -/
theorem append_text_wp {o : Oper} {a : Act} {Q : Exit → Act → World → Prop} {Kc : Act → World → Prop} {W : World} (base : Nat) (s x : Operand)
    (ho : o.op = .call { callee := .builtin .append, args := #[s, x], argTypes := #[25, 25] })
    (v : Value) (l : List Int) (k : Int) (okt : Nat → Prop) (hs : a.eval s = v) (hx : a.eval x = .slice (some ⟨W.heap.size, 0, none⟩) 1 1) (ht : Kd.R (Kd.int .i64) 3 W base okt v l) (hl : l.length ≤ 1000) (hbase : base ≤ W.heap.size)
    (h : ∀ v1 w1, Kd.R (Kd.int .i64) 3 w1 base (fun _ => True) v1 (l ++ [k]) → Below base W w1 → W.grownBy w1 v.ownBlock → (v1.ownBlock = v.ownBlock ∨ ∃ b, v1.ownBlock = some b ∧ W.heap.size ≤ b) →
      (∀ g cur, v.ownBlock = some g → W.heap[g]? = some (.cells cur 3 (0, 0)) → ∃ cur' : Array Value, w1.heap[g]? = some (.cells cur' 3 (0, 0)) ∧ cur'.size = cur.size ∧ ∀ j, j < l.length → cur'[j]? = cur[j]?) → Kc (a.put o.dst v1) w1) :
    Oper.wp Try.prog o a (W.alloc (.cells #[.int .i64 k] 3)) Kc Q := by
  obtain ⟨i0, hi, hzz⟩ := Option.map_eq_some_iff.1 info3
  simp only [Prod.mk.injEq] at hzz
  obtain ⟨hz0, hz1, hz2⟩ := hzz
  have hbA : Below W.heap.size W (W.alloc (.cells #[.int .i64 k] 3)) := (Below.refl _ W).alloc (Nat.le_refl _) _
  have hown := Kd.own_of_R (Kd.R_below ht hbA)
  have hlt := Kd.R_lt ht
  have hbb := Kd.R_base ht
  obtain ⟨v1, w1, hr, h2, h3, h5, h6⟩ := run_append_text (P := Try.prog) (W.alloc (.cells #[.int .i64 k] 3)) base 25 o.type 3 i0 (.int .i64 0) 8 Try.underlying25 hi hz0 hz1 hz2 rfl v l.length (encs (Value.int .i64) l) hown ⟨W.heap.size, 0, none⟩ 1 (.int .i64 k) (by simp) rfl (by unfold maxLen; omega) (by omega) (by rw [World.size_alloc]; omega)
  have hl2 : encs (Value.int .i64) l ++ [.int .i64 k] = encs (Value.int .i64) (l ++ [k]) := by simp [encs]
  have hl3 : (l ++ [k]).length = l.length + 1 := by simp
  have hg : W.grownBy w1 v.ownBlock := ⟨h3.os, h3.tape, h3.output, by have := h3.size; rw [World.size_alloc] at this; omega, fun g hg hne => (h3.block g (by rw [World.size_alloc]; omega) hne).trans (Below.heap_alloc _ _ _ hg)⟩
  have hKc := h v1 w1 (Kd.R_of_own (by rw [hl3, ← hl2]; exact h2) (fun _ _ => trivial)) ((Below.refl base W).grown hg hbase (fun g hg => hbb g hg)) hg
    (by
      rcases h5 with h5 | h5
      · exact .inl h5
      · exact .inr ⟨_, h5, by rw [World.size_alloc]; omega⟩)
    (fun g cur hg hc => h6 g cur hg ((Below.heap_alloc _ _ _ (lt_of_block hc)).trans hc))
  unfold Oper.wp execOp
  simp only [ho, resolve, invoke, builtin, Sem.run_bind, Sem.run_pure, Result.andThen_ok, List.map_toArray, List.map_cons, List.map_nil, hs, hx, hr]
  exact hKc

theorem text_kept {W W' : World} {base : Nat} {okt : Nat → Prop} {v : Value} {l : List Int} (ht : Kd.R (Kd.int .i64) 3 W base okt v l)
    (hk : ∀ g cur, v.ownBlock = some g → W.heap[g]? = some (.cells cur 3 (0, 0)) → ∃ cur' : Array Value, W'.heap[g]? = some (.cells cur' 3 (0, 0)) ∧ cur'.size = cur.size ∧ ∀ j, j < l.length → cur'[j]? = cur[j]?) : Kd.R (Kd.int .i64) 3 W' base (fun _ => True) v l := by
  have hown := Kd.own_of_R ht
  refine Kd.R_of_own ?_ (fun _ _ => trivial)
  obtain ⟨h1, h2⟩ := hown
  refine ⟨h1, ?_⟩
  rcases h2 with h2 | ⟨g, cap, cur, rfl, hg, hh, h3, h4, h5, h6⟩
  · exact .inl h2
  · obtain ⟨cur', hc, hs, hj⟩ := hk g cur rfl hh
    refine .inr ⟨g, cap, cur', rfl, hg, hc, h3, h4, hs.trans h5, ?_⟩
    rw [← h6]
    apply List.ext_getElem?
    intro j
    rw [List.getElem?_take, List.getElem?_take]
    split
    · rename_i hlt
      have := hj j (by omega)
      simpa using this
    · rfl

/-- One letter more. -/
theorem left_step {n d : Nat} {okt : Nat → Prop} {vo vo1 vo2 v v1 : Value} {l : List Int} {W wr w1 w2 w3 : World} (L0 : Left9 n vo v d vo1 W wr) (ht : Kd.R (Kd.int .i64) 3 W (n + 4) okt v l)
    (hsz1 : wr.heap.size ≤ w1.heap.size) (hg : ∀ k, k < wr.heap.size → some k ≠ v.ownBlock → w1.heap[k]? = wr.heap[k]?) (hat : v1.ownBlock = v.ownBlock ∨ ∃ b, v1.ownBlock = some b ∧ wr.heap.size ≤ b)
    (hl : ∀ g cur, v.ownBlock = some g → wr.heap[g]? = some (.cells cur 3 (0, 0)) → ∃ cur' : Array Value, w1.heap[g]? = some (.cells cur' 3 (0, 0)) ∧ cur'.size = cur.size ∧ ∀ j, j < d → cur'[j]? = cur[j]?)
    (hb2 : Below w1.heap.size w1 w2) (hty : ∀ g, vo1.ownBlock = some g → ∃ cells, w2.heap[g]? = some (.cells cells 25 (0, 0))) (L2 : Left9 n vo1 v1 (d + 1) vo2 w2 w3) : Left9 n vo v d vo2 W w3 := by
  have s0 := L0.size
  have s2 := hb2.size
  have s3 := L2.size
  refine ⟨by omega, fun k hk hne hno hnv => ?_, fun g cur hgv hcur => ?_, ?_⟩
  · rw [L2.same k (by omega) hne ?_ ?_, hb2.block k (by omega), hg k (by omega) hnv, L0.same k hk hne hno hnv]
    · rcases L0.out with h | ⟨b, h, hb⟩
      · rw [h]; exact hno
      · rw [h]; intro e; cases e; omega
    · rcases hat with h | ⟨b, h, hb⟩
      · rw [h]; exact hnv
      · rw [h]; intro e; cases e; omega
  · have hgb := Kd.R_base ht g hgv
    obtain ⟨c1, e1, z1, j1⟩ := L0.text g cur hgv hcur
    obtain ⟨c2, e2, z2, j2⟩ := hl g c1 hgv e1
    have e2' : w2.heap[g]? = some (.cells c2 3 (0, 0)) := (hb2.block g (lt_of_block e2)).trans e2
    by_cases hv1 : v1.ownBlock = some g
    · obtain ⟨c3, e3, z3, j3⟩ := L2.text g c2 hv1 e2'
      exact ⟨c3, e3, by omega, fun j hj => (j3 j (by omega)).trans ((j2 j hj).trans (j1 j hj))⟩
    · refine ⟨c2, (L2.same g (lt_of_block e2') (by omega) (fun e => ?_) (fun e => hv1 e.symm)).trans e2', by omega, fun j hj => (j2 j hj).trans (j1 j hj)⟩
      obtain ⟨cells, hc⟩ := hty g e.symm
      rw [e2'] at hc
      injection hc with hc
      injection hc with _ hc2
      cases hc2
  · rcases L2.out with h | ⟨b, h, hb⟩
    · rw [h]; exact L0.out
    · exact .inr ⟨b, h, by omega⟩

end Go.Proofs.Ytijmaphbaibllaa.Fl

set_option linter.unusedVariables false
set_option linter.unusedSimpArgs false
set_option linter.unnecessarySimpa false
namespace Go.Proofs.Ytijmaphbaibllaa.Fl
open Go.RowKit Go.Shelf Go.Proofs.YtijmaphbaibllaaW.PrintWords

theorem tl_append (a b : ByteArray) : tl (a ++ b) = tl a ++ tl b := by simp [tl]

/-- What is known of add, for texts with f letters to come. -/
def AddKnown (w0 : World) (n : Nat) (A : Option Addr) (c : Nat) (ls : List ByteArray) (r : ByteArray) (e m : Int) (f : Nat) : Prop :=
  ∀ (ok : Nat → Prop) (vo v : Value) (l row : List Int) (outs : List (List Int)) (W : World), RowB row → TI w0 n #[.slice A ls.length c, .string r, .int .i64 e] m ok vo outs W → Kd.R (Kd.int .i64) 3 W (n + 4) (fun _ => True) v l →
    (l.length : Int) + f = m → (∀ k, ok k → some k ≠ v.ownBlock) → (∀ k, W.heap.size ≤ k → ok k) → outs.length + 6 ^ f < 1000000000 →
    Calls Try.prog 120 #[v, .agg (rowC row), .pointer (some ⟨n, 0, none⟩), .pointer (some ⟨n + 1, 0, none⟩), .pointer (some ⟨n + 2, 0, none⟩), .pointer (some ⟨n + 3, 0, none⟩)] W
      (AddPost w0 n #[.slice A ls.length c, .string r, .int .i64 e] m ok vo v l.length (outs ++ addL (tl r) e (ls.map tl) f l row) W)

set_option maxRecDepth 100000 in
set_option maxHeartbeats 4000000 in
theorem add_node (w0 : World) (n : Nat) (A : Option Addr) (c : Nat) (ls : List ByteArray) (r : ByteArray) (e m : Int) (f : Nat) (ok : Nat → Prop) (vo v : Value) (l row : List Int) (outs : List (List Int)) (W : World) (hr : r.size ≤ 40) (hrow : RowB row)
    (hw0 : w0.heap.size = n) (hC : Kd.C Kd.string w0 A ls.length ls) (h6 : ls.length ≤ 6) (hs4 : ∀ s ∈ ls, s.size ≤ 4) (hm5 : m ≤ 5) (ih : AddKnown w0 n A c ls r e m f)
    (T : TI w0 n #[.slice A ls.length c, .string r, .int .i64 e] m ok vo outs W) (ht : Kd.R (Kd.int .i64) 3 W (n + 4) (fun _ => True) v l) (hm : (l.length : Int) + (f + 1 : Nat) = m) (hap : ∀ k, ok k → some k ≠ v.ownBlock) (hfr : ∀ k, W.heap.size ≤ k → ok k) (hcnt : outs.length + 6 ^ (f + 1) < 1000000000) (hh : hopelessB (tl r) e row = false)
    (res : List (List Int)) (hres : addTo (tl r) e (ls.map tl) f l row ls.length = res) :
    Calls Try.prog 120 #[v, .agg (rowC row), .pointer (some ⟨n, 0, none⟩), .pointer (some ⟨n + 1, 0, none⟩), .pointer (some ⟨n + 2, 0, none⟩), .pointer (some ⟨n + 3, 0, none⟩)] W
      (AddPost w0 n #[.slice A ls.length c, .string r, .int .i64 e] m ok vo v l.length (outs ++ res) W) := by
  have Hres := Lib.hid hres
  clear hres
  have hb0 : Below W.heap.size W (W.alloc (.cells (rowC row) 160)) := (Below.refl _ W).alloc (Nat.le_refl _) _
  have T1 := T.below hb0
  have h7 : (W.alloc (.cells (rowC row) 160)).heap[W.heap.size]? = some (.cells (rowC row) 160 (0, 0)) := World.alloc_heap_new _ _
  have Hh : Hid (Calls Try.prog 121 #[.agg #[.slice A ls.length c, .string r, .int .i64 e], .agg (rowC row)] (W.alloc (.cells (rowC row) 160)) fun ex w2 => ex = .returned (.bool false) ∧ Below (W.heap.size + 1) (W.alloc (.cells (rowC row) 160)) w2 ∧ w2.cell? ⟨n + 1, 0, none⟩ = some (.int .i64 m) ∧ w2.cell? ⟨n, 0, none⟩ = some (.slice A ls.length c)) := by
    refine (hopeless_calls A ls.length c r e row (W.alloc (.cells (rowC row) 160)) hr hrow).mono ?_
    rintro ex w2 ⟨rfl, hb2⟩
    have hb3 := hb2
    rw [World.size_alloc] at hb2
    exact ⟨by rw [hh], hb2, cell_of_one (T1.below hb3).b1, by simp [World.cell?, (T1.below hb3).b0]⟩
  have hsz : Hid ((Try.prog.info? 160).map (·.size) = some (rowC row).size) := by show _ = _; rw [rowC_size, hrow.1]; kernel_rfl
  have hlen : ((l.length : Nat) : Int) ≤ 5 := by omega
  have hlr : ((r.size : Nat) : Int) < 41 := by omega
  have hls6 : ((ls.length : Nat) : Int) ≤ 6 := by omega
  have hne : ((l.length : Int) == m) = false := beq_eq_false_iff_ne.2 (by omega)
  obtain ⟨A1, c1, rfl⟩ := Kd.R_slice ht
  obtain ⟨Ao, co, rfl⟩ := Kd.R_slice (Kd.S_R T.own)
  have T1' := Lib.hid T1
  have H7 := Lib.hid h7
  have Hb0 := Lib.hid hb0
  have Hrow := Lib.hid hrow
  have Hm := Lib.hid hm
  have HC := Lib.hid hC
  have Hw0 := Lib.hid hw0
  clear T1 h7 hb0 hh hrow hm hC hw0
  go_enter Try.func120, Try.ntmps120
  go_wp2_with (first
    | (refine wpList_load_row rfl 160 _ rfl W.heap.size rfl 160 _ (0, 0) _ H7.out Try.underlying160 rfl hsz.out ?_)
    | (refine wpList_load_row rfl 124 _ rfl n rfl 124 _ (0, 0) _ T1'.out.b0 Try.underlying124 rfl (by kernel_rfl) ?_)
    | (go_at_call 121; refine Hh.out.mono ?_; rintro ex w2 ⟨rfl, hb2, hcm, hcl⟩))
  have hb2' : Below (W.alloc (.cells (rowC row) 160)).heap.size (W.alloc (.cells (rowC row) 160)) w2 := by rw [World.size_alloc]; exact hb2
  have T2 := T1'.out.below hb2'
  have d7 := (hb2.block W.heap.size (Nat.lt_succ_self _)).trans H7.out
  have hbw : Below W.heap.size W w2 := Hb0.out.trans (hb2.mono (Nat.le_succ _))
  clear hcm hcl
  go_loopg [34] ls.length (fun g v34 wr => ∃ (k : Nat) (vo1 : Value), Aside0 (k + g = ls.length) ∧ v34 = .int .i64 (k : Int) ∧ TI w0 n #[.slice A ls.length c, .string r, .int .i64 e] m ok vo1 (outs ++ addTo (tl r) e (ls.map tl) f l row k) wr ∧ Left9 n (.slice Ao outs.length co) (.slice A1 l.length c1) l.length vo1 W wr ∧ wr.heap[W.heap.size]? = some (.cells (rowC row) 160 (0, 0)))
  case atStart => exact ⟨0, _, ⟨by omega⟩, rfl, by rw [show addTo (tl r) e (ls.map tl) f l row 0 = [] from rfl, List.append_nil]; exact T2, left_below hbw, d7⟩
  case round =>
    obtain ⟨k, vo1, Hkg, rfl, T3, L3, d3⟩ := hrel
    by_cases hk : k < ls.length
    · have hk2 : (k : Int) < (ls.length : Int) := by omega
      have hk0 : (0 : Int) ≤ (k : Int) := by omega
      have hC3 := Kd.C_below HC.out (by rw [Hw0.out]; exact T3.bel)
      obtain ⟨ad, ead, hcell⟩ := C_at hC3 k hk
      cases ead
      have hs4k := hs4 ls[k] (List.getElem_mem hk)
      have hgd : (ls.map tl).getD k [] = tl ls[k] := by rw [List.getD_eq_getElem?_getD, List.getElem?_map, List.getElem?_eq_getElem hk]; rfl
      obtain ⟨s, hs⟩ : ∃ s, ls[k] = s := ⟨_, rfl⟩
      rw [hs] at hcell hs4k hgd
      have Hgd := Lib.hid hgd
      have Hk := Lib.hid hk
      clear hk hgd hs hC3
      go_upto_if 41 with fail
      go_cut [9, 34] from 34 to 54 (fun v9 v34 wx => (∃ s' : ByteArray, v9 = .string s' ∧ tl s' = behind l (tl s) ∧ s'.size ≤ 5) ∧ v34 = .int .i64 (k : Int) ∧ wr = wx)
      case first =>
        by_cases hl0 : l = []
        · have h1 : ¬ (0 : Int) < (l.length : Int) := by rw [hl0]; simp
          have Hl0 := Lib.hid hl0
          clear hl0
          go_wp2_with fail
          go_meet
          case rel => exact ⟨⟨s, rfl, by rw [behind, if_pos Hl0.out], by omega⟩, rfl, rfl⟩
        · have h1 : (0 : Int) < (l.length : Int) := by have := List.length_pos_iff.2 hl0; omega
          have Hl0 := Lib.hid hl0
          clear hl0
          go_wp2_with fail
          go_meet
          case rel => exact ⟨⟨_, rfl, by rw [behind, if_neg Hl0.out, tl_append] <;> rfl, by rw [← tl_size, tl_append, List.length_append, tl_size]; exact Nat.add_le_add (Nat.le_refl 1) hs4k⟩, rfl, rfl⟩
      case rest =>
        obtain ⟨⟨s', rfl, hs', hs5⟩, rfl, rfl⟩ := hcut
        go_upto_region 10 with fail
        have T3b : Hid (TI w0 n #[.slice (some ad) ls.length c, .string r, .int .i64 e] m ok vo1 (outs ++ addTo (tl r) e (ls.map tl) f l row k) wr.drew) := T3.below ((Below.refl _ wr).drew)
        have hRw : Hid (Kd.R (Kd.int .i64) 3 wr.drew (n + 4) (fun _ => True) (.slice A1 l.length c1) l) := Kd.R_below (text_kept ht L3.text) ((Below.refl _ wr).drew)
        have hsz0 := L3.size
        have hlt0 := lt_of_block d3
        have hnn := T.sz
        have L3' := Lib.hid L3
        have d3n := Kd.R_ne hRw.out (show wr.drew.heap[W.heap.size]? = some (.cells (rowC row) 160 (0, 0)) from d3) (by decide)
        obtain ⟨R2, HR2⟩ : ∃ R2, Hid (afterL (tl r) row (tl s') = R2) := ⟨_, rfl⟩
        have HR2B : Hid (RowB R2) := by show RowB R2; rw [← HR2.out]; exact afterL_B _ _ Hrow.out
        have Hafter : Hid (∀ w1, Calls Try.prog 122 #[.agg #[.slice (some ad) ls.length c, .string r, .int .i64 e], .agg (rowC row), .string s'] w1 fun ex w' => ex = .returned (.agg (rowC R2)) ∧ Below w1.heap.size w1 w') := fun w1 => by rw [← HR2.out]; exact after_calls (some ad) ls.length c r e row s' w1 hr Hrow.out (by omega)
        have hS : (fun V : World => V.heap[n]? = some (.cells #[.slice (some ad) ls.length c, .string r, .int .i64 e] 124 (0, 0)) ∧ V.heap[W.heap.size]? = some (.cells (rowC row) 160 (0, 0)) ∧ V.heap[n + 3]? = some (.cells #[(.func (.func 120) #[] #[.pointer (some ⟨n, 0, none⟩), .pointer (some ⟨n + 1, 0, none⟩), .pointer (some ⟨n + 2, 0, none⟩), .pointer (some ⟨n + 3, 0, none⟩)])] 159 (0, 0))) { wr with drawn := wr.drawn + 1 } := ⟨T3.b0, d3, T3.b3⟩
        clear L3 T3
        refine wp_region_head 10 (fun V : World => V.heap[n]? = some (.cells #[.slice (some ad) ls.length c, .string r, .int .i64 e] 124 (0, 0)) ∧ V.heap[W.heap.size]? = some (.cells (rowC row) 160 (0, 0)) ∧ V.heap[n + 3]? = some (.cells #[(.func (.func 120) #[] #[.pointer (some ⟨n, 0, none⟩), .pointer (some ⟨n + 1, 0, none⟩), .pointer (some ⟨n + 2, 0, none⟩), .pointer (some ⟨n + 3, 0, none⟩)])] 159 (0, 0))) (by kernel_rfl) (by kernel_rfl) ?_
        refine take_op 0 (v := (.func (.func 120) #[] #[.pointer (some ⟨n, 0, none⟩), .pointer (some ⟨n + 1, 0, none⟩), .pointer (some ⟨n + 2, 0, none⟩), .pointer (some ⟨n + 3, 0, none⟩)])) rfl (by kernel_rfl) (by kernel_rfl) rfl (by kernel_rfl) (by kernel_rfl) (by kernel_rfl) (fun _ _ _ h => h) hS (Or.inl ⟨wanted_none rfl, ?_⟩) ?_
        · intro W hW; have g3 := cell_of_one hW.2.2; go_simp
        simp only [Act.put, List.setIfInBounds_toArray, List.set_cons_zero, List.set_cons_succ]
        refine take_op 1 (v := ?_) rfl (by kernel_rfl) (by kernel_rfl) rfl (by kernel_rfl) (by kernel_rfl) (by kernel_rfl) (fun _ _ _ h => h) hS (Or.inl ⟨wanted_none rfl, ?_⟩) ?_
        rotate_left
        · intro W hW; go_simp; with_reducible rfl
        simp only [Act.put, List.setIfInBounds_toArray, List.set_cons_zero, List.set_cons_succ]
        refine take_op 2 (v := ?_) rfl (by kernel_rfl) (by kernel_rfl) rfl (by kernel_rfl) (by kernel_rfl) (by kernel_rfl) (fun _ _ _ h => h) hS (Or.inl ⟨wanted_none rfl, ?_⟩) ?_
        rotate_left
        · intro W hW; go_simp; with_reducible rfl
        simp only [Act.put, List.setIfInBounds_toArray, List.set_cons_zero, List.set_cons_succ]
        refine take_op 5 (v := .agg #[.slice (some ad) ls.length c, .string r, .int .i64 e]) rfl (by kernel_rfl) (by kernel_rfl) rfl (by kernel_rfl) (by kernel_rfl) (by kernel_rfl) (fun _ _ _ h => h) hS (Or.inl ⟨wanted_none rfl, ?_⟩) ?_
        · intro W hW; exact exec_load_row rfl rfl hW.1 Try.underlying124 rfl (by kernel_rfl)
        simp only [Act.put, List.setIfInBounds_toArray, List.set_cons_zero, List.set_cons_succ]
        refine take_op 6 (v := .agg (rowC row)) rfl (by kernel_rfl) (by kernel_rfl) rfl (by kernel_rfl) (by kernel_rfl) (by kernel_rfl) (fun _ _ _ h => h) hS (Or.inl ⟨wanted_none rfl, ?_⟩) ?_
        · intro W hW; exact exec_load_row rfl rfl hW.2.1 Try.underlying160 rfl hsz.out
        simp only [Act.put, List.setIfInBounds_toArray, List.set_cons_zero, List.set_cons_succ]
        refine take_op 7 (v := ?_) rfl (by kernel_rfl) (by kernel_rfl) rfl (by kernel_rfl) (by kernel_rfl) (by kernel_rfl) (fun _ _ _ h => h) hS (Or.inl ⟨wanted_none rfl, ?_⟩) ?_
        rotate_left
        · intro W hW; go_simp; with_reducible rfl
        simp only [Act.put, List.setIfInBounds_toArray, List.set_cons_zero, List.set_cons_succ]
        refine only_op 3 rfl (by kernel_rfl) (by kernel_rfl) (by kernel_rfl) (wanted_none rfl) ?_
        intro K hK
        go_simp
        have hba : Below wr.heap.size wr ((wr.alloc (.cells #[.int .i64 (k : Int)] 3)).drew) := ((Below.refl _ wr).alloc (Nat.le_refl _) _).drew
        refine hK _ _ ⟨(hba.block _ (by omega)).trans hS.1, (hba.block _ hlt0).trans hS.2.1, (hba.block _ (by omega)).trans hS.2.2⟩ ?_
        clear hK K
        try simp only [Act.put, List.setIfInBounds_toArray, List.set_cons_zero, List.set_cons_succ]
        refine only_op 4 rfl (by kernel_rfl) (by kernel_rfl) (by kernel_rfl) (wanted_none rfl) ?_
        intro K hK
        change Oper.wp _ _ _ (wr.drew.alloc (.cells #[.int .i64 (k : Int)] 3)) _ _
        refine append_text_wp (n + 4) (.tmp 45) (.tmp 47) rfl (.slice A1 l.length c1) l (k : Int) (fun _ => True) rfl rfl hRw.out (by omega) T3b.out.sz ?_
        intro v1 w1 hR1 hbl1 hg1 hat1 hlimb
        obtain ⟨A5, c5, hv1⟩ := Kd.R_slice hR1
        rw [List.length_append, List.length_singleton] at hv1
        subst hv1
        have hS1 : (fun V : World => V.heap[n]? = some (.cells #[.slice (some ad) ls.length c, .string r, .int .i64 e] 124 (0, 0)) ∧ V.heap[W.heap.size]? = some (.cells (rowC row) 160 (0, 0)) ∧ V.heap[n + 3]? = some (.cells #[(.func (.func 120) #[] #[.pointer (some ⟨n, 0, none⟩), .pointer (some ⟨n + 1, 0, none⟩), .pointer (some ⟨n + 2, 0, none⟩), .pointer (some ⟨n + 3, 0, none⟩)])] 159 (0, 0))) w1 := ⟨(hbl1.block _ (by omega)).trans hS.1, (hg1.block _ hlt0 d3n).trans hS.2.1, (hbl1.block _ (by omega)).trans hS.2.2⟩
        refine hK _ _ hS1 ?_
        clear hK K
        try simp only [Act.put, List.setIfInBounds_toArray, List.set_cons_zero, List.set_cons_succ]
        refine only_op 8 rfl (by kernel_rfl) (by kernel_rfl) (by kernel_rfl) (wanted_none rfl) ?_
        intro K hK
        go_simp
        refine (Hafter.out w1).mono ?_
        rintro ex w3 ⟨rfl, hb3⟩
        have hz1 := hg1.size
        have hz1' : wr.heap.size ≤ w1.heap.size := hz1
        have hS3 : (fun V : World => V.heap[n]? = some (.cells #[.slice (some ad) ls.length c, .string r, .int .i64 e] 124 (0, 0)) ∧ V.heap[W.heap.size]? = some (.cells (rowC row) 160 (0, 0)) ∧ V.heap[n + 3]? = some (.cells #[(.func (.func 120) #[] #[.pointer (some ⟨n, 0, none⟩), .pointer (some ⟨n + 1, 0, none⟩), .pointer (some ⟨n + 2, 0, none⟩), .pointer (some ⟨n + 3, 0, none⟩)])] 159 (0, 0))) w3 := ⟨(hb3.block _ (by omega)).trans hS1.1, (hb3.block _ (by omega)).trans hS1.2.1, (hb3.block _ (by omega)).trans hS1.2.2⟩
        refine hK _ _ hS3 ?_
        clear hK K
        try simp only [Act.put, List.setIfInBounds_toArray, List.set_cons_zero, List.set_cons_succ]
        refine only_op 9 rfl (by kernel_rfl) (by kernel_rfl) (by kernel_rfl) (wanted_none rfl) ?_
        intro K hK
        go_simp
        have hb3n : Below (n + 4) wr.drew w3 := hbl1.trans (hb3.mono (by omega))
        have hS1o : Kd.S Out 25 w1 (n + 4) (fun k' => ok k' ∧ some k' ≠ (Value.slice A5 (l.length + 1) c5).ownBlock) vo1 (outs ++ addTo (tl r) e (ls.map tl) f l row k) := Kd.S_after (Kd.S_mono T3b.out.own (fun k' hk' => ⟨hk', hap k' hk'⟩)) hg1 hat1
        have T5 : TI w0 n #[.slice (some ad) ls.length c, .string r, .int .i64 e] m (fun k' => ok k' ∧ some k' ≠ (Value.slice A5 (l.length + 1) c5).ownBlock) vo1 (outs ++ addTo (tl r) e (ls.map tl) f l row k) w3 :=
          ⟨(hb3n.block _ (by omega)).trans T3b.out.b0, (hb3n.block _ (by omega)).trans T3b.out.b1, (hb3n.block _ (by omega)).trans T3b.out.b2, (hb3n.block _ (by omega)).trans T3b.out.b3, Kd.S_below hS1o hb3, T3b.out.bel.trans (hb3n.mono (by omega)), by have := hb3.size; omega⟩
        have hty : ∀ g, vo1.ownBlock = some g → ∃ cells, w3.heap[g]? = some (.cells cells 25 (0, 0)) := Kd.S_typed T5.own
        have hRlt := Kd.R_lt hR1
        have hz3 := hb3.size
        have hcount : (outs ++ addTo (tl r) e (ls.map tl) f l row k).length + 6 ^ f < 1000000000 := by
          have h1 := addTo_count (tl r) e (ls.map tl) (by rw [List.length_map]; exact h6) f l row k
          have h2 : k * 6 ^ f + 6 ^ f ≤ 6 ^ (f + 1) := by
            rw [Nat.pow_succ, Nat.mul_comm (6 ^ f) 6, ← Nat.succ_mul]
            exact Nat.mul_le_mul_right _ (by have := Hk.out; omega)
          rw [List.length_append]
          omega
        have hcall := ih (fun k' => ok k' ∧ some k' ≠ (Value.slice A5 (l.length + 1) c5).ownBlock) vo1 (.slice A5 (l.length + 1) c5) (l ++ [(k : Int)]) R2 (outs ++ addTo (tl r) e (ls.map tl) f l row k) w3 HR2B.out T5 (Kd.R_below hR1 hb3)
          (by have := Hm.out; rw [List.length_append, List.length_singleton]; omega) (fun k' hk' => hk'.2) (fun k' hk' => ⟨hfr k' (by omega), fun he => by have := hRlt k' he.symm; omega⟩) hcount
        refine hcall.mono ?_
        rintro ex w9 ⟨⟨u, rfl⟩, vo2, T9, L9⟩
        rw [List.length_append, List.length_singleton] at L9
        have hS9 : (fun V : World => V.heap[n]? = some (.cells #[.slice (some ad) ls.length c, .string r, .int .i64 e] 124 (0, 0)) ∧ V.heap[W.heap.size]? = some (.cells (rowC row) 160 (0, 0)) ∧ V.heap[n + 3]? = some (.cells #[(.func (.func 120) #[] #[.pointer (some ⟨n, 0, none⟩), .pointer (some ⟨n + 1, 0, none⟩), .pointer (some ⟨n + 2, 0, none⟩), .pointer (some ⟨n + 3, 0, none⟩)])] 159 (0, 0))) w9 := by
          refine ⟨T9.b0, (L9.same W.heap.size (by omega) (by omega) (fun he => ?_) (Kd.R_ne (Kd.R_below hR1 hb3) hS3.2.1 (by decide))).trans hS3.2.1, T9.b3⟩
          obtain ⟨cells, hc⟩ := hty _ he.symm
          rw [hS3.2.1] at hc
          injection hc with hc
          injection hc with _ hc2
          cases hc2
        refine hK _ _ hS9 ?_
        clear hK K
        try simp only [Act.put, List.setIfInBounds_toArray, List.set_cons_zero, List.set_cons_succ]
        refine anyH_left (by kernel_rfl) (by kernel_rfl) ?_
        change wpAny Try.prog Region.Mode.any _ _ 0 _ _ w9
        refine wpAny_done (by kernel_rfl) ?_ _
        try simp only [Exit.then]
        have L8 := Lib.hid (left_step L3'.out ht hz1' (fun k' hk' hne => hg1.block k' hk' hne) hat1 hlimb hb3 hty L9)
        have T8 : Hid (TI w0 n #[.slice (some ad) ls.length c, .string r, .int .i64 e] m ok vo2 (outs ++ addTo (tl r) e (ls.map tl) f l row (k + 1)) w9) := by
          have h1 : (outs ++ addTo (tl r) e (ls.map tl) f l row k) ++ addL (tl r) e (ls.map tl) f (l ++ [(k : Int)]) R2 = outs ++ addTo (tl r) e (ls.map tl) f l row (k + 1) := by
            rw [addTo_succ, List.append_assoc, Hgd.out, ← hs', HR2.out]
          rw [h1] at T9
          exact ⟨T9.b0, T9.b1, T9.b2, T9.b3, Kd.S_mono T9.own (fun k' hk' => hk'.1), T9.bel, T9.sz⟩
        have D9 := Lib.hid hS9.2.1
        obtain ⟨g, hg⟩ : ∃ g, gk = g + 1 := ⟨gk - 1, by have := Hkg.out; have := Hk.out; omega⟩
        have Hg := Lib.hid hg
        clear hg hS9 hS3 hS1 hS T9 L9 hty hlimb T5
        go_wp2_with fail
        go_roundg g
        case measure => have := Hg.out; omega
        case rel => exact ⟨k + 1, vo2, ⟨by have := Hkg.out; have := Hg.out; omega⟩, congrArg (Value.int .i64) (by omega), T8.out, L8.out, D9.out⟩
    · have hke : k = ls.length := by have := Hkg.out; omega
      have hk2 : ¬ (k : Int) < (ls.length : Int) := by omega
      have hout : outs ++ addTo (tl r) e (ls.map tl) f l row k = outs ++ res := by rw [hke, Hres.out]
      rw [hout] at T3
      have T3' := Lib.hid T3
      have L3' := Lib.hid L3
      clear T3 L3 hout hke
      go_wp2
      go_end0
      exact ⟨⟨_, rfl⟩, vo1, T3'.out, L3'.out⟩

end Go.Proofs.Ytijmaphbaibllaa.Fl

set_option linter.unusedVariables false
set_option linter.unusedSimpArgs false
set_option linter.unnecessarySimpa false
namespace Go.Proofs.Ytijmaphbaibllaa.Fl
open Go.RowKit Go.Shelf Go.Proofs.YtijmaphbaibllaaW.PrintWords

theorem add_calls (w0 : World) (n : Nat) (A : Option Addr) (c : Nat) (ls : List ByteArray) (r : ByteArray) (e m : Int) (hr : r.size ≤ 40)
    (hw0 : w0.heap.size = n) (hC : Kd.C Kd.string w0 A ls.length ls) (h6 : ls.length ≤ 6) (hs4 : ∀ s ∈ ls, s.size ≤ 4) (hm5 : m ≤ 5) : ∀ f, AddKnown w0 n A c ls r e m f := by
  intro f
  induction f with
  | zero =>
    intro ok vo v l row outs W hrow T ht hm hap hfr hcnt
    have hm' : m = (l.length : Int) := by omega
    subst hm'
    cases hh : hopelessB (tl r) e row with
    | true =>
      have := add_hopeless w0 n A c ls r e _ ok vo v l row outs W hr hrow T ht hh
      rwa [addL, if_pos hh, List.append_nil]
    | false =>
      refine add_leaf w0 n A c ls r e ok vo v l row outs W hr hrow T ht (by omega) hap hfr (by omega) hh _ ?_
      have h1 : addL (tl r) e (ls.map tl) 0 l row = if row.getD r.size 0 ≤ e then [l] else [] := by
        rw [addL, hh, tl_size]
        simp only [Bool.false_eq_true, if_false]
      exact h1.symm
  | succ f ih =>
    intro ok vo v l row outs W hrow T ht hm hap hfr hcnt
    cases hh : hopelessB (tl r) e row with
    | true =>
      have := add_hopeless w0 n A c ls r e m ok vo v l row outs W hr hrow T ht hh
      rwa [addL, if_pos hh, List.append_nil]
    | false =>
      refine add_node w0 n A c ls r e m f ok vo v l row outs W hr hrow hw0 hC h6 hs4 hm5 ih T ht hm hap hfr hcnt hh _ ?_
      have h1 : addL (tl r) e (ls.map tl) (f + 1) l row = addTo (tl r) e (ls.map tl) f l row ls.length := by
        rw [addL, hh, List.length_map]
        simp only [Bool.false_eq_true, if_false]
        rfl
      exact h1.symm

end Go.Proofs.Ytijmaphbaibllaa.Fl

set_option linter.unusedVariables false
set_option linter.unusedSimpArgs false
set_option linter.unnecessarySimpa false
namespace Go.Proofs.Ytijmaphbaibllaa.Fl
open Go.RowKit Go.Shelf Go.Proofs.YtijmaphbaibllaaW.PrintWords

/-- The start of texts. -/
theorem TI_start (w : World) (box : Array Value) (m : Int) : TI w w.heap.size box m (fun _ => True) (.slice none 0 0) [] (((((w.alloc (.cells box 124)).alloc (.cells #[.int .i64 m] 3)).alloc (.cells #[.slice none 0 0] 48)).alloc (.cells #[.func (.func 120) #[] #[.pointer (some ⟨w.heap.size, 0, none⟩), .pointer (some ⟨w.heap.size + 1, 0, none⟩), .pointer (some ⟨w.heap.size + 1 + 1, 0, none⟩), .pointer (some ⟨w.heap.size + 1 + 1 + 1, 0, none⟩)]] 159))) := by
  obtain ⟨h0, h1, h2, h3, h4, h5⟩ := heap_alloc4 w (.cells box 124) (.cells #[.int .i64 m] 3) (.cells #[.slice none 0 0] 48) (.cells #[.func (.func 120) #[] #[.pointer (some ⟨w.heap.size, 0, none⟩), .pointer (some ⟨w.heap.size + 1, 0, none⟩), .pointer (some ⟨w.heap.size + 1 + 1, 0, none⟩), .pointer (some ⟨w.heap.size + 1 + 1 + 1, 0, none⟩)]] 159)
  generalize (((((w.alloc (.cells box 124)).alloc (.cells #[.int .i64 m] 3)).alloc (.cells #[.slice none 0 0] 48)).alloc (.cells #[.func (.func 120) #[] #[.pointer (some ⟨w.heap.size, 0, none⟩), .pointer (some ⟨w.heap.size + 1, 0, none⟩), .pointer (some ⟨w.heap.size + 1 + 1, 0, none⟩), .pointer (some ⟨w.heap.size + 1 + 1 + 1, 0, none⟩)]] 159))) = W at *
  exact ⟨h0, h1, h2, h3, Kd.S_nil _ _ _ _ _, h5, by omega⟩

set_option maxRecDepth 100000 in
set_option maxHeartbeats 4000000 in
theorem texts_calls (A : Option Addr) (c : Nat) (ls : List ByteArray) (r : ByteArray) (e m : Int) (w : World) (hr : r.size ≤ 40) (hC : Kd.C Kd.string w A ls.length ls) (h6 : ls.length ≤ 6) (hs4 : ∀ s ∈ ls, s.size ≤ 4) (hm0 : 0 ≤ m) (hm5 : m ≤ 5) :
    Calls Try.prog 75 #[.agg #[.slice A ls.length c, .string r, .int .i64 e], .int .i64 m] w fun ex w' => (∃ v, ex = .returned v ∧ Kd.S Out 25 w' w.heap.size (fun _ => True) v (addL (tl r) e (ls.map tl) m.toNat [] (begunL (tl r)))) ∧ Below w.heap.size w w' := by
  have Hadd := Lib.hid (add_calls w w.heap.size A c ls r e m hr rfl hC h6 hs4 hm5 m.toNat)
  have Hbeg := Lib.hid (begun_calls A ls.length c r e)
  obtain ⟨L, HL⟩ : ∃ L, Hid (begunL (tl r) = L) := ⟨_, rfl⟩
  have HLB : Hid (RowB L) := by show RowB L; rw [← HL.out]; exact begunL_B _
  rw [HL.out] at Hbeg
  have T0 := Lib.hid (TI_start w #[.slice A ls.length c, .string r, .int .i64 e] m)
  have Hm : Hid ((([] : List Int).length : Int) + (m.toNat : Int) = m) := by show _ = m; simp; omega
  have H69 : Hid (([] : List (List Int)).length + 6 ^ m.toNat < 1000000000) := by
    show _ < _
    have : 6 ^ m.toNat ≤ 6 ^ 5 := Nat.pow_le_pow_right (by omega) (by omega)
    simp
    omega
  clear hC
  go_enter Try.func75, Try.ntmps75
  go_upto_region 3 with fail
  have T1 := T0.out
  clear T0
  generalize ((((w.alloc (.cells #[.slice A ls.length c, .string r, .int .i64 e] 124)).alloc (.cells #[.int .i64 m] 3)).alloc (.cells #[.slice none 0 0] 48)).alloc (.cells #[.func (.func 120) #[] #[.pointer (some ⟨w.heap.size, 0, none⟩), .pointer (some ⟨w.heap.size + 1, 0, none⟩), .pointer (some ⟨w.heap.size + 1 + 1, 0, none⟩), .pointer (some ⟨w.heap.size + 1 + 1 + 1, 0, none⟩)]] 159)) = W0 at *
  have hsz := T1.sz
  have hS : (fun V : World => V.heap[w.heap.size]? = some (.cells #[.slice A ls.length c, .string r, .int .i64 e] 124 (0, 0)) ∧ V.heap[w.heap.size + 1 + 1 + 1]? = some (.cells #[.func (.func 120) #[] #[.pointer (some ⟨w.heap.size, 0, none⟩), .pointer (some ⟨w.heap.size + 1, 0, none⟩), .pointer (some ⟨w.heap.size + 1 + 1, 0, none⟩), .pointer (some ⟨w.heap.size + 1 + 1 + 1, 0, none⟩)]] 159 (0, 0))) { W0 with drawn := W0.drawn + 1 } := ⟨T1.b0, T1.b3⟩
  have T2 := Lib.hid (T1.below ((Below.refl _ W0).drew))
  clear T1
  refine wp_region_head 4 (fun V : World => V.heap[w.heap.size]? = some (.cells #[.slice A ls.length c, .string r, .int .i64 e] 124 (0, 0)) ∧ V.heap[w.heap.size + 1 + 1 + 1]? = some (.cells #[.func (.func 120) #[] #[.pointer (some ⟨w.heap.size, 0, none⟩), .pointer (some ⟨w.heap.size + 1, 0, none⟩), .pointer (some ⟨w.heap.size + 1 + 1, 0, none⟩), .pointer (some ⟨w.heap.size + 1 + 1 + 1, 0, none⟩)]] 159 (0, 0))) (by kernel_rfl) (by kernel_rfl) ?_
  refine take_op 0 (v := .func (.func 120) #[] #[.pointer (some ⟨w.heap.size, 0, none⟩), .pointer (some ⟨w.heap.size + 1, 0, none⟩), .pointer (some ⟨w.heap.size + 1 + 1, 0, none⟩), .pointer (some ⟨w.heap.size + 1 + 1 + 1, 0, none⟩)]) rfl (by kernel_rfl) (by kernel_rfl) rfl (by kernel_rfl) (by kernel_rfl) (by kernel_rfl) (fun _ _ _ h => h) hS (Or.inl ⟨wanted_none rfl, ?_⟩) ?_
  · intro W hW; have g3 := cell_of_one hW.2; go_simp
  simp only [Act.put, List.setIfInBounds_toArray, List.set_cons_zero, List.set_cons_succ]
  refine take_op 1 (v := .agg #[.slice A ls.length c, .string r, .int .i64 e]) rfl (by kernel_rfl) (by kernel_rfl) rfl (by kernel_rfl) (by kernel_rfl) (by kernel_rfl) (fun _ _ _ h => h) hS (Or.inl ⟨wanted_none rfl, ?_⟩) ?_
  · intro W hW; exact exec_load_row rfl rfl hW.1 Try.underlying124 rfl (by kernel_rfl)
  simp only [Act.put, List.setIfInBounds_toArray, List.set_cons_zero, List.set_cons_succ]
  refine only_op 2 rfl (by kernel_rfl) (by kernel_rfl) (by kernel_rfl) (wanted_none rfl) ?_
  intro K hK
  go_simp
  refine (Hbeg.out W0.drew hr).mono ?_
  rintro ex w3 ⟨rfl, hb3⟩
  have hb3' : Below W0.heap.size W0 w3 := ((Below.refl _ W0).drew).trans hb3
  have T3 := Lib.hid (T2.out.below hb3)
  refine hK _ _ ⟨(hb3'.block _ (by omega)).trans hS.1, (hb3'.block _ (by omega)).trans hS.2⟩ ?_
  clear hK K
  try simp only [Act.put, List.setIfInBounds_toArray, List.set_cons_zero, List.set_cons_succ]
  have hS3 : (fun V : World => V.heap[w.heap.size]? = some (.cells #[.slice A ls.length c, .string r, .int .i64 e] 124 (0, 0)) ∧ V.heap[w.heap.size + 1 + 1 + 1]? = some (.cells #[.func (.func 120) #[] #[.pointer (some ⟨w.heap.size, 0, none⟩), .pointer (some ⟨w.heap.size + 1, 0, none⟩), .pointer (some ⟨w.heap.size + 1 + 1, 0, none⟩), .pointer (some ⟨w.heap.size + 1 + 1 + 1, 0, none⟩)]] 159 (0, 0))) w3 := ⟨(hb3'.block _ (by omega)).trans hS.1, (hb3'.block _ (by omega)).trans hS.2⟩
  refine only_op 3 rfl (by kernel_rfl) (by kernel_rfl) (by kernel_rfl) (wanted_none rfl) ?_
  intro K hK
  go_simp
  have hcall := Hadd.out (fun _ => True) (.slice none 0 0) (.slice none 0 0) [] L [] w3 HLB.out T3.out (Kd.R_nil _ _ _ _ _) Hm.out (fun k _ => by simp [Value.ownBlock]) (fun _ _ => trivial) H69.out
  refine hcall.mono ?_
  rintro ex w9 ⟨⟨u, rfl⟩, vo2, T9, L9⟩
  have T9' := Lib.hid T9
  obtain ⟨Ao, co, rfl⟩ := Kd.R_slice (Kd.S_R T9.own)
  have k2 : w9.cell? ⟨w.heap.size + 1 + 1, 0, none⟩ = some (.slice Ao ([] ++ addL (tl r) e (ls.map tl) m.toNat [] L).length co) := cell_of_one T9.b2
  have f2 : w9.frozen? ⟨w.heap.size + 1 + 1, 0, none⟩ = false := by
    have := T9.b2
    simp only [World.frozen?]
    rw [show w.heap.size + 1 + 1 = w.heap.size + 2 from rfl, this]
    rfl
  have hbel : Hid (Below w.heap.size w w9) := T9.bel
  have hlt2 := lt_of_block T9.b2
  refine hK _ _ ⟨T9.b0, T9.b3⟩ ?_
  clear hK K T9 L9 hcall hS hS3 hb3 hb3' T3 T2
  try simp only [Act.put, List.setIfInBounds_toArray, List.set_cons_zero, List.set_cons_succ]
  refine anyH_left (by kernel_rfl) (by kernel_rfl) ?_
  change wpAny Try.prog Region.Mode.any _ _ 0 _ _ w9
  refine wpAny_done (by kernel_rfl) ?_ _
  try simp only [Exit.then]
  have HT : Hid (TI w w.heap.size #[.slice A ls.length c, .string r, .int .i64 e] m (fun _ => True) (.slice Ao ([] ++ addL (tl r) e (ls.map tl) m.toNat [] L).length co) ([] ++ addL (tl r) e (ls.map tl) m.toNat [] L) (w9.setCell ⟨w.heap.size + 1 + 1, 0, none⟩ (.slice Ao ([] ++ addL (tl r) e (ls.map tl) m.toNat [] L).length co))) := T9'.out.put (Below.refl _ _) T9'.out.own
  rw [List.nil_append] at HT k2
  clear T9'
  generalize hq : addL (tl r) e (ls.map tl) m.toNat [] L = outs at *
  have Hq := Lib.hid hq
  clear hq hsz
  have k3 : (w9.setCell ⟨w.heap.size + 1 + 1, 0, none⟩ (.slice Ao outs.length co)).heap[w.heap.size + 1 + 1]? = some (.cells #[.slice Ao outs.length co] 48 (0, 0)) := HT.out.b2
  go_wp2_with fail
  refine bodyPost_ret (v := .slice Ao outs.length co) ?_ rfl ⟨⟨_, rfl, ?_⟩, HT.out.bel⟩
  · have k4 := cell_of_one k3
    simp [results, Try.results75, go_sem, k4]
  · rw [HL.out, Hq.out]
    exact Kd.S_lower HT.out.own (by omega)

end Go.Proofs.Ytijmaphbaibllaa.Fl

set_option linter.unusedVariables false
set_option linter.unusedSimpArgs false
set_option linter.unnecessarySimpa false
namespace Go.Proofs.Ytijmaphbaibllaa.Fl
open Go.RowKit Go.Shelf Go.Proofs.YtijmaphbaibllaaW.PrintWords

/-- Whether the numbers are in range. -/
def rangeB (e m : Int) : Bool := (decide (0 ≤ e) && decide (e ≤ 3)) && (decide (0 ≤ m) && decide (m ≤ 5))
/-- The error that Texts returns. -/
def textsE (ls : List ByteArray) (r : ByteArray) (e m : Int) : Int := if codeFault ls ≠ 0 then codeFault ls else if signsFault [r] ≠ 0 then signsFault [r] else if rangeB e m = true then 0 else 2
/-- The texts of fewer than so many letters. -/
def textsTo (ls : List ByteArray) (r : ByteArray) (e : Int) (k : Nat) : List (List Int) := (List.range k).flatMap fun f => addL (tl r) e (ls.map tl) f [] (begunL (tl r))
def textsN (ls : List ByteArray) (r : ByteArray) (e m : Int) : List (List Int) := if textsE ls r e m = 0 then textsTo ls r e (m.toNat + 1) else []

theorem textsTo_succ (ls : List ByteArray) (r : ByteArray) (e : Int) (k : Nat) : textsTo ls r e (k + 1) = textsTo ls r e k ++ addL (tl r) e (ls.map tl) k [] (begunL (tl r)) := by
  unfold textsTo
  rw [List.range_succ, List.flatMap_append]
  simp

theorem pow_six (f : Nat) (hf : f ≤ 5) : 6 ^ f ≤ 7776 := Nat.le_trans (Nat.pow_le_pow_right (by omega) hf) (by decide)

theorem textsTo_count (ls : List ByteArray) (r : ByteArray) (e : Int) (h6 : ls.length ≤ 6) : ∀ k, k ≤ 6 → (textsTo ls r e k).length ≤ k * 7776
  | 0, _ => by simp [textsTo]
  | k + 1, hk => by
    rw [textsTo_succ, List.length_append]
    have h1 := textsTo_count ls r e h6 k (by omega)
    have h2 := addL_count (tl r) e (ls.map tl) (by rw [List.length_map]; exact h6) k [] (begunL (tl r))
    have h3 := pow_six k (by omega)
    omega

theorem S_rows {W : World} {n : Nat} {v : Value} {res : List (List Int)} (h : Kd.S Out 25 W n (fun _ => True) v res) : ∃ A c, v = .slice A res.length c ∧ ReadsRow (Out.M W n (fun k => n ≤ k)) Out.sz W A res.length res := by
  have h1 : Out.R 25 W n (fun k => n ≤ k) v res := Kd.R_mono (Kd.R_bound (Kd.S_R h)) (fun k hk => hk.2.1)
  obtain ⟨A, c, e, _, hr⟩ := OwnRow.reads h1.2
  exact ⟨A, c, e, ReadsRow.imp_ hr (Below.refl _ _) (fun p c hp => Out.M_mono (fun k hk => hk.1) hp)⟩

def TextsPost (ls : List ByteArray) (r : ByteArray) (e m : Int) (w : World) (ex : Ending) (w' : World) : Prop :=
  ∃ v : Value, ex = .returned (.tuple #[v, .int .i64 (textsE ls r e m)]) ∧ Kd.R Out 25 w' w.heap.size (fun _ => True) v (textsN ls r e m) ∧ Below w.heap.size w w'

theorem texts_none {ls : List ByteArray} {r : ByteArray} {e m : Int} {w w' : World} {x : Int} (hx : textsE ls r e m = x) (h0 : x ≠ 0) (hb : Below w.heap.size w w') : TextsPost ls r e m w (.returned (.tuple #[.slice none 0 0, .int .i64 x])) w' := by
  refine ⟨.slice none 0 0, by rw [hx], ?_, hb⟩
  unfold textsN
  rw [if_neg (by rw [hx]; exact h0)]
  exact Kd.R_nil _ _ _ _ _

set_option maxRecDepth 100000 in
set_option maxHeartbeats 8000000 in
theorem textsAll_calls (A : Option Addr) (c : Nat) (ls : List ByteArray) (r : ByteArray) (e m : Int) (w : World) (hr : Kd.C Kd.string w A ls.length ls) (hc : ls.length ≤ c) (hs : ∀ s ∈ ls, s.size ≤ 140737488355328) :
    Calls Try.prog 33 #[.agg #[.slice A ls.length c], .string r, .int .i64 e, .int .i64 m] w (TextsPost ls r e m w) := by
  have hb0 : Below w.heap.size w (w.alloc (.cells #[.slice A ls.length c] 30)) := (Below.refl _ w).alloc (Nat.le_refl _) _
  have Hb0 := Lib.hid hb0
  have Hr := Lib.hid hr
  have Hr1 := Lib.hid (Kd.C_below hr hb0)
  have hlen : (ls.length : Int) ≤ 9223372036854775807 := by have := hr.2.1; omega
  have Hw : Hid (Calls Try.prog 20 #[.agg #[.slice A ls.length c]] (w.alloc (.cells #[.slice A ls.length c] 30)) fun e w2 => e = .returned (.int .i64 (codeFault ls)) ∧ Below (w.heap.size + 1) (w.alloc (.cells #[.slice A ls.length c] 30)) w2) := by
    have := checkCode_calls A c ls (w.alloc (.cells #[.slice A ls.length c] 30)) Hr1.out hc hs
    rw [World.size_alloc] at this
    exact this
  have Hbw : Hid (∀ w2, Below (w.heap.size + 1) (w.alloc (.cells #[.slice A ls.length c] 30)) w2 → Below w.heap.size w w2) := fun w2 h => Hb0.out.trans (h.mono (by omega))
  have Hbox : Hid (∀ w2, Below (w.heap.size + 1) (w.alloc (.cells #[.slice A ls.length c] 30)) w2 → w2.cell? ⟨w.heap.size, 0, none⟩ = some (.slice A ls.length c)) := fun w2 h => by rw [h.cell (p := ⟨w.heap.size, 0, none⟩) (Nat.lt_succ_self _)]; simp
  have Hsg : Hid (∀ w2, Below (w.heap.size + 1) (w.alloc (.cells #[.slice A ls.length c] 30)) w2 → Calls Try.prog 68 #[.slice (some ⟨w2.heap.size, 0, none⟩) 1 1] (w2.alloc (.cells #[.string r] 9)) fun e w3 => e = .returned (.int .i64 (signsFault [r])) ∧ Below (w.heap.size + 1) (w.alloc (.cells #[.slice A ls.length c] 30)) w3) := by
    intro w2 hb2
    refine (checkSigns_calls _ 1 [r] _ (C_new w2 [r] 9 (by simp))).mono ?_
    rintro e w3 ⟨rfl, hb3⟩
    have hsz := hb2.size
    rw [World.size_alloc] at hsz
    have hb4 : Below (w.heap.size + 1) w2 (w2.alloc (.cells #[.string r] 9)) := (Below.refl _ w2).alloc hsz _
    exact ⟨rfl, (hb2.trans hb4).trans (hb3.mono (by rw [World.size_alloc]; omega))⟩
  clear hr hb0
  rcases codeFault_cases ls with h0 | h0 | h0
  rotate_left
  · have HR : Hid (textsE ls r e m = 1) := by show _ = _; unfold textsE; rw [if_pos (by rw [h0]; simp), h0]
    rw [h0] at Hw
    clear h0
    go_enter Try.func33, Try.ntmps33
    go_wp2_with (first | (go_at_call 20; refine Hw.out.mono ?_; rintro ex w2 ⟨rfl, hb2⟩; have hbox := Hbox.out _ hb2))
    go_ret2
    exact texts_none HR.out (by decide) (Hbw.out _ hb2)
  · have HR : Hid (textsE ls r e m = 3) := by show _ = _; unfold textsE; rw [if_pos (by rw [h0]; simp), h0]
    rw [h0] at Hw
    clear h0
    go_enter Try.func33, Try.ntmps33
    go_wp2_with (first | (go_at_call 20; refine Hw.out.mono ?_; rintro ex w2 ⟨rfl, hb2⟩; have hbox := Hbox.out _ hb2))
    go_ret2
    exact texts_none HR.out (by decide) (Hbw.out _ hb2)
  have hz := codeFault_zero h0
  have H6 := Lib.hid hz.1
  have Hs4 : Hid (∀ s ∈ ls, s.size ≤ 4) := fun s h => (letterB_size (hz.2.2.1 s h)).2
  have Hcf := Lib.hid h0
  rw [h0] at Hw
  clear h0 hz
  rcases signsFault_cases [r] with h1 | h1 | h1
  rotate_left
  · have HR : Hid (textsE ls r e m = 3) := by show _ = _; unfold textsE; rw [if_neg (by rw [Hcf.out]; simp), if_pos (by rw [h1]; simp), h1]
    rw [h1] at Hsg
    clear h1
    go_enter Try.func33, Try.ntmps33
    go_wp2_with (first | (go_at_call 20; refine Hw.out.mono ?_; rintro ex w2 ⟨rfl, hb2⟩; have hbox := Hbox.out _ hb2) | (go_at_call 68; refine (Hsg.out _ hb2).mono ?_; rintro ex w3 ⟨rfl, hb3⟩; have hbox3 := Hbox.out _ hb3))
    go_ret2
    exact texts_none HR.out (by decide) (Hbw.out _ hb3)
  · have HR : Hid (textsE ls r e m = 4) := by show _ = _; unfold textsE; rw [if_neg (by rw [Hcf.out]; simp), if_pos (by rw [h1]; simp), h1]
    rw [h1] at Hsg
    clear h1
    go_enter Try.func33, Try.ntmps33
    go_wp2_with (first | (go_at_call 20; refine Hw.out.mono ?_; rintro ex w2 ⟨rfl, hb2⟩; have hbox := Hbox.out _ hb2) | (go_at_call 68; refine (Hsg.out _ hb2).mono ?_; rintro ex w3 ⟨rfl, hb3⟩; have hbox3 := Hbox.out _ hb3))
    go_ret2
    exact texts_none HR.out (by decide) (Hbw.out _ hb3)
  have hr40 : r.size ≤ 40 := (signsFault_zero h1 r (by simp)).1
  have Hsf := Lib.hid h1
  rw [h1] at Hsg
  clear h1
  have HE : Hid (∀ W, Calls Try.prog 66 #[.int .i64 e, .int .i64 0, .int .i64 3] W fun ex w' => ex = .returned (.bool (decide (0 ≤ e) && decide (e ≤ 3))) ∧ W = w') := fun W => within_calls _ _ _ W
  have HM : Hid (∀ W, Calls Try.prog 66 #[.int .i64 m, .int .i64 0, .int .i64 5] W fun ex w' => ex = .returned (.bool (decide (0 ≤ m) && decide (m ≤ 5))) ∧ W = w') := fun W => within_calls _ _ _ W
  cases hbe : (decide (0 ≤ e) && decide (e ≤ 3)) with
  | false =>
    have HR : Hid (textsE ls r e m = 2) := by show _ = _; unfold textsE rangeB; rw [if_neg (by rw [Hcf.out]; simp), if_neg (by rw [Hsf.out]; simp), hbe]; simp
    rw [hbe] at HE
    clear hbe
    go_enter Try.func33, Try.ntmps33
    go_wp2_with (first | (go_at_call 20; refine Hw.out.mono ?_; rintro ex w2 ⟨rfl, hb2⟩; have hbox := Hbox.out _ hb2) | (go_at_call 68; refine (Hsg.out _ hb2).mono ?_; rintro ex w3 ⟨rfl, hb3⟩; have hbox3 := Hbox.out _ hb3) | (go_at_call 66; refine (HE.out _).mono ?_; rintro ex w4 ⟨rfl, rfl⟩))
    go_ret2
    exact texts_none HR.out (by decide) (Hbw.out _ hb3)
  | true =>
    rw [hbe] at HE
    cases hbm : (decide (0 ≤ m) && decide (m ≤ 5)) with
    | false =>
      have HR : Hid (textsE ls r e m = 2) := by show _ = _; unfold textsE rangeB; rw [if_neg (by rw [Hcf.out]; simp), if_neg (by rw [Hsf.out]; simp), hbm]; simp
      rw [hbm] at HM
      clear hbm hbe
      go_enter Try.func33, Try.ntmps33
      go_wp2_with (first | (go_at_call 20; refine Hw.out.mono ?_; rintro ex w2 ⟨rfl, hb2⟩; have hbox := Hbox.out _ hb2) | (go_at_call 68; refine (Hsg.out _ hb2).mono ?_; rintro ex w3 ⟨rfl, hb3⟩; have hbox3 := Hbox.out _ hb3) | (go_at_call 66; (first | (with_reducible refine (HE.out _).mono ?_) | (with_reducible refine (HM.out _).mono ?_)); rintro ex w4 ⟨rfl, rfl⟩))
      go_ret2
      exact texts_none HR.out (by decide) (Hbw.out _ hb3)
    | true =>
      have HR : Hid (textsE ls r e m = 0) := by show _ = _; unfold textsE rangeB; rw [if_neg (by rw [Hcf.out]; simp), if_neg (by rw [Hsf.out]; simp), hbe, hbm]; simp
      rw [hbm] at HM
      simp only [Bool.and_eq_true, decide_eq_true_eq] at hbe hbm
      obtain ⟨hm0, hm5⟩ := hbm
      obtain ⟨M, rfl⟩ : ∃ M : Nat, m = (M : Int) := ⟨m.toNat, by omega⟩
      have Hbe := Lib.hid hbe
      clear hbe
      go_enter Try.func33, Try.ntmps33
      go_wp2_with (first | (go_at_call 20; refine Hw.out.mono ?_; rintro ex w2 ⟨rfl, hb2⟩; have hbox := Hbox.out _ hb2) | (go_at_call 68; refine (Hsg.out _ hb2).mono ?_; rintro ex w3 ⟨rfl, hb3⟩; have hbox3 := Hbox.out _ hb3) | (go_at_call 66; (first | (with_reducible refine (HE.out _).mono ?_) | (with_reducible refine (HM.out _).mono ?_)); rintro ex w4 ⟨rfl, rfl⟩))
      have hw3 := Hbw.out _ hb3
      have Hw3 := Lib.hid hw3
      have hb4 : Below w3.heap.size w3 (w3.alloc (.cells #[.slice A ls.length c, .string r, .int .i64 e] 124)) := (Below.refl _ w3).alloc (Nat.le_refl _) _
      have Hb4 := Lib.hid hb4
      have Hblk : Hid ((w3.alloc (.cells #[.slice A ls.length c, .string r, .int .i64 e] 124)).heap[w3.heap.size]? = some (.cells #[.slice A ls.length c, .string r, .int .i64 e] 124 (0, 0))) := World.alloc_heap_new _ _
      have hsz3 := hw3.size
      clear hbox hbox3 hb2 hb3 hw3 hb4
      go_loopw [13, 40] (fun v13 v40 wr => ∃ k : Nat, k ≤ M + 1 ∧ v40 = .int .i64 k ∧ Aside0 (Kd.R Out 25 wr (w3.heap.size + 1) (fun _ => True) v13 (textsTo ls r e k)) ∧ Aside0 (Below (w3.heap.size + 1) (w3.alloc (.cells #[.slice A ls.length c, .string r, .int .i64 e] 124)) wr)) (fun _ v40 _ => M + 1 - (intOf v40).toNat)
      case atStart => exact ⟨0, Nat.zero_le _, rfl, ⟨Kd.R_nil _ _ _ _ _⟩, ⟨Below.refl _ _⟩⟩
      case round =>
        obtain ⟨k, hk, rfl, HRo, HB⟩ := hrel
        obtain ⟨A13, c13, rfl⟩ := Kd.R_slice HRo.out
        have hblk := (HB.out.block w3.heap.size (Nat.lt_succ_self _)).trans Hblk.out
        have Hk3 := Lib.hid hblk
        have hszr := HB.out.size
        rw [World.size_alloc] at hszr
        have hwr : Below w.heap.size w wr := (Hw3.out.trans (Hb4.out.mono hsz3)).trans (HB.out.mono (by omega))
        have Hwr := Lib.hid hwr
        clear hblk hwr
        by_cases hlt : k < M + 1
        · have hlt2 : (k : Int) < (M : Int) + 1 := by omega
          have Ht := Lib.hid (texts_calls A c ls r e (k : Int) wr hr40 (Kd.C_below Hr.out Hwr.out) H6.out Hs4.out (by omega) (by omega))
          obtain ⟨res, Hres⟩ : ∃ res, Hid (addL (tl r) e (ls.map tl) k [] (begunL (tl r)) = res) := ⟨_, Lib.hid rfl⟩
          simp only [Int.toNat_natCast] at Ht
          rw [Hres.out] at Ht
          have Hcnt : Hid ((textsTo ls r e k).length + res.length ≤ 100000) := by
            show _ ≤ _
            have h1 := textsTo_count ls r e H6.out (k + 1) (by omega)
            rw [textsTo_succ, List.length_append, Hres.out] at h1
            have : (k + 1) * 7776 ≤ 6 * 7776 := Nat.mul_le_mul_right _ (by omega)
            omega
          go_wp2_with (first
            | (refine wpList_load_row rfl 124 _ rfl w3.heap.size rfl 124 _ (0, 0) _ Hk3.out Try.underlying124 rfl (by kernel_rfl) ?_)
            | (go_at_call 75; refine Ht.out.mono ?_; rintro ex w5 ⟨⟨v5, rfl, hS5⟩, hb5⟩; obtain ⟨A5, c5, rfl, hR5⟩ := S_rows hS5; have HR5 := Lib.hid hR5; clear hS5 hR5)
            | (at_builtin; refine Kd.R_append_rows Out (w0 := w3.alloc (.cells #[.slice A ls.length c, .string r, .int .i64 e] 124)) (Rr := Out.M w5 wr.heap.size (fun k => wr.heap.size ≤ k)) (w3.heap.size + 1) rfl (.tmp 43) (.tmp 46) 48 25 (.slice none 0 0) 24 rfl Try.underlying48 info25 rfl (by decide) (by omega) (.slice A13 (textsTo ls r e k).length c13) (textsTo ls r e k) res A5 res.length c5 (fun _ => True) (fun k => wr.heap.size ≤ k) rfl rfl ?aO ?aR ?aK ?aF ?aG ?aB ?aS ?aL ?_; (case aO => exact Kd.R_below HRo.out hb5); (case aR => exact HR5.out); (case aK => exact fun x cs hx => Out.M_lower (by omega) hx); (case aF => exact fun k hk => ⟨trivial, fun he => by have := Kd.R_lt HRo.out k he.symm; omega⟩); (case aG => exact fun _ _ => trivial); (case aB => exact HB.out.trans (hb5.mono (by omega))); (case aS => have := hb5.size; omega); (case aL => have := Hcnt.out; omega); intro v1 w6 ho hb hg hat; rw [← Hres.out, ← textsTo_succ] at ho; have HO := Lib.hid ho; have HBB := Lib.hid hb; clear ho hb hg hat))
          go_roundw
          case rel => exact ⟨k + 1, by omega, by go_num, ⟨HO.out⟩, ⟨HBB.out⟩⟩
          case measure => simp [intOf]; omega
        · have hke : k = M + 1 := by omega
          have hlt2 : ¬ (k : Int) < (M : Int) + 1 := by omega
          have HF : Hid (textsN ls r e (M : Int) = textsTo ls r e k) := by show _ = _; unfold textsN; rw [if_pos HR.out, hke]; simp
          clear hke
          go_wp2_with fail
          go_ret2
          refine ⟨.slice A13 (textsTo ls r e k).length c13, by rw [HR.out]; rfl, ?_, Hwr.out⟩
          rw [HF.out]
          exact Kd.R_lower HRo.out (by omega)

end Go.Proofs.Ytijmaphbaibllaa.Fl

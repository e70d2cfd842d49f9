/- Texts of this claim, merged by a program: XIns. -/
import Derived.ArgAppend
import Derived.Below
import Derived.BigQuiet
import Derived.Deep.AppendLies
import Derived.Deep.CutBlock
import Derived.Deep.DeepCutAuto
import Derived.Deep.Draws
import Derived.Deep.LoopGhost
import Derived.Deep.OwnRows
import Derived.Deep.QuietTactic
import Derived.Deep.RegionHeld3
import Derived.KernelRfl
import Derived.Laws.BitsLemmas
import Derived.Laws.BytesArg
import Derived.Laws.Cover1
import Derived.Laws.Externs
import Derived.Laws.IdiomCopy
import Derived.Laws.MakeOwn
import Derived.Laws.OwnMore
import Derived.Laws.Rows
import Derived.Laws.Slices
import Derived.Laws.Small
import Derived.Laws.Strings
import Derived.Laws.StructEq
import Derived.Lib.AppendStr
import Derived.Lib.Builder
import Derived.Lib.ConvBytes
import Derived.Lib.MakeNoZero
import Derived.Lib.Slices
import Derived.Lib.Strings
import Derived.Lib.UnsafeStr
import Derived.Lib.Walk
import Derived.Maps.AppendAt
import Derived.OrdersHeld
import Derived.OwnWalk
import Derived.RowKit
import Derived.RowKit3
import Derived.Shelf.SlSortCmp.QuietGrown
import Derived.Tactics
import Derived.Test.YtghjhampigbbkaaGreatDoorProg
import Derived.WalkKit
import Derived.WideLaws
import Derived.Test.YtghjhampigbbkaaGreatDoorKW3
import Derived.Test.YtghjhampigbbkaaGreatDoorKW4
import Derived.Test.YtghjhampigbbkaaGreatDoorKW5
import Derived.Test.YtghjhampigbbkaaGreatDoorKW6
import Derived.Test.YtghjhampigbbkaaGreatDoorKW7
import Derived.Test.YtghjhampigbbkaaGreatDoorKW8
import Derived.Test.YtghjhampigbbkaaGreatDoorKW9
import Derived.Test.YtghjhampigbbkaaGreatDoorKW10
import Derived.Test.YtghjhampigbbkaaGreatDoorKW11
import Derived.Test.YtghjhampigbbkaaGreatDoorKW13
set_option linter.unusedVariables false
set_option linter.unusedSimpArgs false
section
namespace Go.Proofs.YtghjhampigbbkaaGreatDoor.PA
open Go.RowKit Go.Sort Go.Proofs.YtghjhampigbbkaaGreatDoorW.PrintWords Go.Proofs.YtghjhampigbbkaaGreatDoorW.PrintLast Go.Proofs.YtghjhampigbbkaaGreatDoorW.PrintMore
def insIn {α : Type} (lt : α → α → Bool) (z : α) (a : Nat) : Nat → List α → List α
  | 0, ds => ds
  | j + 1, ds => if a ≤ j ∧ lt (ds.getD (j + 1) z) (ds.getD j z) = true then insIn lt z a j ((ds.set (j + 1) (ds.getD j z)).set j (ds.getD (j + 1) z)) else ds
def insOut {α : Type} (lt : α → α → Bool) (z : α) (a : Nat) : Nat → Nat → List α → List α
  | 0, _, ds => ds
  | r + 1, i, ds => insOut lt z a r (i + 1) (insIn lt z a i ds)
theorem insIn_length {α : Type} (lt : α → α → Bool) (z : α) (a : Nat) : ∀ (j : Nat) (ds : List α), (insIn lt z a j ds).length = ds.length
  | 0, ds => rfl
  | j + 1, ds => by
    rw [insIn]
    split
    · rw [insIn_length lt z a j, List.length_set, List.length_set]
    · rfl
theorem keep_below' {w W W1 : World} {g : Nat} (h : KeepBut w W g none) (hb : Below W.heap.size W W1) : KeepBut w W1 g none :=
  ⟨Nat.le_trans h.1 hb.size, fun i hi hg hr => (hb.block i (Nat.lt_of_lt_of_le hi h.1)).trans (h.2 i hi hg hr)⟩
theorem mixed : Tryz.prog.follows .mixedOrders = true := by kernel_rfl
theorem below_grow (W : World) (n : Nat) (os : Array Obj) : Below W.heap.size W (grow (W.drewN n) os) :=
  ⟨rfl, rfl, rfl, by rw [size_grow]; exact Nat.le_add_right _ _, fun i hi => by show (W.heap ++ os)[i]? = _; rw [Array.getElem?_append_left hi]⟩
def cmpS (x y : ByteArray) : Int := if Op.bytesLess x.toList y.toList = true then -1 else if Op.bytesLess y.toList x.toList = true then 1 else 0
theorem cmpS_lt (x y : ByteArray) : decide (cmpS x y < 0) = Op.bytesLess x.toList y.toList := by
  unfold cmpS
  cases h : Op.bytesLess x.toList y.toList
  · rw [if_neg (by decide)]
    split <;> rfl
  · rfl
theorem cmpS_f (x y : ByteArray) : cmp_Compare_string.f x y = some (cmpS x y) := by
  unfold cmp_Compare_string.f cmpS cmp_isNaN_string.f
  simp only [bne_self_eq_false, Option.bind_some, Bool.false_eq_true, if_false]
  split
  · rfl
  · split <;> rfl
def cmpI (x y : Int) : Int := if x < y then -1 else if y < x then 1 else 0
theorem cmpI_lt (x y : Int) : decide (cmpI x y < 0) = decide (x < y) := by
  unfold cmpI
  by_cases h : x < y
  · rw [if_pos h, decide_eq_true h]; rfl
  · rw [if_neg h, decide_eq_false h]
    split <;> rfl
theorem cmpI_f (x y : Int) : cmp_Compare_int.f x y = some (cmpI x y) := by
  unfold cmp_Compare_int.f cmpI cmp_isNaN_int.f
  simp only [bne_self_eq_false, Option.bind_some, Bool.false_eq_true, if_false]
  split
  · rfl
  · split <;> rfl
def encF (x : S123) : List Value := [.string x.f0, .int .i64 x.f1.f0, .int .i64 x.f1.f1, .string x.f1.f2]
def flatF (ds : List S123) : List Value := ds.flatMap encF
def ltF (x y : S123) : Bool := Op.bytesLess x.f0.toList y.f0.toList
theorem flatF_len : ∀ ds : List S123, (flatF ds).length = ds.length * 4
  | [] => rfl
  | x :: ds => by
    have := flatF_len ds
    unfold flatF at this ⊢
    rw [List.flatMap_cons, List.length_append, this, List.length_cons]
    show 4 + _ = _
    omega
theorem flatF_get (z : S123) (c : Nat) (hc : c < 4) : ∀ (ds : List S123) (i : Nat), i < ds.length → (flatF ds)[i * 4 + c]? = (encF (ds.getD i z))[c]?
  | [], i, h => by simp at h
  | x :: ds, 0, _ => by
    unfold flatF
    rw [List.flatMap_cons, List.getElem?_append_left (by show 0 * 4 + c < 4; omega), Nat.zero_mul, Nat.zero_add]
    rfl
  | x :: ds, i + 1, h => by
    have ih := flatF_get z c hc ds i (by simpa using h)
    unfold flatF at ih ⊢
    rw [List.flatMap_cons, List.getElem?_append_right (by show 4 ≤ _; omega), show (i + 1) * 4 + c - (encF x).length = i * 4 + c by show _ - 4 = _; omega, ih]
    rfl
theorem flatF_set (y : S123) : ∀ (ds : List S123) (i : Nat), i < ds.length → (((((flatF ds).set (i * 4) (.string y.f0)).set (i * 4 + 1) (.int .i64 y.f1.f0)).set (i * 4 + 2) (.int .i64 y.f1.f1)).set (i * 4 + 3) (.string y.f1.f2)) = flatF (ds.set i y)
  | [], i, h => by simp at h
  | x :: ds, 0, _ => by
    unfold flatF
    rw [List.flatMap_cons, List.set_cons_zero, List.flatMap_cons]
    rfl
  | x :: ds, i + 1, h => by
    have ih := flatF_set y ds i (by simpa using h)
    unfold flatF at ih ⊢
    rw [List.flatMap_cons, List.set_cons_succ, List.flatMap_cons, ← ih]
    have e : ∀ c, (i + 1) * 4 + c = (i * 4 + c) + 4 := fun c => by omega
    have e' : (i + 1) * 4 = i * 4 + 4 := by omega
    simp only [e, e']
    simp only [encF, List.cons_append, List.nil_append, List.set_cons_succ]
def BlkF (g : Nat) (ds : List S123) (tail : List Value) (W : World) : Prop := W.heap[g]? = some (.cells (flatF ds ++ tail).toArray 123 (0, 0))
theorem BlkF.lt {g : Nat} {ds : List S123} {tail : List Value} {W : World} (h : BlkF g ds tail W) : g < W.heap.size := blk_lt (g := g) h
theorem BlkF.cell {g : Nat} {ds : List S123} {tail : List Value} {W : World} (h : BlkF g ds tail W) (z : S123) (i : Nat) (hi : i < ds.length) (c : Nat) (hc : c < 4) : W.cell? ⟨g, i * 4 + c, none⟩ = (encF (ds.getD i z))[c]? ∧ W.frozen? ⟨g, i * 4 + c, none⟩ = false := by
  refine ⟨(blk_cell h _).trans ?_, blk_frozen h _⟩
  rw [List.getElem?_toArray, List.getElem?_append_left (by rw [flatF_len]; omega)]
  exact flatF_get z c hc ds i hi
theorem BlkF.set {g : Nat} {ds : List S123} {tail : List Value} {W : World} (h : BlkF g ds tail W) (i : Nat) (hi : i < ds.length) (y : S123) : BlkF g (ds.set i y) tail ((((W.setCell ⟨g, i * 4, none⟩ (.string y.f0)).setCell ⟨g, i * 4 + 1, none⟩ (.int .i64 y.f1.f0)).setCell ⟨g, i * 4 + 2, none⟩ (.int .i64 y.f1.f1)).setCell ⟨g, i * 4 + 3, none⟩ (.string y.f1.f2)) := by
  have hl : i * 4 + 4 ≤ (flatF ds).length := by rw [flatF_len]; omega
  unfold BlkF
  rw [← flatF_set y ds i hi]
  refine ((blk_set (blk_set (blk_set (blk_set h _ _) _ _) _ _) _ _)).trans ?_
  simp only [List.setIfInBounds_toArray]
  rw [List.set_append_left _ _ (by (try simp only [List.length_set]); omega)]
  rw [List.set_append_left _ _ (by (try simp only [List.length_set]); omega)]
  rw [List.set_append_left _ _ (by (try simp only [List.length_set]); omega)]
  rw [List.set_append_left _ _ (by (try simp only [List.length_set]); omega)]
set_option maxHeartbeats 800000 in
set_option maxRecDepth 100000 in
theorem clF (x y : S123) (W : World) : Calls Tryz.prog 102 #[.agg #[.string x.f0, .int .i64 x.f1.f0, .int .i64 x.f1.f1, .string x.f1.f2], .agg #[.string y.f0, .int .i64 y.f1.f0, .int .i64 y.f1.f1, .string y.f1.f2]] W fun e w' => e = .returned (.int .i64 (cmpS x.f0 y.f0)) ∧ ∃ q os, w' = grow (W.drewN q) os := by
  have hu := Tryz.underlying123
  have hu2 := Tryz.underlying121
  have HC := Aside0.mk fun W => cmp_Compare_string.calls x.f0 y.f0 (cmpS x.f0 y.f0) W (cmpS_f x.f0 y.f0)
  generalize cmpS x.f0 y.f0 = r at HC ⊢
  go_enter Tryz.func102, Tryz.ntmps102
  go_wp2_with fail
  refine (HC.out _).mono ?_
  rintro e w1 ⟨rfl, ⟨nd, rfl⟩⟩
  go_wp2
  go_ret
  exact ⟨rfl, nd, _, by rw [alloc_eq_grow, alloc_eq_grow, grow_grow]; rfl⟩
theorem BlkF.drew {g : Nat} {ds : List S123} {tail : List Value} {W : World} (h : BlkF g ds tail W) : BlkF g ds tail W.drew := h
theorem swapF1 {g : Nat} {ds : List S123} {tail : List Value} {W : World} (h : BlkF g ds tail W) (j : Nat) (hj : j + 1 < ds.length) (x y : S123) : BlkF g ((ds.set (j + 1) y).set j x) tail ((((((((W.setCell ⟨g, (j + 1) * 4, none⟩ (.string y.f0)).setCell ⟨g, (j + 1) * 4 + 1, none⟩ (.int .i64 y.f1.f0)).setCell ⟨g, (j + 1) * 4 + 2, none⟩ (.int .i64 y.f1.f1)).setCell ⟨g, (j + 1) * 4 + 3, none⟩ (.string y.f1.f2)).setCell ⟨g, j * 4, none⟩ (.string x.f0)).setCell ⟨g, j * 4 + 1, none⟩ (.int .i64 x.f1.f0)).setCell ⟨g, j * 4 + 2, none⟩ (.int .i64 x.f1.f1)).setCell ⟨g, j * 4 + 3, none⟩ (.string x.f1.f2)).drew := ((h.set (j + 1) hj y).set j (by rw [List.length_set]; omega) x).drew
theorem swapF2 {g : Nat} {ds : List S123} {tail : List Value} {W : World} (h : BlkF g ds tail W) (j : Nat) (hj : j + 1 < ds.length) (x y : S123) : BlkF g ((ds.set (j + 1) y).set j x) tail ((((((((W.setCell ⟨g, j * 4, none⟩ (.string x.f0)).setCell ⟨g, j * 4 + 1, none⟩ (.int .i64 x.f1.f0)).setCell ⟨g, j * 4 + 2, none⟩ (.int .i64 x.f1.f1)).setCell ⟨g, j * 4 + 3, none⟩ (.string x.f1.f2)).setCell ⟨g, (j + 1) * 4, none⟩ (.string y.f0)).setCell ⟨g, (j + 1) * 4 + 1, none⟩ (.int .i64 y.f1.f0)).setCell ⟨g, (j + 1) * 4 + 2, none⟩ (.int .i64 y.f1.f1)).setCell ⟨g, (j + 1) * 4 + 3, none⟩ (.string y.f1.f2)).drew := by
  rw [List.set_comm _ _ (by omega)]
  exact ((h.set j (by omega) x).set (j + 1) (by rw [List.length_set]; omega) y).drew
set_option maxHeartbeats 6400000 in
set_option maxRecDepth 100000 in
theorem insF (g cap a b : Nat) (z : S123) (ds0 : List S123) (tail : List Value) (w0 w : World) (hb0 : BlkF g ds0 tail w) (HB0 : Below w0.heap.size w0 w) (hg : w0.heap.size ≤ g) (hab : a ≤ b) (hbl : b ≤ ds0.length) (hn : ds0.length ≤ 1099511627776) :
    Calls Tryz.prog 169 #[.slice (some ⟨g, 0, none⟩) ds0.length cap, .int .i64 (a : Int), .int .i64 (b : Int), .func (.func 102) #[] #[]] w fun e w' => e = .returned (.tuple #[]) ∧ BlkF g (insOut ltF z a (b - (a + 1)) (a + 1) ds0) tail w' ∧ Below w0.heap.size w0 w' ∧ KeepBut w w' g none := by
  have hu := Tryz.underlying123
  have hu2 := Tryz.underlying121
  have hmx := mixed
  have eg : ∀ args w, (callFunc 102 args).run Tryz.prog w = .ok (.enter 102 args) w := fun args w => by go_simp
  have HI : Aside0 (BlkF g ds0 tail w ∧ Below w0.heap.size w0 w ∧ KeepBut w w g none) := ⟨hb0, HB0, KeepBut.refl w g none⟩
  clear hb0 HB0
  go_enter Tryz.func169, Tryz.ntmps169
  go_wp2
  go_loopg [8, 9] (b - a) (fun kq v8 v9 wr => ∃ (i : Nat) (ds : List S123), v8 = .int .i64 (i : Int) ∧ a < i ∧ Aside0 (i ≤ b + 1 ∧ (b + 1 - i ≤ kq + 1)) ∧ ds.length = ds0.length ∧ Aside0 (insOut ltF z a (b - i) i ds = insOut ltF z a (b - (a + 1)) (a + 1) ds0) ∧ Aside0 (BlkF g ds tail wr ∧ Below w0.heap.size w0 wr ∧ KeepBut w wr g none))
  case atStart => exact ⟨a + 1, ds0, by go_num, by omega, ⟨by omega⟩, rfl, ⟨rfl⟩, HI⟩
  case round =>
    clear HI
    rename Nat => gk0
    obtain ⟨i, ds, rfl, hai, HK, hl, HO, HI⟩ := hrel
    by_cases hib : i < b
    · have HO2 : Aside0 (insOut ltF z a (b - (i + 1)) (i + 1) (insIn ltF z a i ds) = insOut ltF z a (b - (a + 1)) (a + 1) ds0) := ⟨by rw [← HO.out, show b - i = (b - (i + 1)) + 1 by omega, insOut]⟩
      clear HO
      go_wp2
      go_loopg [9] i (fun kj v9 wj => ∃ (j : Nat) (dj : List S123), v9 = .int .i64 (j : Int) ∧ a ≤ j ∧ j ≤ i ∧ Aside0 (j ≤ kj) ∧ dj.length = ds0.length ∧ Aside0 (insIn ltF z a j dj = insIn ltF z a i ds) ∧ Aside0 (BlkF g dj tail wj ∧ Below w0.heap.size w0 wj ∧ KeepBut w wj g none))
      case atStart => exact ⟨i, ds, rfl, by omega, Nat.le_refl _, ⟨Nat.le_refl _⟩, hl, ⟨rfl⟩, HI⟩
      case round =>
        clear HI
        rename World => wj
        obtain ⟨j, dj, rfl, haj, hji, HKj, hlj, HOj, HI⟩ := hrel
        by_cases hja : a < j
        · obtain ⟨jp, rfl⟩ : ∃ m, j = m + 1 := ⟨j - 1, by omega⟩
          have HOj2 : Aside0 (insIn ltF z a i ds = if ltF (dj.getD (jp + 1) z) (dj.getD jp z) = true then insIn ltF z a jp ((dj.set (jp + 1) (dj.getD jp z)).set jp (dj.getD (jp + 1) z)) else dj) := ⟨by rw [← HOj.out, insIn]; simp only [show a ≤ jp by omega, true_and]⟩
          clear HOj
          have HXY : Aside0 (∃ x y, x = dj.getD (jp + 1) z ∧ y = dj.getD jp z) := ⟨⟨_, _, rfl, rfl⟩⟩
          obtain ⟨x, y, hx, hy⟩ := HXY.out
          have HX := Aside0.mk hx
          have HY := Aside0.mk hy
          rw [← hx, ← hy] at HOj2
          have x0 : ∀ n os, (grow (wj.drewN n) os).cell? ⟨g, (jp + 1) * 4, none⟩ = some (.string x.f0) := fun n os => cell_grown HI.out.1.lt ((HI.out.1.cell z (jp + 1) (by omega) 0 (by decide)).1.trans (by rw [← hx]; rfl)) n os
          have x1 : ∀ n os, (grow (wj.drewN n) os).cell? ⟨g, (jp + 1) * 4 + 1, none⟩ = some (.int .i64 x.f1.f0) := fun n os => cell_grown HI.out.1.lt ((HI.out.1.cell z (jp + 1) (by omega) 1 (by decide)).1.trans (by rw [← hx]; rfl)) n os
          have x2 : ∀ n os, (grow (wj.drewN n) os).cell? ⟨g, (jp + 1) * 4 + 2, none⟩ = some (.int .i64 x.f1.f1) := fun n os => cell_grown HI.out.1.lt ((HI.out.1.cell z (jp + 1) (by omega) 2 (by decide)).1.trans (by rw [← hx]; rfl)) n os
          have x3 : ∀ n os, (grow (wj.drewN n) os).cell? ⟨g, (jp + 1) * 4 + 3, none⟩ = some (.string x.f1.f2) := fun n os => cell_grown HI.out.1.lt ((HI.out.1.cell z (jp + 1) (by omega) 3 (by decide)).1.trans (by rw [← hx]; rfl)) n os
          have y0 : ∀ n os, (grow (wj.drewN n) os).cell? ⟨g, (jp) * 4, none⟩ = some (.string y.f0) := fun n os => cell_grown HI.out.1.lt ((HI.out.1.cell z (jp) (by omega) 0 (by decide)).1.trans (by rw [← hy]; rfl)) n os
          have y1 : ∀ n os, (grow (wj.drewN n) os).cell? ⟨g, (jp) * 4 + 1, none⟩ = some (.int .i64 y.f1.f0) := fun n os => cell_grown HI.out.1.lt ((HI.out.1.cell z (jp) (by omega) 1 (by decide)).1.trans (by rw [← hy]; rfl)) n os
          have y2 : ∀ n os, (grow (wj.drewN n) os).cell? ⟨g, (jp) * 4 + 2, none⟩ = some (.int .i64 y.f1.f1) := fun n os => cell_grown HI.out.1.lt ((HI.out.1.cell z (jp) (by omega) 2 (by decide)).1.trans (by rw [← hy]; rfl)) n os
          have y3 : ∀ n os, (grow (wj.drewN n) os).cell? ⟨g, (jp) * 4 + 3, none⟩ = some (.string y.f1.f2) := fun n os => cell_grown HI.out.1.lt ((HI.out.1.cell z (jp) (by omega) 3 (by decide)).1.trans (by rw [← hy]; rfl)) n os
          have hcg := fun (n : Nat) (os : Array Obj) => clF x y (grow (wj.drewN n) os)
          have hlt : decide (cmpS x.f0 y.f0 < 0) = ltF x y := cmpS_lt _ _
          generalize cmpS x.f0 y.f0 = r at hcg hlt
          have hwp : IntKind.i64.wrap (jp : Int) = (jp : Int) := by rw [IntKind.wrap_i64]; omega
          have jd : decide ((a : Int) < (jp : Int) + 1) = true := decide_eq_true (by omega)
          have jz : (jp : Int) + 1 < (ds0.length : Int) := by omega
          have jz1 : (jp : Int) < (ds0.length : Int) := by omega
          have p0 : (0 : Int) ≤ (jp : Int) + 1 := by omega
          have e0 : ((jp : Int) + 1).toNat = jp + 1 := by omega
          clear HXY hx hy
          rw [← hlt] at HOj2
          clear hlt
          by_cases hr : r < 0
          · have hd : decide (r < 0) = true := decide_eq_true hr
            have HE : Aside0 (insIn ltF z a i ds = insIn ltF z a jp ((dj.set (jp + 1) y).set jp x)) := ⟨by rw [HOj2.out, if_pos hd]⟩
            clear HOj2
            go_wp2_with fail
            go_quiet_grown (first | (go_at_fn 102; refine Calls.grown_of (hcg _ _)))
            go_wp2_with fail
            have HI2 : Aside0 (BlkF g dj tail (grow (wj.drewN nq) osq) ∧ Below w0.heap.size w0 (grow (wj.drewN nq) osq) ∧ KeepBut w (grow (wj.drewN nq) osq) g none) := ⟨blk_below (g := g) HI.out.1 (below_grow wj nq osq), below_step HI.out.2.1 (below_grow wj nq osq), keep_below' HI.out.2.2 (below_grow wj nq osq)⟩
            clear x0 x1 x2 x3 y0 y1 y2 y3 HI hcg
            generalize grow (wj.drewN nq) osq = W2 at HI2 ⊢
            have x0 : W2.cell? ⟨g, (jp + 1) * 4, none⟩ = some (.string x.f0) := (HI2.out.1.cell z (jp + 1) (by omega) 0 (by decide)).1.trans (by rw [← HX.out]; rfl)
            have xf0 : W2.frozen? ⟨g, (jp + 1) * 4, none⟩ = false := (HI2.out.1.cell z (jp + 1) (by omega) 0 (by decide)).2
            have x1 : W2.cell? ⟨g, (jp + 1) * 4 + 1, none⟩ = some (.int .i64 x.f1.f0) := (HI2.out.1.cell z (jp + 1) (by omega) 1 (by decide)).1.trans (by rw [← HX.out]; rfl)
            have xf1 : W2.frozen? ⟨g, (jp + 1) * 4 + 1, none⟩ = false := (HI2.out.1.cell z (jp + 1) (by omega) 1 (by decide)).2
            have x2 : W2.cell? ⟨g, (jp + 1) * 4 + 2, none⟩ = some (.int .i64 x.f1.f1) := (HI2.out.1.cell z (jp + 1) (by omega) 2 (by decide)).1.trans (by rw [← HX.out]; rfl)
            have xf2 : W2.frozen? ⟨g, (jp + 1) * 4 + 2, none⟩ = false := (HI2.out.1.cell z (jp + 1) (by omega) 2 (by decide)).2
            have x3 : W2.cell? ⟨g, (jp + 1) * 4 + 3, none⟩ = some (.string x.f1.f2) := (HI2.out.1.cell z (jp + 1) (by omega) 3 (by decide)).1.trans (by rw [← HX.out]; rfl)
            have xf3 : W2.frozen? ⟨g, (jp + 1) * 4 + 3, none⟩ = false := (HI2.out.1.cell z (jp + 1) (by omega) 3 (by decide)).2
            have y0 : W2.cell? ⟨g, (jp) * 4, none⟩ = some (.string y.f0) := (HI2.out.1.cell z (jp) (by omega) 0 (by decide)).1.trans (by rw [← HY.out]; rfl)
            have yf0 : W2.frozen? ⟨g, (jp) * 4, none⟩ = false := (HI2.out.1.cell z (jp) (by omega) 0 (by decide)).2
            have y1 : W2.cell? ⟨g, (jp) * 4 + 1, none⟩ = some (.int .i64 y.f1.f0) := (HI2.out.1.cell z (jp) (by omega) 1 (by decide)).1.trans (by rw [← HY.out]; rfl)
            have yf1 : W2.frozen? ⟨g, (jp) * 4 + 1, none⟩ = false := (HI2.out.1.cell z (jp) (by omega) 1 (by decide)).2
            have y2 : W2.cell? ⟨g, (jp) * 4 + 2, none⟩ = some (.int .i64 y.f1.f1) := (HI2.out.1.cell z (jp) (by omega) 2 (by decide)).1.trans (by rw [← HY.out]; rfl)
            have yf2 : W2.frozen? ⟨g, (jp) * 4 + 2, none⟩ = false := (HI2.out.1.cell z (jp) (by omega) 2 (by decide)).2
            have y3 : W2.cell? ⟨g, (jp) * 4 + 3, none⟩ = some (.string y.f1.f2) := (HI2.out.1.cell z (jp) (by omega) 3 (by decide)).1.trans (by rw [← HY.out]; rfl)
            have yf3 : W2.frozen? ⟨g, (jp) * 4 + 3, none⟩ = false := (HI2.out.1.cell z (jp) (by omega) 3 (by decide)).2
            go_region
            all_goals
              have HI3 : Aside0 (∀ W3, (W3 = ((((((((W2.setCell ⟨g, (jp + 1) * 4, none⟩ (.string y.f0)).setCell ⟨g, (jp + 1) * 4 + 1, none⟩ (.int .i64 y.f1.f0)).setCell ⟨g, (jp + 1) * 4 + 2, none⟩ (.int .i64 y.f1.f1)).setCell ⟨g, (jp + 1) * 4 + 3, none⟩ (.string y.f1.f2)).setCell ⟨g, jp * 4, none⟩ (.string x.f0)).setCell ⟨g, jp * 4 + 1, none⟩ (.int .i64 x.f1.f0)).setCell ⟨g, jp * 4 + 2, none⟩ (.int .i64 x.f1.f1)).setCell ⟨g, jp * 4 + 3, none⟩ (.string x.f1.f2)).drew ∨ W3 = ((((((((W2.setCell ⟨g, jp * 4, none⟩ (.string x.f0)).setCell ⟨g, jp * 4 + 1, none⟩ (.int .i64 x.f1.f0)).setCell ⟨g, jp * 4 + 2, none⟩ (.int .i64 x.f1.f1)).setCell ⟨g, jp * 4 + 3, none⟩ (.string x.f1.f2)).setCell ⟨g, (jp + 1) * 4, none⟩ (.string y.f0)).setCell ⟨g, (jp + 1) * 4 + 1, none⟩ (.int .i64 y.f1.f0)).setCell ⟨g, (jp + 1) * 4 + 2, none⟩ (.int .i64 y.f1.f1)).setCell ⟨g, (jp + 1) * 4 + 3, none⟩ (.string y.f1.f2)).drew) → BlkF g ((dj.set (jp + 1) y).set jp x) tail W3 ∧ Below w0.heap.size w0 W3 ∧ KeepBut w W3 g none) := ⟨by
                rintro W3 (rfl | rfl)
                · exact ⟨swapF1 HI2.out.1 jp (by omega) x y, by with_reducible repeat (first | exact HI2.out.2.1 | apply below_drew | refine below_set ?_ hg), by with_reducible repeat (first | exact HI2.out.2.2 | apply keep_drew | apply KeepBut.set_)⟩
                · exact ⟨swapF2 HI2.out.1 jp (by omega) x y, by with_reducible repeat (first | exact HI2.out.2.1 | apply below_drew | refine below_set ?_ hg), by with_reducible repeat (first | exact HI2.out.2.2 | apply keep_drew | apply KeepBut.set_)⟩⟩
              first | (generalize hW : ((((((((W2.setCell ⟨g, (jp + 1) * 4, none⟩ (.string y.f0)).setCell ⟨g, (jp + 1) * 4 + 1, none⟩ (.int .i64 y.f1.f0)).setCell ⟨g, (jp + 1) * 4 + 2, none⟩ (.int .i64 y.f1.f1)).setCell ⟨g, (jp + 1) * 4 + 3, none⟩ (.string y.f1.f2)).setCell ⟨g, jp * 4, none⟩ (.string x.f0)).setCell ⟨g, jp * 4 + 1, none⟩ (.int .i64 x.f1.f0)).setCell ⟨g, jp * 4 + 2, none⟩ (.int .i64 x.f1.f1)).setCell ⟨g, jp * 4 + 3, none⟩ (.string x.f1.f2)).drew = W3; have HI4 := Aside0.mk (HI3.out W3 (.inl hW.symm))) | (generalize hW : ((((((((W2.setCell ⟨g, jp * 4, none⟩ (.string x.f0)).setCell ⟨g, jp * 4 + 1, none⟩ (.int .i64 x.f1.f0)).setCell ⟨g, jp * 4 + 2, none⟩ (.int .i64 x.f1.f1)).setCell ⟨g, jp * 4 + 3, none⟩ (.string x.f1.f2)).setCell ⟨g, (jp + 1) * 4, none⟩ (.string y.f0)).setCell ⟨g, (jp + 1) * 4 + 1, none⟩ (.int .i64 y.f1.f0)).setCell ⟨g, (jp + 1) * 4 + 2, none⟩ (.int .i64 y.f1.f1)).setCell ⟨g, (jp + 1) * 4 + 3, none⟩ (.string y.f1.f2)).drew = W3; have HI4 := Aside0.mk (HI3.out W3 (.inr hW.symm)))
              clear HI3 HI2 hW
              go_wp2
              obtain ⟨kk, rfl⟩ : ∃ kk, gk = kk + 1 := ⟨gk - 1, by have := HKj.out; omega⟩
              go_roundg kk
              case measure => omega
              case rel => exact ⟨jp, (dj.set (jp + 1) y).set jp x, by go_num, by omega, by omega, ⟨by have := HKj.out; omega⟩, by rw [List.length_set, List.length_set]; exact hlj, ⟨HE.out.symm⟩, HI4⟩
          · have hd : decide (r < 0) = false := decide_eq_false hr
            have HE : Aside0 (insIn ltF z a i ds = dj) := ⟨by rw [HOj2.out, if_neg (by rw [hd]; decide)]⟩
            clear HOj2
            go_wp2_with fail
            go_quiet_grown (first | (go_at_fn 102; refine Calls.grown_of (hcg _ _)))
            have HI2 : Aside0 (BlkF g dj tail (grow (wj.drewN nq) osq) ∧ Below w0.heap.size w0 (grow (wj.drewN nq) osq) ∧ KeepBut w (grow (wj.drewN nq) osq) g none) := ⟨blk_below (g := g) HI.out.1 (below_grow wj nq osq), below_step HI.out.2.1 (below_grow wj nq osq), keep_below' HI.out.2.2 (below_grow wj nq osq)⟩
            generalize grow (wj.drewN nq) osq = W2 at HI2 ⊢
            have HO3 : Aside0 (insOut ltF z a (b - (i + 1)) (i + 1) dj = insOut ltF z a (b - (a + 1)) (a + 1) ds0) := ⟨by rw [← HO2.out, HE.out]⟩
            clear HO2 HE HI
            go_wp2
            obtain ⟨kk, rfl⟩ : ∃ kk, gk0 = kk + 1 := ⟨gk0 - 1, by have := HK.out; omega⟩
            go_roundg kk
            case measure => omega
            case rel => exact ⟨i + 1, dj, by go_num, by omega, ⟨by have := HK.out; omega⟩, hlj, HO3, HI2⟩
        · have HE : Aside0 (insIn ltF z a i ds = dj) := ⟨by
            rw [← HOj.out]
            cases j with
            | zero => rfl
            | succ j => rw [insIn, if_neg (by omega)]⟩
          obtain rfl : a = j := by omega
          have jd : decide ((a : Int) < (a : Int)) = false := decide_eq_false (by omega)
          clear HOj hja
          go_wp2_with fail
          go_region
          all_goals
            have HI2 : Aside0 (BlkF g dj tail wj.drew ∧ Below w0.heap.size w0 wj.drew ∧ KeepBut w wj.drew g none) := ⟨HI.out.1, below_drew HI.out.2.1, keep_drew HI.out.2.2⟩
            generalize wj.drew = W2 at HI2 ⊢
            have HO3 : Aside0 (insOut ltF z a (b - (i + 1)) (i + 1) dj = insOut ltF z a (b - (a + 1)) (a + 1) ds0) := ⟨by rw [← HO2.out, HE.out]⟩
            clear HO2 HE HI
            go_wp2
            obtain ⟨kk, rfl⟩ : ∃ kk, gk0 = kk + 1 := ⟨gk0 - 1, by have := HK.out; omega⟩
            go_roundg kk
            case measure => omega
            case rel => exact ⟨i + 1, dj, by go_num, by omega, ⟨by have := HK.out; omega⟩, hlj, HO3, HI2⟩
    · have HE : Aside0 (ds = insOut ltF z a (b - (a + 1)) (a + 1) ds0) := ⟨by rw [← HO.out, show b - i = 0 by omega]; rfl⟩
      clear HO
      go_wp2
      go_end0
      exact ⟨rfl, by rw [← HE.out]; exact HI.out.1, HI.out.2.1, HI.out.2.2⟩
structure EvC where
  f0 : ByteArray
  f1 : ByteArray
  f2 : ByteArray
  f3 : Int
  f4 : Int
  A : Option Addr
  n : Nat
  c : Nat
def encE (x : EvC) : List Value := [.string x.f0, .string x.f1, .string x.f2, .int .i64 x.f3, .int .i64 x.f4, .slice x.A x.n x.c]
def flatE (ds : List EvC) : List Value := ds.flatMap encE
def ltE (x y : EvC) : Bool := decide (x.f4 < y.f4)
theorem flatE_len : ∀ ds : List EvC, (flatE ds).length = ds.length * 6
  | [] => rfl
  | x :: ds => by
    have := flatE_len ds
    unfold flatE at this ⊢
    rw [List.flatMap_cons, List.length_append, this, List.length_cons]
    show 6 + _ = _
    omega
theorem flatE_get (z : EvC) (c : Nat) (hc : c < 6) : ∀ (ds : List EvC) (i : Nat), i < ds.length → (flatE ds)[i * 6 + c]? = (encE (ds.getD i z))[c]?
  | [], i, h => by simp at h
  | x :: ds, 0, _ => by
    unfold flatE
    rw [List.flatMap_cons, List.getElem?_append_left (by show 0 * 6 + c < 6; omega), Nat.zero_mul, Nat.zero_add]
    rfl
  | x :: ds, i + 1, h => by
    have ih := flatE_get z c hc ds i (by simpa using h)
    unfold flatE at ih ⊢
    rw [List.flatMap_cons, List.getElem?_append_right (by show 6 ≤ _; omega), show (i + 1) * 6 + c - (encE x).length = i * 6 + c by show _ - 6 = _; omega, ih]
    rfl
theorem flatE_set (y : EvC) : ∀ (ds : List EvC) (i : Nat), i < ds.length → (((((((flatE ds).set (i * 6) (.string y.f0)).set (i * 6 + 1) (.string y.f1)).set (i * 6 + 2) (.string y.f2)).set (i * 6 + 3) (.int .i64 y.f3)).set (i * 6 + 4) (.int .i64 y.f4)).set (i * 6 + 5) (.slice y.A y.n y.c)) = flatE (ds.set i y)
  | [], i, h => by simp at h
  | x :: ds, 0, _ => by
    unfold flatE
    rw [List.flatMap_cons, List.set_cons_zero, List.flatMap_cons]
    rfl
  | x :: ds, i + 1, h => by
    have ih := flatE_set y ds i (by simpa using h)
    unfold flatE at ih ⊢
    rw [List.flatMap_cons, List.set_cons_succ, List.flatMap_cons, ← ih]
    have e : ∀ c, (i + 1) * 6 + c = (i * 6 + c) + 6 := fun c => by omega
    have e' : (i + 1) * 6 = i * 6 + 6 := by omega
    simp only [e, e']
    simp only [encE, List.cons_append, List.nil_append, List.set_cons_succ]
def BlkE (g : Nat) (ds : List EvC) (tail : List Value) (W : World) : Prop := W.heap[g]? = some (.cells (flatE ds ++ tail).toArray 69 (0, 0))
theorem BlkE.lt {g : Nat} {ds : List EvC} {tail : List Value} {W : World} (h : BlkE g ds tail W) : g < W.heap.size := blk_lt (g := g) h
theorem BlkE.cell {g : Nat} {ds : List EvC} {tail : List Value} {W : World} (h : BlkE g ds tail W) (z : EvC) (i : Nat) (hi : i < ds.length) (c : Nat) (hc : c < 6) : W.cell? ⟨g, i * 6 + c, none⟩ = (encE (ds.getD i z))[c]? ∧ W.frozen? ⟨g, i * 6 + c, none⟩ = false := by
  refine ⟨(blk_cell h _).trans ?_, blk_frozen h _⟩
  rw [List.getElem?_toArray, List.getElem?_append_left (by rw [flatE_len]; omega)]
  exact flatE_get z c hc ds i hi
theorem BlkE.set {g : Nat} {ds : List EvC} {tail : List Value} {W : World} (h : BlkE g ds tail W) (i : Nat) (hi : i < ds.length) (y : EvC) : BlkE g (ds.set i y) tail ((((((W.setCell ⟨g, i * 6, none⟩ (.string y.f0)).setCell ⟨g, i * 6 + 1, none⟩ (.string y.f1)).setCell ⟨g, i * 6 + 2, none⟩ (.string y.f2)).setCell ⟨g, i * 6 + 3, none⟩ (.int .i64 y.f3)).setCell ⟨g, i * 6 + 4, none⟩ (.int .i64 y.f4)).setCell ⟨g, i * 6 + 5, none⟩ (.slice y.A y.n y.c)) := by
  have hl : i * 6 + 6 ≤ (flatE ds).length := by rw [flatE_len]; omega
  unfold BlkE
  rw [← flatE_set y ds i hi]
  refine ((blk_set (blk_set (blk_set (blk_set (blk_set (blk_set h _ _) _ _) _ _) _ _) _ _) _ _)).trans ?_
  simp only [List.setIfInBounds_toArray]
  rw [List.set_append_left _ _ (by (try simp only [List.length_set]); omega)]
  rw [List.set_append_left _ _ (by (try simp only [List.length_set]); omega)]
  rw [List.set_append_left _ _ (by (try simp only [List.length_set]); omega)]
  rw [List.set_append_left _ _ (by (try simp only [List.length_set]); omega)]
  rw [List.set_append_left _ _ (by (try simp only [List.length_set]); omega)]
  rw [List.set_append_left _ _ (by (try simp only [List.length_set]); omega)]
set_option maxHeartbeats 800000 in
set_option maxRecDepth 100000 in
theorem clE (x y : EvC) (W : World) : Calls Tryz.prog 56 #[.agg #[.string x.f0, .string x.f1, .string x.f2, .int .i64 x.f3, .int .i64 x.f4, .slice x.A x.n x.c], .agg #[.string y.f0, .string y.f1, .string y.f2, .int .i64 y.f3, .int .i64 y.f4, .slice y.A y.n y.c]] W fun e w' => e = .returned (.int .i64 (cmpI x.f4 y.f4)) ∧ ∃ q os, w' = grow (W.drewN q) os := by
  have hu := Tryz.underlying69
  have HC := Aside0.mk fun W => cmp_Compare_int.calls x.f4 y.f4 (cmpI x.f4 y.f4) W (cmpI_f x.f4 y.f4)
  generalize cmpI x.f4 y.f4 = r at HC ⊢
  go_enter Tryz.func56, Tryz.ntmps56
  go_wp2_with fail
  refine (HC.out _).mono ?_
  rintro e w1 ⟨rfl, ⟨nd, rfl⟩⟩
  go_wp2
  go_ret
  exact ⟨rfl, nd, _, by rw [alloc_eq_grow, alloc_eq_grow, grow_grow]; rfl⟩
theorem BlkE.drew {g : Nat} {ds : List EvC} {tail : List Value} {W : World} (h : BlkE g ds tail W) : BlkE g ds tail W.drew := h
theorem swapE1 {g : Nat} {ds : List EvC} {tail : List Value} {W : World} (h : BlkE g ds tail W) (j : Nat) (hj : j + 1 < ds.length) (x y : EvC) : BlkE g ((ds.set (j + 1) y).set j x) tail ((((((((((((W.setCell ⟨g, (j + 1) * 6, none⟩ (.string y.f0)).setCell ⟨g, (j + 1) * 6 + 1, none⟩ (.string y.f1)).setCell ⟨g, (j + 1) * 6 + 2, none⟩ (.string y.f2)).setCell ⟨g, (j + 1) * 6 + 3, none⟩ (.int .i64 y.f3)).setCell ⟨g, (j + 1) * 6 + 4, none⟩ (.int .i64 y.f4)).setCell ⟨g, (j + 1) * 6 + 5, none⟩ (.slice y.A y.n y.c)).setCell ⟨g, j * 6, none⟩ (.string x.f0)).setCell ⟨g, j * 6 + 1, none⟩ (.string x.f1)).setCell ⟨g, j * 6 + 2, none⟩ (.string x.f2)).setCell ⟨g, j * 6 + 3, none⟩ (.int .i64 x.f3)).setCell ⟨g, j * 6 + 4, none⟩ (.int .i64 x.f4)).setCell ⟨g, j * 6 + 5, none⟩ (.slice x.A x.n x.c)).drew := ((h.set (j + 1) hj y).set j (by rw [List.length_set]; omega) x).drew
theorem swapE2 {g : Nat} {ds : List EvC} {tail : List Value} {W : World} (h : BlkE g ds tail W) (j : Nat) (hj : j + 1 < ds.length) (x y : EvC) : BlkE g ((ds.set (j + 1) y).set j x) tail ((((((((((((W.setCell ⟨g, j * 6, none⟩ (.string x.f0)).setCell ⟨g, j * 6 + 1, none⟩ (.string x.f1)).setCell ⟨g, j * 6 + 2, none⟩ (.string x.f2)).setCell ⟨g, j * 6 + 3, none⟩ (.int .i64 x.f3)).setCell ⟨g, j * 6 + 4, none⟩ (.int .i64 x.f4)).setCell ⟨g, j * 6 + 5, none⟩ (.slice x.A x.n x.c)).setCell ⟨g, (j + 1) * 6, none⟩ (.string y.f0)).setCell ⟨g, (j + 1) * 6 + 1, none⟩ (.string y.f1)).setCell ⟨g, (j + 1) * 6 + 2, none⟩ (.string y.f2)).setCell ⟨g, (j + 1) * 6 + 3, none⟩ (.int .i64 y.f3)).setCell ⟨g, (j + 1) * 6 + 4, none⟩ (.int .i64 y.f4)).setCell ⟨g, (j + 1) * 6 + 5, none⟩ (.slice y.A y.n y.c)).drew := by
  rw [List.set_comm _ _ (by omega)]
  exact ((h.set j (by omega) x).set (j + 1) (by rw [List.length_set]; omega) y).drew
set_option maxHeartbeats 6400000 in
set_option maxRecDepth 100000 in
theorem insE (g cap a b : Nat) (z : EvC) (ds0 : List EvC) (tail : List Value) (w0 w : World) (hb0 : BlkE g ds0 tail w) (HB0 : Below w0.heap.size w0 w) (hg : w0.heap.size ≤ g) (hab : a ≤ b) (hbl : b ≤ ds0.length) (hn : ds0.length ≤ 1099511627776) :
    Calls Tryz.prog 148 #[.slice (some ⟨g, 0, none⟩) ds0.length cap, .int .i64 (a : Int), .int .i64 (b : Int), .func (.func 56) #[] #[]] w fun e w' => e = .returned (.tuple #[]) ∧ BlkE g (insOut ltE z a (b - (a + 1)) (a + 1) ds0) tail w' ∧ Below w0.heap.size w0 w' ∧ KeepBut w w' g none := by
  have hu := Tryz.underlying69
  have hmx := mixed
  have eg : ∀ args w, (callFunc 56 args).run Tryz.prog w = .ok (.enter 56 args) w := fun args w => by go_simp
  have HI : Aside0 (BlkE g ds0 tail w ∧ Below w0.heap.size w0 w ∧ KeepBut w w g none) := ⟨hb0, HB0, KeepBut.refl w g none⟩
  clear hb0 HB0
  go_enter Tryz.func148, Tryz.ntmps148
  go_wp2
  go_loopg [8, 9] (b - a) (fun kq v8 v9 wr => ∃ (i : Nat) (ds : List EvC), v8 = .int .i64 (i : Int) ∧ a < i ∧ Aside0 (i ≤ b + 1 ∧ (b + 1 - i ≤ kq + 1)) ∧ ds.length = ds0.length ∧ Aside0 (insOut ltE z a (b - i) i ds = insOut ltE z a (b - (a + 1)) (a + 1) ds0) ∧ Aside0 (BlkE g ds tail wr ∧ Below w0.heap.size w0 wr ∧ KeepBut w wr g none))
  case atStart => exact ⟨a + 1, ds0, by go_num, by omega, ⟨by omega⟩, rfl, ⟨rfl⟩, HI⟩
  case round =>
    clear HI
    rename Nat => gk0
    obtain ⟨i, ds, rfl, hai, HK, hl, HO, HI⟩ := hrel
    by_cases hib : i < b
    · have HO2 : Aside0 (insOut ltE z a (b - (i + 1)) (i + 1) (insIn ltE z a i ds) = insOut ltE z a (b - (a + 1)) (a + 1) ds0) := ⟨by rw [← HO.out, show b - i = (b - (i + 1)) + 1 by omega, insOut]⟩
      clear HO
      go_wp2
      go_loopg [9] i (fun kj v9 wj => ∃ (j : Nat) (dj : List EvC), v9 = .int .i64 (j : Int) ∧ a ≤ j ∧ j ≤ i ∧ Aside0 (j ≤ kj) ∧ dj.length = ds0.length ∧ Aside0 (insIn ltE z a j dj = insIn ltE z a i ds) ∧ Aside0 (BlkE g dj tail wj ∧ Below w0.heap.size w0 wj ∧ KeepBut w wj g none))
      case atStart => exact ⟨i, ds, rfl, by omega, Nat.le_refl _, ⟨Nat.le_refl _⟩, hl, ⟨rfl⟩, HI⟩
      case round =>
        clear HI
        rename World => wj
        obtain ⟨j, dj, rfl, haj, hji, HKj, hlj, HOj, HI⟩ := hrel
        by_cases hja : a < j
        · obtain ⟨jp, rfl⟩ : ∃ m, j = m + 1 := ⟨j - 1, by omega⟩
          have HOj2 : Aside0 (insIn ltE z a i ds = if ltE (dj.getD (jp + 1) z) (dj.getD jp z) = true then insIn ltE z a jp ((dj.set (jp + 1) (dj.getD jp z)).set jp (dj.getD (jp + 1) z)) else dj) := ⟨by rw [← HOj.out, insIn]; simp only [show a ≤ jp by omega, true_and]⟩
          clear HOj
          have HXY : Aside0 (∃ x y, x = dj.getD (jp + 1) z ∧ y = dj.getD jp z) := ⟨⟨_, _, rfl, rfl⟩⟩
          obtain ⟨x, y, hx, hy⟩ := HXY.out
          have HX := Aside0.mk hx
          have HY := Aside0.mk hy
          rw [← hx, ← hy] at HOj2
          have x0 : ∀ n os, (grow (wj.drewN n) os).cell? ⟨g, (jp + 1) * 6, none⟩ = some (.string x.f0) := fun n os => cell_grown HI.out.1.lt ((HI.out.1.cell z (jp + 1) (by omega) 0 (by decide)).1.trans (by rw [← hx]; rfl)) n os
          have x1 : ∀ n os, (grow (wj.drewN n) os).cell? ⟨g, (jp + 1) * 6 + 1, none⟩ = some (.string x.f1) := fun n os => cell_grown HI.out.1.lt ((HI.out.1.cell z (jp + 1) (by omega) 1 (by decide)).1.trans (by rw [← hx]; rfl)) n os
          have x2 : ∀ n os, (grow (wj.drewN n) os).cell? ⟨g, (jp + 1) * 6 + 2, none⟩ = some (.string x.f2) := fun n os => cell_grown HI.out.1.lt ((HI.out.1.cell z (jp + 1) (by omega) 2 (by decide)).1.trans (by rw [← hx]; rfl)) n os
          have x3 : ∀ n os, (grow (wj.drewN n) os).cell? ⟨g, (jp + 1) * 6 + 3, none⟩ = some (.int .i64 x.f3) := fun n os => cell_grown HI.out.1.lt ((HI.out.1.cell z (jp + 1) (by omega) 3 (by decide)).1.trans (by rw [← hx]; rfl)) n os
          have x4 : ∀ n os, (grow (wj.drewN n) os).cell? ⟨g, (jp + 1) * 6 + 4, none⟩ = some (.int .i64 x.f4) := fun n os => cell_grown HI.out.1.lt ((HI.out.1.cell z (jp + 1) (by omega) 4 (by decide)).1.trans (by rw [← hx]; rfl)) n os
          have x5 : ∀ n os, (grow (wj.drewN n) os).cell? ⟨g, (jp + 1) * 6 + 5, none⟩ = some (.slice x.A x.n x.c) := fun n os => cell_grown HI.out.1.lt ((HI.out.1.cell z (jp + 1) (by omega) 5 (by decide)).1.trans (by rw [← hx]; rfl)) n os
          have y0 : ∀ n os, (grow (wj.drewN n) os).cell? ⟨g, (jp) * 6, none⟩ = some (.string y.f0) := fun n os => cell_grown HI.out.1.lt ((HI.out.1.cell z (jp) (by omega) 0 (by decide)).1.trans (by rw [← hy]; rfl)) n os
          have y1 : ∀ n os, (grow (wj.drewN n) os).cell? ⟨g, (jp) * 6 + 1, none⟩ = some (.string y.f1) := fun n os => cell_grown HI.out.1.lt ((HI.out.1.cell z (jp) (by omega) 1 (by decide)).1.trans (by rw [← hy]; rfl)) n os
          have y2 : ∀ n os, (grow (wj.drewN n) os).cell? ⟨g, (jp) * 6 + 2, none⟩ = some (.string y.f2) := fun n os => cell_grown HI.out.1.lt ((HI.out.1.cell z (jp) (by omega) 2 (by decide)).1.trans (by rw [← hy]; rfl)) n os
          have y3 : ∀ n os, (grow (wj.drewN n) os).cell? ⟨g, (jp) * 6 + 3, none⟩ = some (.int .i64 y.f3) := fun n os => cell_grown HI.out.1.lt ((HI.out.1.cell z (jp) (by omega) 3 (by decide)).1.trans (by rw [← hy]; rfl)) n os
          have y4 : ∀ n os, (grow (wj.drewN n) os).cell? ⟨g, (jp) * 6 + 4, none⟩ = some (.int .i64 y.f4) := fun n os => cell_grown HI.out.1.lt ((HI.out.1.cell z (jp) (by omega) 4 (by decide)).1.trans (by rw [← hy]; rfl)) n os
          have y5 : ∀ n os, (grow (wj.drewN n) os).cell? ⟨g, (jp) * 6 + 5, none⟩ = some (.slice y.A y.n y.c) := fun n os => cell_grown HI.out.1.lt ((HI.out.1.cell z (jp) (by omega) 5 (by decide)).1.trans (by rw [← hy]; rfl)) n os
          have hcg := fun (n : Nat) (os : Array Obj) => clE x y (grow (wj.drewN n) os)
          have hlt : decide (cmpI x.f4 y.f4 < 0) = ltE x y := cmpI_lt _ _
          generalize cmpI x.f4 y.f4 = r at hcg hlt
          have hwp : IntKind.i64.wrap (jp : Int) = (jp : Int) := by rw [IntKind.wrap_i64]; omega
          have jd : decide ((a : Int) < (jp : Int) + 1) = true := decide_eq_true (by omega)
          have jz : (jp : Int) + 1 < (ds0.length : Int) := by omega
          have jz1 : (jp : Int) < (ds0.length : Int) := by omega
          have p0 : (0 : Int) ≤ (jp : Int) + 1 := by omega
          have e0 : ((jp : Int) + 1).toNat = jp + 1 := by omega
          clear HXY hx hy
          rw [← hlt] at HOj2
          clear hlt
          by_cases hr : r < 0
          · have hd : decide (r < 0) = true := decide_eq_true hr
            have HE : Aside0 (insIn ltE z a i ds = insIn ltE z a jp ((dj.set (jp + 1) y).set jp x)) := ⟨by rw [HOj2.out, if_pos hd]⟩
            clear HOj2
            go_wp2_with fail
            go_quiet_grown (first | (go_at_fn 56; refine Calls.grown_of (hcg _ _)))
            go_wp2_with fail
            have HI2 : Aside0 (BlkE g dj tail (grow (wj.drewN nq) osq) ∧ Below w0.heap.size w0 (grow (wj.drewN nq) osq) ∧ KeepBut w (grow (wj.drewN nq) osq) g none) := ⟨blk_below (g := g) HI.out.1 (below_grow wj nq osq), below_step HI.out.2.1 (below_grow wj nq osq), keep_below' HI.out.2.2 (below_grow wj nq osq)⟩
            clear x0 x1 x2 x3 x4 x5 y0 y1 y2 y3 y4 y5 HI hcg
            generalize grow (wj.drewN nq) osq = W2 at HI2 ⊢
            have x0 : W2.cell? ⟨g, (jp + 1) * 6, none⟩ = some (.string x.f0) := (HI2.out.1.cell z (jp + 1) (by omega) 0 (by decide)).1.trans (by rw [← HX.out]; rfl)
            have xf0 : W2.frozen? ⟨g, (jp + 1) * 6, none⟩ = false := (HI2.out.1.cell z (jp + 1) (by omega) 0 (by decide)).2
            have x1 : W2.cell? ⟨g, (jp + 1) * 6 + 1, none⟩ = some (.string x.f1) := (HI2.out.1.cell z (jp + 1) (by omega) 1 (by decide)).1.trans (by rw [← HX.out]; rfl)
            have xf1 : W2.frozen? ⟨g, (jp + 1) * 6 + 1, none⟩ = false := (HI2.out.1.cell z (jp + 1) (by omega) 1 (by decide)).2
            have x2 : W2.cell? ⟨g, (jp + 1) * 6 + 2, none⟩ = some (.string x.f2) := (HI2.out.1.cell z (jp + 1) (by omega) 2 (by decide)).1.trans (by rw [← HX.out]; rfl)
            have xf2 : W2.frozen? ⟨g, (jp + 1) * 6 + 2, none⟩ = false := (HI2.out.1.cell z (jp + 1) (by omega) 2 (by decide)).2
            have x3 : W2.cell? ⟨g, (jp + 1) * 6 + 3, none⟩ = some (.int .i64 x.f3) := (HI2.out.1.cell z (jp + 1) (by omega) 3 (by decide)).1.trans (by rw [← HX.out]; rfl)
            have xf3 : W2.frozen? ⟨g, (jp + 1) * 6 + 3, none⟩ = false := (HI2.out.1.cell z (jp + 1) (by omega) 3 (by decide)).2
            have x4 : W2.cell? ⟨g, (jp + 1) * 6 + 4, none⟩ = some (.int .i64 x.f4) := (HI2.out.1.cell z (jp + 1) (by omega) 4 (by decide)).1.trans (by rw [← HX.out]; rfl)
            have xf4 : W2.frozen? ⟨g, (jp + 1) * 6 + 4, none⟩ = false := (HI2.out.1.cell z (jp + 1) (by omega) 4 (by decide)).2
            have x5 : W2.cell? ⟨g, (jp + 1) * 6 + 5, none⟩ = some (.slice x.A x.n x.c) := (HI2.out.1.cell z (jp + 1) (by omega) 5 (by decide)).1.trans (by rw [← HX.out]; rfl)
            have xf5 : W2.frozen? ⟨g, (jp + 1) * 6 + 5, none⟩ = false := (HI2.out.1.cell z (jp + 1) (by omega) 5 (by decide)).2
            have y0 : W2.cell? ⟨g, (jp) * 6, none⟩ = some (.string y.f0) := (HI2.out.1.cell z (jp) (by omega) 0 (by decide)).1.trans (by rw [← HY.out]; rfl)
            have yf0 : W2.frozen? ⟨g, (jp) * 6, none⟩ = false := (HI2.out.1.cell z (jp) (by omega) 0 (by decide)).2
            have y1 : W2.cell? ⟨g, (jp) * 6 + 1, none⟩ = some (.string y.f1) := (HI2.out.1.cell z (jp) (by omega) 1 (by decide)).1.trans (by rw [← HY.out]; rfl)
            have yf1 : W2.frozen? ⟨g, (jp) * 6 + 1, none⟩ = false := (HI2.out.1.cell z (jp) (by omega) 1 (by decide)).2
            have y2 : W2.cell? ⟨g, (jp) * 6 + 2, none⟩ = some (.string y.f2) := (HI2.out.1.cell z (jp) (by omega) 2 (by decide)).1.trans (by rw [← HY.out]; rfl)
            have yf2 : W2.frozen? ⟨g, (jp) * 6 + 2, none⟩ = false := (HI2.out.1.cell z (jp) (by omega) 2 (by decide)).2
            have y3 : W2.cell? ⟨g, (jp) * 6 + 3, none⟩ = some (.int .i64 y.f3) := (HI2.out.1.cell z (jp) (by omega) 3 (by decide)).1.trans (by rw [← HY.out]; rfl)
            have yf3 : W2.frozen? ⟨g, (jp) * 6 + 3, none⟩ = false := (HI2.out.1.cell z (jp) (by omega) 3 (by decide)).2
            have y4 : W2.cell? ⟨g, (jp) * 6 + 4, none⟩ = some (.int .i64 y.f4) := (HI2.out.1.cell z (jp) (by omega) 4 (by decide)).1.trans (by rw [← HY.out]; rfl)
            have yf4 : W2.frozen? ⟨g, (jp) * 6 + 4, none⟩ = false := (HI2.out.1.cell z (jp) (by omega) 4 (by decide)).2
            have y5 : W2.cell? ⟨g, (jp) * 6 + 5, none⟩ = some (.slice y.A y.n y.c) := (HI2.out.1.cell z (jp) (by omega) 5 (by decide)).1.trans (by rw [← HY.out]; rfl)
            have yf5 : W2.frozen? ⟨g, (jp) * 6 + 5, none⟩ = false := (HI2.out.1.cell z (jp) (by omega) 5 (by decide)).2
            go_region
            all_goals
              have HI3 : Aside0 (∀ W3, (W3 = ((((((((((((W2.setCell ⟨g, (jp + 1) * 6, none⟩ (.string y.f0)).setCell ⟨g, (jp + 1) * 6 + 1, none⟩ (.string y.f1)).setCell ⟨g, (jp + 1) * 6 + 2, none⟩ (.string y.f2)).setCell ⟨g, (jp + 1) * 6 + 3, none⟩ (.int .i64 y.f3)).setCell ⟨g, (jp + 1) * 6 + 4, none⟩ (.int .i64 y.f4)).setCell ⟨g, (jp + 1) * 6 + 5, none⟩ (.slice y.A y.n y.c)).setCell ⟨g, jp * 6, none⟩ (.string x.f0)).setCell ⟨g, jp * 6 + 1, none⟩ (.string x.f1)).setCell ⟨g, jp * 6 + 2, none⟩ (.string x.f2)).setCell ⟨g, jp * 6 + 3, none⟩ (.int .i64 x.f3)).setCell ⟨g, jp * 6 + 4, none⟩ (.int .i64 x.f4)).setCell ⟨g, jp * 6 + 5, none⟩ (.slice x.A x.n x.c)).drew ∨ W3 = ((((((((((((W2.setCell ⟨g, jp * 6, none⟩ (.string x.f0)).setCell ⟨g, jp * 6 + 1, none⟩ (.string x.f1)).setCell ⟨g, jp * 6 + 2, none⟩ (.string x.f2)).setCell ⟨g, jp * 6 + 3, none⟩ (.int .i64 x.f3)).setCell ⟨g, jp * 6 + 4, none⟩ (.int .i64 x.f4)).setCell ⟨g, jp * 6 + 5, none⟩ (.slice x.A x.n x.c)).setCell ⟨g, (jp + 1) * 6, none⟩ (.string y.f0)).setCell ⟨g, (jp + 1) * 6 + 1, none⟩ (.string y.f1)).setCell ⟨g, (jp + 1) * 6 + 2, none⟩ (.string y.f2)).setCell ⟨g, (jp + 1) * 6 + 3, none⟩ (.int .i64 y.f3)).setCell ⟨g, (jp + 1) * 6 + 4, none⟩ (.int .i64 y.f4)).setCell ⟨g, (jp + 1) * 6 + 5, none⟩ (.slice y.A y.n y.c)).drew) → BlkE g ((dj.set (jp + 1) y).set jp x) tail W3 ∧ Below w0.heap.size w0 W3 ∧ KeepBut w W3 g none) := ⟨by
                rintro W3 (rfl | rfl)
                · exact ⟨swapE1 HI2.out.1 jp (by omega) x y, by with_reducible repeat (first | exact HI2.out.2.1 | apply below_drew | refine below_set ?_ hg), by with_reducible repeat (first | exact HI2.out.2.2 | apply keep_drew | apply KeepBut.set_)⟩
                · exact ⟨swapE2 HI2.out.1 jp (by omega) x y, by with_reducible repeat (first | exact HI2.out.2.1 | apply below_drew | refine below_set ?_ hg), by with_reducible repeat (first | exact HI2.out.2.2 | apply keep_drew | apply KeepBut.set_)⟩⟩
              first | (generalize hW : ((((((((((((W2.setCell ⟨g, (jp + 1) * 6, none⟩ (.string y.f0)).setCell ⟨g, (jp + 1) * 6 + 1, none⟩ (.string y.f1)).setCell ⟨g, (jp + 1) * 6 + 2, none⟩ (.string y.f2)).setCell ⟨g, (jp + 1) * 6 + 3, none⟩ (.int .i64 y.f3)).setCell ⟨g, (jp + 1) * 6 + 4, none⟩ (.int .i64 y.f4)).setCell ⟨g, (jp + 1) * 6 + 5, none⟩ (.slice y.A y.n y.c)).setCell ⟨g, jp * 6, none⟩ (.string x.f0)).setCell ⟨g, jp * 6 + 1, none⟩ (.string x.f1)).setCell ⟨g, jp * 6 + 2, none⟩ (.string x.f2)).setCell ⟨g, jp * 6 + 3, none⟩ (.int .i64 x.f3)).setCell ⟨g, jp * 6 + 4, none⟩ (.int .i64 x.f4)).setCell ⟨g, jp * 6 + 5, none⟩ (.slice x.A x.n x.c)).drew = W3; have HI4 := Aside0.mk (HI3.out W3 (.inl hW.symm))) | (generalize hW : ((((((((((((W2.setCell ⟨g, jp * 6, none⟩ (.string x.f0)).setCell ⟨g, jp * 6 + 1, none⟩ (.string x.f1)).setCell ⟨g, jp * 6 + 2, none⟩ (.string x.f2)).setCell ⟨g, jp * 6 + 3, none⟩ (.int .i64 x.f3)).setCell ⟨g, jp * 6 + 4, none⟩ (.int .i64 x.f4)).setCell ⟨g, jp * 6 + 5, none⟩ (.slice x.A x.n x.c)).setCell ⟨g, (jp + 1) * 6, none⟩ (.string y.f0)).setCell ⟨g, (jp + 1) * 6 + 1, none⟩ (.string y.f1)).setCell ⟨g, (jp + 1) * 6 + 2, none⟩ (.string y.f2)).setCell ⟨g, (jp + 1) * 6 + 3, none⟩ (.int .i64 y.f3)).setCell ⟨g, (jp + 1) * 6 + 4, none⟩ (.int .i64 y.f4)).setCell ⟨g, (jp + 1) * 6 + 5, none⟩ (.slice y.A y.n y.c)).drew = W3; have HI4 := Aside0.mk (HI3.out W3 (.inr hW.symm)))
              clear HI3 HI2 hW
              go_wp2
              obtain ⟨kk, rfl⟩ : ∃ kk, gk = kk + 1 := ⟨gk - 1, by have := HKj.out; omega⟩
              go_roundg kk
              case measure => omega
              case rel => exact ⟨jp, (dj.set (jp + 1) y).set jp x, by go_num, by omega, by omega, ⟨by have := HKj.out; omega⟩, by rw [List.length_set, List.length_set]; exact hlj, ⟨HE.out.symm⟩, HI4⟩
          · have hd : decide (r < 0) = false := decide_eq_false hr
            have HE : Aside0 (insIn ltE z a i ds = dj) := ⟨by rw [HOj2.out, if_neg (by rw [hd]; decide)]⟩
            clear HOj2
            go_wp2_with fail
            go_quiet_grown (first | (go_at_fn 56; refine Calls.grown_of (hcg _ _)))
            have HI2 : Aside0 (BlkE g dj tail (grow (wj.drewN nq) osq) ∧ Below w0.heap.size w0 (grow (wj.drewN nq) osq) ∧ KeepBut w (grow (wj.drewN nq) osq) g none) := ⟨blk_below (g := g) HI.out.1 (below_grow wj nq osq), below_step HI.out.2.1 (below_grow wj nq osq), keep_below' HI.out.2.2 (below_grow wj nq osq)⟩
            generalize grow (wj.drewN nq) osq = W2 at HI2 ⊢
            have HO3 : Aside0 (insOut ltE z a (b - (i + 1)) (i + 1) dj = insOut ltE z a (b - (a + 1)) (a + 1) ds0) := ⟨by rw [← HO2.out, HE.out]⟩
            clear HO2 HE HI
            go_wp2
            obtain ⟨kk, rfl⟩ : ∃ kk, gk0 = kk + 1 := ⟨gk0 - 1, by have := HK.out; omega⟩
            go_roundg kk
            case measure => omega
            case rel => exact ⟨i + 1, dj, by go_num, by omega, ⟨by have := HK.out; omega⟩, hlj, HO3, HI2⟩
        · have HE : Aside0 (insIn ltE z a i ds = dj) := ⟨by
            rw [← HOj.out]
            cases j with
            | zero => rfl
            | succ j => rw [insIn, if_neg (by omega)]⟩
          obtain rfl : a = j := by omega
          have jd : decide ((a : Int) < (a : Int)) = false := decide_eq_false (by omega)
          clear HOj hja
          go_wp2_with fail
          go_region
          all_goals
            have HI2 : Aside0 (BlkE g dj tail wj.drew ∧ Below w0.heap.size w0 wj.drew ∧ KeepBut w wj.drew g none) := ⟨HI.out.1, below_drew HI.out.2.1, keep_drew HI.out.2.2⟩
            generalize wj.drew = W2 at HI2 ⊢
            have HO3 : Aside0 (insOut ltE z a (b - (i + 1)) (i + 1) dj = insOut ltE z a (b - (a + 1)) (a + 1) ds0) := ⟨by rw [← HO2.out, HE.out]⟩
            clear HO2 HE HI
            go_wp2
            obtain ⟨kk, rfl⟩ : ∃ kk, gk0 = kk + 1 := ⟨gk0 - 1, by have := HK.out; omega⟩
            go_roundg kk
            case measure => omega
            case rel => exact ⟨i + 1, dj, by go_num, by omega, ⟨by have := HK.out; omega⟩, hlj, HO3, HI2⟩
    · have HE : Aside0 (ds = insOut ltE z a (b - (a + 1)) (a + 1) ds0) := ⟨by rw [← HO.out, show b - i = 0 by omega]; rfl⟩
      clear HO
      go_wp2
      go_end0
      exact ⟨rfl, by rw [← HE.out]; exact HI.out.1, HI.out.2.1, HI.out.2.2⟩
end Go.Proofs.YtghjhampigbbkaaGreatDoor.PA
end

/- Texts of this claim, merged by a program: XBuild, XSt, XTwo, XLit, XUnq, XName, XEnds, XQuoted, XCell, XCells, PAxf157. -/
import Derived.ArgAppend
import Derived.Below
import Derived.BigQuiet
import Derived.Deep.AppendLies
import Derived.Deep.CutBlock
import Derived.Deep.DeepCutAuto
import Derived.Deep.Draws
import Derived.Deep.LoopGhost
import Derived.Deep.OwnRows
import Derived.Deep.QuietTactic
import Derived.Deep.RegionHeld3
import Derived.KernelRfl
import Derived.Laws.BitsLemmas
import Derived.Laws.BytesArg
import Derived.Laws.Cover1
import Derived.Laws.Externs
import Derived.Laws.IdiomCopy
import Derived.Laws.MakeOwn
import Derived.Laws.OwnMore
import Derived.Laws.Rows
import Derived.Laws.Slices
import Derived.Laws.Small
import Derived.Laws.Strings
import Derived.Laws.StructEq
import Derived.Lib.AppendStr
import Derived.Lib.Builder
import Derived.Lib.ConvBytes
import Derived.Lib.MakeNoZero
import Derived.Lib.Slices
import Derived.Lib.Strings
import Derived.Lib.UnsafeStr
import Derived.Lib.Walk
import Derived.Maps.AppendAt
import Derived.OrdersHeld
import Derived.OwnWalk
import Derived.RowKit
import Derived.RowKit3
import Derived.Tactics
import Derived.Test.YtghjhampigbbkaaGreatDoorProg
import Derived.WalkKit
import Derived.WideLaws
import Derived.Test.YtghjhampigbbkaaGreatDoorKW3
import Derived.Test.YtghjhampigbbkaaGreatDoorKW4
import Derived.Test.YtghjhampigbbkaaGreatDoorKW5
import Derived.Test.YtghjhampigbbkaaGreatDoorKW6
import Derived.Test.YtghjhampigbbkaaGreatDoorKW7
import Derived.Test.YtghjhampigbbkaaGreatDoorKW8
import Derived.Test.YtghjhampigbbkaaGreatDoorKW9
import Derived.Test.YtghjhampigbbkaaGreatDoorKW10
import Derived.Test.YtghjhampigbbkaaGreatDoorKW11
set_option linter.unusedVariables false
set_option linter.unusedSimpArgs false
section
set_option linter.unusedVariables false
set_option linter.unusedSimpArgs false
namespace Go.Proofs.YtghjhampigbbkaaGreatDoor.PA
open Go.RowKit
theorem sizeB : (Tryz.prog.info? 75).map (·.size) = some 2 := by kernel_rfl
theorem liesB : liesAt Tryz.prog Tryz.prog.depth 75 (2 / Tryz.prog.cellsOf 75) 0 75 1 = true := by kernel_rfl
theorem cellsB : Tryz.prog.cellsOf 5 = 1 := by kernel_rfl
set_option maxHeartbeats 1000000 in
set_option maxRecDepth 100000 in
theorem Bld.Builder_copyCheck_used (b : Nat) (w : World) (h0 : w.cell? ⟨b, 0, none⟩ = some (.pointer (some ⟨b, 0, none⟩))) :
    Calls Tryz.prog 92 #[.pointer (some ⟨b, 0, none⟩)] w fun e w' => e = .returned (.tuple #[]) ∧ w' = w := by
  obtain ⟨j, hj, _⟩ := Option.map_eq_some_iff.1 sizeB
  go_enter Tryz.func92, Tryz.ntmps92
  go_wp2
  rw [Lib.run_neq_ptr_same w _ Tryz.underlying73 hj]
  go_wp2
  go_end0
  exact ⟨rfl, rfl⟩
set_option maxHeartbeats 1000000 in
set_option maxRecDepth 100000 in
theorem Bld.Builder_copyCheck_fresh (b : Nat) (w : World) (h0 : w.cell? ⟨b, 0, none⟩ = some (.pointer none)) (hsh : w.shape? b = some (75, 2)) (hfz : w.frozen? ⟨b, 0, none⟩ = false) :
    Calls Tryz.prog 92 #[.pointer (some ⟨b, 0, none⟩)] w fun e w' => e = .returned (.tuple #[]) ∧ w' = w.setCell ⟨b, 0, none⟩ (.pointer (some ⟨b, 0, none⟩)) := by
  obtain ⟨j, hj, hjs⟩ := Option.map_eq_some_iff.1 sizeB
  go_enter Tryz.func92, Tryz.ntmps92
  go_wp2
  rw [Lib.run_to_unsafe w ⟨b, 0, none⟩ Tryz.underlying73 Tryz.underlying164 hj (by rw [hjs]; decide) hsh (Nat.zero_lt_succ 1)]
  simp only [Result.andThen]
  rw [Oper.upon_value]
  go_wp2
  rw [run_callFunc_extern Tryz.func136 (by kernel_rfl) (by kernel_rfl) (by kernel_rfl) (e := Extern.AbiNoEscape.same) (by kernel_rfl)]
  rw [Lib.run_noEscape]
  simp only [Result.andThen]
  rw [Oper.upon_value]
  go_wp2
  rw [Lib.run_from_unsafe w ⟨b, 0, none⟩ Tryz.underlying164 Tryz.underlying73 hj hsh liesB]
  simp only [Result.andThen]
  rw [Oper.upon_value]
  go_wp2
  go_end0
  exact ⟨rfl, rfl⟩
theorem Bld.Builder_copyCheck (B b : Nat) (bs : List Value) (w : World) (h : Lib.IsBuilder 75 5 B b bs w) :
    Calls Tryz.prog 92 #[.pointer (some ⟨b, 0, none⟩)] w fun e w' => e = .returned (.tuple #[]) ∧ (Lib.BuilderAt 75 5 B b (.pointer (some ⟨b, 0, none⟩)) bs w' ∧ Below B w w') := by
  rcases h with h | h
  · refine (Bld.Builder_copyCheck_fresh b w h.cell0 h.shape h.frozen0).mono ?_
    rintro e w' ⟨rfl, rfl⟩
    exact ⟨rfl, h.used _, (Below.refl B w).setCell (p := ⟨b, 0, none⟩) h.1 _⟩
  · refine (Bld.Builder_copyCheck_used b w h.cell0).mono ?_
    rintro e w' ⟨rfl, rfl⟩
    exact ⟨rfl, h, Below.refl B _⟩
set_option maxHeartbeats 1000000 in
set_option maxRecDepth 100000 in
theorem Bld.Builder_Len (B b : Nat) (bs : List Value) (w : World) (h : Lib.IsBuilder 75 5 B b bs w) :
    Calls Tryz.prog 48 #[.pointer (some ⟨b, 0, none⟩)] w fun e w' => e = .returned (.int .i64 bs.length) ∧ w' = w := by
  obtain ⟨p, hB, v, hbk, hown, hne⟩ : ∃ p, Lib.BuilderAt 75 5 B b p bs w := by
    rcases h with h | h
    · exact ⟨_, h⟩
    · exact ⟨_, h⟩
  obtain ⟨ao, cap, rfl⟩ : ∃ ao cap, v = .slice ao bs.length cap := by
    rcases hown.2 with ⟨hv, h0⟩ | ⟨g, cap, cur, hv, _⟩
    · exact ⟨none, 0, by rw [hv, h0]⟩
    · exact ⟨_, _, hv⟩
  have c1 : w.cell? ⟨b, 1, none⟩ = some (.slice ao bs.length cap) := by rw [Lib.cell_of_heap hbk]; rfl
  go_enter Tryz.func48, Tryz.ntmps48
  go_wp2
  go_ret
  exact ⟨rfl, rfl⟩
set_option maxHeartbeats 2000000 in
set_option maxRecDepth 100000 in
theorem Bld.Builder_WriteByte (B b : Nat) (bs : List Value) (c : Int) (w : World) (h : Lib.IsBuilder 75 5 B b bs w) (hlen : bs.length + 1 ≤ 140737488355328) (hBw : B ≤ w.heap.size) :
    Calls Tryz.prog 44 #[.pointer (some ⟨b, 0, none⟩), .int .u8 c] w fun e w' => e = .returned .nilIface ∧ (Lib.BuilderAt 75 5 B b (.pointer (some ⟨b, 0, none⟩)) (bs ++ [.int .u8 c]) w' ∧ Below B w w') := by
  obtain ⟨i0, hi, hz0, hz1, hz2⟩ := info_parts info5
  go_enter Tryz.func44, Tryz.ntmps44
  go_wp2_with (go_at_call 92; refine (Bld.Builder_copyCheck B b bs _ h).mono ?_)
  rintro e w1 ⟨rfl, h1, hb1⟩
  obtain ⟨hB, v, hbk, hown, hne⟩ := h1
  have c0 : w1.cell? ⟨b, 0, none⟩ = some (.pointer (some ⟨b, 0, none⟩)) := by rw [Lib.cell_of_heap hbk]; rfl
  have c1 : w1.cell? ⟨b, 1, none⟩ = some v := by rw [Lib.cell_of_heap hbk]; rfl
  go_wp2_with (at_builtin; refine wpList_append_own _ rfl _ _ 72 rfl B 5 i0 (.int .u8 0) 1 1 Tryz.underlying72 hi hz0 hz1 hz2 rfl (by decide) _ _ _ rfl (hown.alloc _) ⟨w1.heap.size, 0, none⟩ 1 1 [.int .u8 c] rfl rfl ?c1 ?c2 ?c3 ?c4 ?c5 ?_)
  case c1 =>
    intro j u hj
    match j, hj with
    | 0, hj => simp at hj; subst hj; simp [Addr.add]
  case c2 => intro u hu; simp at hu; subst hu; rfl
  case c3 => unfold maxLen; omega
  case c4 => omega
  case c5 => have := hb1.size; simp; omega
  intro v' w2 hown' hgrow _
  have hlt : b < w1.heap.size := by
    rcases Nat.lt_or_ge b w1.heap.size with h' | h'
    · exact h'
    · simp [Array.getElem?_eq_none h'] at hbk
  have hb2 : w2.heap[b]? = some (.cells #[.pointer (some ⟨b, 0, none⟩), v] 75 (0, 0)) := by
    rw [hgrow.block b (by simp; omega) (fun e => hne e.symm), Lib.alloc_old w1 _ b hlt]
    exact hbk
  have d0 : w2.cell? ⟨b, 0, none⟩ = some (.pointer (some ⟨b, 0, none⟩)) := by rw [Lib.cell_of_heap hb2]; rfl
  have d1 : w2.cell? ⟨b, 1, none⟩ = some v := by rw [Lib.cell_of_heap hb2]; rfl
  have f1 : w2.frozen? ⟨b, 1, none⟩ = false := Lib.frozen_of_heap hb2 1
  obtain ⟨g, cap, rfl⟩ : ∃ g cap, v' = .slice (some ⟨g, 0, none⟩) (bs.length + 1) cap := by
    rcases hown'.2 with ⟨_, h0⟩ | ⟨g, cap, cur, hv, _⟩
    · omega
    · exact ⟨g, cap, hv⟩
  go_wp2
  go_ret
  refine ⟨rfl, ?_, ?_⟩
  · exact Lib.BuilderAt.put (T := 75) (e := 5) hB hb2 (bs' := bs ++ [.int .u8 c]) (by simpa using hown') (by decide)
  · exact ((hb1.alloc (by have := hb1.size; omega) _).grown hgrow (by have := hb1.size; simp; omega) (fun k hk => (hown.lt k hk).1)).setCell (p := ⟨b, 1, none⟩) hB _
set_option maxHeartbeats 2000000 in
set_option maxRecDepth 100000 in
theorem Bld.Builder_WriteString (B b : Nat) (bs : List Value) (s : ByteArray) (w : World) (h : Lib.IsBuilder 75 5 B b bs w) (hlen : bs.length + s.size ≤ 140737488355328) (hBw : B ≤ w.heap.size) :
    Calls Tryz.prog 47 #[.pointer (some ⟨b, 0, none⟩), .string s] w fun e w' => e = .returned (.tuple #[.int .i64 s.size, .nilIface]) ∧ (Lib.BuilderAt 75 5 B b (.pointer (some ⟨b, 0, none⟩)) (bs ++ Lib.strCells s) w' ∧ Below B w w') := by
  obtain ⟨i0, hi, hz0, hz1, hz2⟩ := info_parts info5
  go_enter Tryz.func47, Tryz.ntmps47
  go_wp2_with (go_at_call 92; refine (Bld.Builder_copyCheck B b bs _ h).mono ?_)
  rintro e w1 ⟨rfl, h1, hb1⟩
  obtain ⟨hB, v, hbk, hown, hne⟩ := h1
  have c0 : w1.cell? ⟨b, 0, none⟩ = some (.pointer (some ⟨b, 0, none⟩)) := by rw [Lib.cell_of_heap hbk]; rfl
  have c1 : w1.cell? ⟨b, 1, none⟩ = some v := by rw [Lib.cell_of_heap hbk]; rfl
  go_wp2_with (at_builtin; refine Lib.wpList_append_own_string _ rfl _ _ 72 9 rfl B 5 i0 Tryz.underlying72 Tryz.underlying9 hi hz0 hz1 hz2 _ _ _ rfl hown s rfl ?c3 ?c4 ?c5 ?_)
  case c3 => unfold maxLen; omega
  case c4 => omega
  case c5 => have := hb1.size; omega
  intro v' w2 hown' hgrow _
  have hlt : b < w1.heap.size := by
    rcases Nat.lt_or_ge b w1.heap.size with h' | h'
    · exact h'
    · simp [Array.getElem?_eq_none h'] at hbk
  have hb2 : w2.heap[b]? = some (.cells #[.pointer (some ⟨b, 0, none⟩), v] 75 (0, 0)) := by
    rw [hgrow.block b hlt (fun e => hne e.symm)]
    exact hbk
  have d0 : w2.cell? ⟨b, 0, none⟩ = some (.pointer (some ⟨b, 0, none⟩)) := by rw [Lib.cell_of_heap hb2]; rfl
  have d1 : w2.cell? ⟨b, 1, none⟩ = some v := by rw [Lib.cell_of_heap hb2]; rfl
  have f1 : w2.frozen? ⟨b, 1, none⟩ = false := Lib.frozen_of_heap hb2 1
  obtain ⟨ao, n', cap, rfl⟩ : ∃ ao n' cap, v' = .slice ao n' cap := by
    rcases hown'.2 with ⟨hv, _⟩ | ⟨g, cap, cur, hv, _⟩
    · exact ⟨_, _, _, hv⟩
    · exact ⟨_, _, _, hv⟩
  go_wp2
  go_ret2
  refine ⟨rfl, ?_, ?_⟩
  · exact Lib.BuilderAt.put (T := 75) (e := 5) hB hb2 (bs' := bs ++ Lib.strCells s) (by simpa [Lib.strCells_length] using hown') (by decide)
  · exact (hb1.grown hgrow (by have := hb1.size; omega) (fun k hk => (hown.lt k hk).1)).setCell (p := ⟨b, 1, none⟩) hB _
set_option maxHeartbeats 1000000 in
set_option maxRecDepth 100000 in
theorem Bld.Builder_String (B b : Nat) (l : List UInt8) (w : World) (h : Lib.IsBuilder 75 5 B b (Lib.byteCells l) w) (h0 : l ≠ []) :
    Calls Tryz.prog 49 #[.pointer (some ⟨b, 0, none⟩)] w fun e w' => e = .returned (.string ⟨l.toArray⟩) ∧ Below B w w' := by
  obtain ⟨p, hB, v, hbk, hown, hne⟩ : ∃ p, Lib.BuilderAt 75 5 B b p (Lib.byteCells l) w := by
    rcases h with h | h
    · exact ⟨_, h⟩
    · exact ⟨_, h⟩
  have hl0 : l.length ≠ 0 := by simpa using h0
  rw [Lib.byteCells_length] at hown
  obtain ⟨g, cap, cur, rfl, hbg, hg, hnc, hcm, hcs, htake⟩ : ∃ g cap cur, v = .slice (some ⟨g, 0, none⟩) l.length cap ∧ B ≤ g ∧ w.heap[g]? = some (.cells cur 5 (0, 0)) ∧ l.length ≤ cap ∧ cap ≤ maxLen ∧ cur.size = cap * 1 ∧ cur.toList.take (l.length * 1) = Lib.byteCells l := by
    rcases hown.2 with ⟨_, hz⟩ | ⟨g, cap, cur, hv, r⟩
    · exact absurd hz hl0
    · exact ⟨g, cap, cur, hv, r⟩
  have c1 : w.drew.cell? ⟨b, 1, none⟩ = some (.slice (some ⟨g, 0, none⟩) l.length cap) := by
    have : w.drew.heap[b]? = some (.cells #[p, .slice (some ⟨g, 0, none⟩) l.length cap] 75 (0, 0)) := hbk
    rw [Lib.cell_of_heap this]; rfl
  have hSD : (Builtin.unsafeSliceData_ #[72] 133 #[.slice (some ⟨g, 0, none⟩) l.length cap]).run Tryz.prog w.drew = .ok (.pointer (some ⟨g, 0, none⟩)) w.drew :=
    Lib.run_unsafeSliceData_row _ _ _ _ _ _ (by omega)
  have hUS : (Builtin.unsafeString_ #[133, 3] 9 #[.pointer (some ⟨g, 0, none⟩), .int .i64 l.length]).run Tryz.prog w.drew = .ok (.string ⟨l.toArray⟩) (w.drew.freeze ⟨g, 0, none⟩ l.length) := by
    refine Lib.run_unsafeString_row w.drew 133 3 9 5 Tryz.underlying133 cellsB g cur.size (by have hg' : w.drew.heap[g]? = some (.cells cur 5 (0, 0)) := hg; simp [World.shape?, hg']) l h0 (by omega) (by unfold maxLen at hcm; omega) ?_
    intro j x hx
    have := hown.cells (g := g) rfl j (.int .u8 x.toNat) (by simp [Lib.byteCells, hx])
    exact this
  go_enter Tryz.func49, Tryz.ntmps49
  go_wp2
  go_region
  all_goals (go_wp2; go_ret; exact ⟨rfl, Lib.below_freeze (Below.drew (Below.refl B w)) (p := ⟨g, 0, none⟩) hbg _⟩)
theorem Bld.unsafeString_none (W : World) (q : Option Addr) : (Builtin.unsafeString_ #[133, 3] 9 #[.pointer q, .int .i64 0]).run Tryz.prog W = .ok (.string .empty) W :=
  Lib.run_unsafeString_none W _ _ _ q
set_option maxHeartbeats 2000000 in
set_option maxRecDepth 100000 in
theorem Bld.Builder_String_nil (B b : Nat) (p : Value) (w : World) (hbk : w.heap[b]? = some (.cells #[p, .slice none 0 0] 75 (0, 0))) :
    Calls Tryz.prog 49 #[.pointer (some ⟨b, 0, none⟩)] w fun e w' => e = .returned (.string ⟨#[]⟩) ∧ Below B w w' := by
  have hUS := Bld.unsafeString_none
  have c1 : w.drew.cell? ⟨b, 1, none⟩ = some (.slice none 0 0) := by
    have : w.drew.heap[b]? = some (.cells #[p, .slice none 0 0] 75 (0, 0)) := hbk
    rw [Lib.cell_of_heap this]; rfl
  have hSD : (Builtin.unsafeSliceData_ #[72] 133 #[.slice none 0 0]).run Tryz.prog w.drew = .ok (.pointer none) w.drew := rfl
  go_enter Tryz.func49, Tryz.ntmps49
  go_wp2
  go_region
  all_goals (go_wp2; go_ret; exact ⟨rfl, Below.drew (Below.refl B w)⟩)
set_option maxHeartbeats 2000000 in
set_option maxRecDepth 100000 in
theorem Bld.Builder_String_noroom (B b g : Nat) (p : Value) (cur : Array Value) (w : World) (hBw : B ≤ w.heap.size) (hbk : w.heap[b]? = some (.cells #[p, .slice (some ⟨g, 0, none⟩) 0 0] 75 (0, 0))) (hg : w.heap[g]? = some (.cells cur 5 (0, 0))) :
    Calls Tryz.prog 49 #[.pointer (some ⟨b, 0, none⟩)] w fun e w' => e = .returned (.string ⟨#[]⟩) ∧ Below B w w' := by
  have hUS := Bld.unsafeString_none
  have hlt : b < w.heap.size := by
    rcases Nat.lt_or_ge b w.heap.size with h' | h'
    · exact h'
    · simp [Array.getElem?_eq_none h'] at hbk
  have c1 : w.drew.cell? ⟨b, 1, none⟩ = some (.slice (some ⟨g, 0, none⟩) 0 0) := by
    have : w.drew.heap[b]? = some (.cells #[p, .slice (some ⟨g, 0, none⟩) 0 0] 75 (0, 0)) := hbk
    rw [Lib.cell_of_heap this]; rfl
  have hSD : (Builtin.unsafeSliceData_ #[72] 133 #[.slice (some ⟨g, 0, none⟩) 0 0]).run Tryz.prog w.drew = .ok (.pointer (some ⟨w.drew.heap.size, 0, none⟩)) (w.drew.alloc (.view ⟨g, 0, none⟩ 5)) :=
    Lib.run_unsafeSliceData_zero w.drew _ _ 5 Tryz.underlying133 ⟨g, 0, none⟩ 0 (5, cur.size) (by have hg' : w.drew.heap[g]? = some (.cells cur 5 (0, 0)) := hg; simp [World.shape?, hg'])
  have c2 : (w.drew.alloc (.view ⟨g, 0, none⟩ 5)).cell? ⟨b, 1, none⟩ = some (.slice (some ⟨g, 0, none⟩) 0 0) := by
    have : (w.drew.alloc (.view ⟨g, 0, none⟩ 5)).heap[b]? = _ := (Lib.alloc_old w.drew _ b hlt).trans hbk
    rw [Lib.cell_of_heap this]; rfl
  have c3 : (w.alloc (.view ⟨g, 0, none⟩ 5)).drew.cell? ⟨b, 1, none⟩ = some (.slice (some ⟨g, 0, none⟩) 0 0) := c2
  have c0 : w.cell? ⟨b, 1, none⟩ = some (.slice (some ⟨g, 0, none⟩) 0 0) := c1
  go_enter Tryz.func49, Tryz.ntmps49
  go_wp2
  go_region
  all_goals (go_wp2; go_ret; exact ⟨rfl, (Below.drew (Below.refl B w)).alloc hBw _⟩)
set_option maxHeartbeats 2000000 in
set_option maxRecDepth 100000 in
theorem Bld.Builder_String_room (B b g cap : Nat) (p : Value) (w : World) (hc0 : cap ≠ 0) (hbk : w.heap[b]? = some (.cells #[p, .slice (some ⟨g, 0, none⟩) 0 cap] 75 (0, 0))) :
    Calls Tryz.prog 49 #[.pointer (some ⟨b, 0, none⟩)] w fun e w' => e = .returned (.string ⟨#[]⟩) ∧ Below B w w' := by
  have hUS := Bld.unsafeString_none
  have c1 : w.drew.cell? ⟨b, 1, none⟩ = some (.slice (some ⟨g, 0, none⟩) 0 cap) := by
    have : w.drew.heap[b]? = some (.cells #[p, .slice (some ⟨g, 0, none⟩) 0 cap] 75 (0, 0)) := hbk
    rw [Lib.cell_of_heap this]; rfl
  have hSD : (Builtin.unsafeSliceData_ #[72] 133 #[.slice (some ⟨g, 0, none⟩) 0 cap]).run Tryz.prog w.drew = .ok (.pointer (some ⟨g, 0, none⟩)) w.drew :=
    Lib.run_unsafeSliceData_row _ _ _ _ _ _ hc0
  clear hc0
  go_enter Tryz.func49, Tryz.ntmps49
  go_wp2
  go_region
  all_goals (go_wp2; go_ret; exact ⟨rfl, Below.drew (Below.refl B w)⟩)
theorem Bld.Builder_String_empty (B b : Nat) (w : World) (h : Lib.IsBuilder 75 5 B b [] w) (hBw : B ≤ w.heap.size) :
    Calls Tryz.prog 49 #[.pointer (some ⟨b, 0, none⟩)] w fun e w' => e = .returned (.string ⟨#[]⟩) ∧ Below B w w' := by
  obtain ⟨p, hB, v, hbk, hown, hne⟩ : ∃ p, Lib.BuilderAt 75 5 B b p [] w := by
    rcases h with h | h
    · exact ⟨_, h⟩
    · exact ⟨_, h⟩
  rcases hown.2 with ⟨rfl, _⟩ | ⟨g, cap, cur, rfl, hbg, hg, _, _, _, _⟩
  · exact Bld.Builder_String_nil B b p w hbk
  · by_cases hc0 : cap = 0
    · subst hc0
      exact Bld.Builder_String_noroom B b g p cur w hBw hbk hg
    · exact Bld.Builder_String_room B b g cap p w hc0 hbk
theorem Bld.Builder_String_any (B b : Nat) (l : List UInt8) (w : World) (h : Lib.IsBuilder 75 5 B b (Lib.byteCells l) w) (hBw : B ≤ w.heap.size) :
    Calls Tryz.prog 49 #[.pointer (some ⟨b, 0, none⟩)] w fun e w' => e = .returned (.string ⟨l.toArray⟩) ∧ Below B w w' := by
  cases l with
  | nil => exact Bld.Builder_String_empty B b w h hBw
  | cons x r => exact Bld.Builder_String B b (x :: r) w h (by simp)
end Go.Proofs.YtghjhampigbbkaaGreatDoor.PA
end
section
namespace Go.Proofs.YtghjhampigbbkaaGreatDoor.PA
open Go.RowKit Go.Proofs.YtghjhampigbbkaaGreatDoorW.PrintWords Go.Proofs.YtghjhampigbbkaaGreatDoorW.PrintLast Go.Proofs.YtghjhampigbbkaaGreatDoorW.PrintMore
theorem heap_lt {w : World} {b : Nat} {o : Obj} (h : w.heap[b]? = some o) : b < w.heap.size := by
  rcases Nat.lt_or_ge b w.heap.size with h' | h'
  · exact h'
  · simp [Array.getElem?_eq_none h'] at h
theorem owns_keep {w w' : World} {B e size n : Nat} {v : Value} {xs : List Value} (h : w.ownsRow B e size v n xs) (hk : ∀ i, B ≤ i → i < w.heap.size → w'.heap[i]? = w.heap[i]?) : w'.ownsRow B e size v n xs := by
  refine ⟨h.1, ?_⟩
  rcases h.2 with h2 | ⟨g, cap, cur, hv, hB, hg, r⟩
  · exact .inl h2
  · exact .inr ⟨g, cap, cur, hv, hB, (hk g hB (heap_lt hg)).trans hg, r⟩
theorem bld_keep {T e B b : Nat} {bs : List Value} {w w' : World} (h : Lib.IsBuilder T e B b bs w) (hk : ∀ i, B ≤ i → i < w.heap.size → w'.heap[i]? = w.heap[i]?) : Lib.IsBuilder T e B b bs w' := by
  rcases h with ⟨hB, v, hb, ho, hn⟩ | ⟨hB, v, hb, ho, hn⟩
  · exact .inl ⟨hB, v, (hk b hB (heap_lt hb)).trans hb, owns_keep ho hk, hn⟩
  · exact .inr ⟨hB, v, (hk b hB (heap_lt hb)).trans hb, owns_keep ho hk, hn⟩
theorem keep_above {w1 w2 : World} {g B : Nat} (h : KeepBut w1 w2 g none) (hg : g < B) : ∀ i, B ≤ i → i < w1.heap.size → w2.heap[i]? = w1.heap[i]? :=
  fun i hB hi => h.2 i hi (by omega) (by simp)
theorem keep_below_trans {w w1 w2 : World} {g : Nat} (h : KeepBut w w1 g none) (hb : Below w.heap.size w1 w2) : KeepBut w w2 g none :=
  ⟨Nat.le_trans h.1 hb.size, fun i hi hg hr => (hb.block i hi).trans (h.2 i hi hg hr)⟩
theorem keep_trans' {w w1 w2 : World} {g : Nat} (h : KeepBut w w1 g none) (hb : KeepBut w1 w2 g none) : KeepBut w w2 g none :=
  ⟨Nat.le_trans h.1 hb.1, fun i hi hg hr => (hb.2 i (Nat.lt_of_lt_of_le hi h.1) hg hr).trans (h.2 i hi hg hr)⟩
theorem heap_keep {w1 w2 : World} {B i : Nat} {o : Obj} (hb : Below B w1 w2) (hi : i < B) (h : w1.heap[i]? = some o) : w2.heap[i]? = some o := (hb.block i hi).trans h
end Go.Proofs.YtghjhampigbbkaaGreatDoor.PA
end
section
namespace Go.Proofs.YtghjhampigbbkaaGreatDoor.PA
open Go.RowKit Go.Proofs.YtghjhampigbbkaaGreatDoorW.PrintWords Go.Proofs.YtghjhampigbbkaaGreatDoorW.PrintLast Go.Proofs.YtghjhampigbbkaaGreatDoorW.PrintMore
theorem cells3 {w : World} {g : Nat} {t : TypeId} {a b c : Value} (h : w.heap[g]? = some (.cells #[a, b, c] t (0, 0))) :
    w.cell? ⟨g, 0, none⟩ = some a ∧ w.cell? ⟨g, 1, none⟩ = some b ∧ w.cell? ⟨g, 2, none⟩ = some c ∧ w.frozen? ⟨g, 0, none⟩ = false ∧ w.frozen? ⟨g, 1, none⟩ = false ∧ w.frozen? ⟨g, 2, none⟩ = false :=
  ⟨blk_cell h 0, blk_cell h 1, blk_cell h 2, blk_frozen h 0, blk_frozen h 1, blk_frozen h 2⟩
theorem size_alloc (w : World) (o : Obj) : (w.alloc o).heap.size = w.heap.size + 1 := Array.size_push ..
theorem two_new {w w1 : World} {o1 o2 : Obj} (hb : Below ((w.alloc o1).alloc o2).heap.size ((w.alloc o1).alloc o2) w1) :
    w1.heap[w.heap.size]? = some o1 ∧ w1.heap[w.heap.size + 1]? = some o2 ∧ Below w.heap.size w w1 :=
  ⟨blk_below (blk_alloc (blk_new w o1) o2) hb, size_alloc w o1 ▸ blk_below (blk_new (w.alloc o1) o2) hb, below_step (below_alloc (below_alloc (Below.refl _ _) _) _) hb⟩
def set3 (w : World) (g : Nat) (x y z : Value) : World := ((w.setCell ⟨g, 0, none⟩ x).setCell ⟨g, 1, none⟩ y).setCell ⟨g, 2, none⟩ z
theorem put3 {w : World} {g : Nat} {t : TypeId} {a b c : Value} (h : w.heap[g]? = some (.cells #[a, b, c] t (0, 0))) (x y z : Value) : (set3 w g x y z).heap[g]? = some (.cells #[x, y, z] t (0, 0)) :=
  blk_put (blk_put (blk_put h 0 _ rfl) 1 _ rfl) 2 _ rfl
theorem far3 {w : World} {g0 g : Nat} {t : TypeId} {cs : Array Value} (h : w.heap[g0]? = some (.cells cs t (0, 0))) (hne : g0 ≠ g) (x y z : Value) : (set3 w g x y z).heap[g0]? = some (.cells cs t (0, 0)) :=
  blk_far (blk_far (blk_far h (p := ⟨g, 0, none⟩) hne _) (p := ⟨g, 1, none⟩) hne _) (p := ⟨g, 2, none⟩) hne _
theorem below3 {w W : World} {g : Nat} (h : Below w.heap.size w W) (hg : w.heap.size ≤ g) (x y z : Value) : Below w.heap.size w (set3 W g x y z) := below_set (below_set (below_set h hg) hg) hg
theorem ret_ct3 {fn : Func} {p u : Tmp} {ty : TypeId} {R : Ending → World → Prop} {a : Act} {w : World} {g : Nat} {t : TypeId} {x y z : Value} {fs : Array Field} (h : fn.results = #[.cell p ty, .tmp u])
    (hp : a.tmps.getD p undef = .pointer (some ⟨g, 0, none⟩)) (hg : w.heap[g]? = some (.cells #[x, y, z] t (0, 0))) (hd : a.defers = [])
    (hu : Tryz.prog.underlying ty = some (.struct fs)) (hi : (Tryz.prog.info? ty).map (·.size) = some 3)
    (hR : R (.returned (.tuple #[.agg #[x, y, z], a.tmps.getD u undef])) w) : bodyPost Tryz.prog fn R .ret a w :=
  bodyPost_ret (results_ct h _ _ g t #[x, y, z] (0, 0) _ hp hg hu rfl hi) hd hR
end Go.Proofs.YtghjhampigbbkaaGreatDoor.PA
end
section
namespace Go.Proofs.YtghjhampigbbkaaGreatDoor.PA
open Go.RowKit Go.Proofs.YtghjhampigbbkaaGreatDoorW.PrintWords Go.Proofs.YtghjhampigbbkaaGreatDoorW.PrintLast Go.Proofs.YtghjhampigbbkaaGreatDoorW.PrintMore
def litGo : List UInt8 → List UInt8
  | [] => []
  | c :: l => if c = 34 ∨ c = 92 then 92 :: c :: litGo l else c :: litGo l
theorem litGo_append : ∀ a b : List UInt8, litGo (a ++ b) = litGo a ++ litGo b
  | [], _ => rfl
  | c :: a, b => by
    have ih := litGo_append a b
    simp only [List.cons_append, litGo]
    split <;> simp [ih]
theorem litGo_length : ∀ a : List UInt8, (litGo a).length ≤ 2 * a.length
  | [] => by simp [litGo]
  | c :: a => by
    have ih := litGo_length a
    simp only [litGo]
    split <;> simp <;> omega
def litBytes (l : List UInt8) : List UInt8 := 34 :: (litGo l ++ [34])
def name_literal.f (a0 : ByteArray) : Option ByteArray := if a0.size ≤ 1099511627776 then some ⟨(litBytes a0.data.toList).toArray⟩ else none
theorem bt_get (s : ByteArray) (i : Nat) (h : i < s.data.toList.length) : bt s (i : Int) = (s.data.toList[i].toNat : Int) := by
  have h' : i < s.size := by simpa using h
  unfold bt
  rw [dif_pos (by simpa using h')]
  simp
  rfl
theorem bt_nat (s : ByteArray) (i : Nat) : ∀ h : i < s.size, ((s[i]'h).toNat : Int) = bt s (i : Int) := fun h => by
  have := bt_at s (i : Int) (by simpa using h)
  simpa using this
theorem u8_eq_of_bt {c : UInt8} {k : Nat} (hk : k < 256) (h : (c.toNat : Int) = (k : Int)) : c = UInt8.ofNat k := by
  apply UInt8.toNat_inj.1
  have : c.toNat = k := by omega
  rw [this]
  exact (UInt8.toNat_ofNat_of_lt hk).symm
set_option maxHeartbeats 1600000 in
set_option maxRecDepth 100000 in
theorem name_literal.calls (a0 : ByteArray) (r : ByteArray) (w : World) (h : name_literal.f a0 = some r) :
    Calls Tryz.prog 194 #[.string a0] w fun e w' => e = .returned (.string r) ∧ Below w.heap.size w w' := by
  unfold name_literal.f at h
  by_cases hs : a0.size ≤ 1099511627776
  case neg => rw [if_neg hs] at h; cases h
  rw [if_pos hs] at h
  have HR := Aside0.mk (Option.some.inj h)
  clear h
  go_enter Tryz.func194, Tryz.ntmps194
  go_wp2_with fail
  refine (Bld.Builder_WriteByte w.heap.size w.heap.size [] 34 _ (Lib.fresh_isBuilder 75 5 w) (by simp) (by simp)).mono ?_
  rintro e w1 ⟨rfl, hb1, hw1⟩
  have HI1 : Aside0 (Lib.IsBuilder 75 5 w.heap.size w.heap.size (Lib.byteCells (34 :: litGo (a0.data.toList.take 0))) w1) := ⟨.inr hb1⟩
  have HB1 : Aside0 (Below w.heap.size w w1) := ⟨((Below.refl _ _).alloc (Nat.le_refl _) _).trans hw1⟩
  clear hb1 hw1
  go_wp2
  go_loopg [4, 8] a0.size (fun kq v4 v8 wr => ∃ i : Nat, i ≤ a0.size ∧ v8 = .int .i64 i ∧ Aside0 (kq + i = a0.size) ∧ Aside0 (Lib.IsBuilder 75 5 w.heap.size w.heap.size (Lib.byteCells (34 :: litGo (a0.data.toList.take i))) wr) ∧ Aside0 (Below w.heap.size w wr))
  case atStart => exact ⟨0, Nat.zero_le _, rfl, ⟨by simp⟩, HI1, HB1⟩
  case round =>
    clear HI1 HB1
    obtain ⟨i, hi, rfl, HK, HI, HB⟩ := hrel
    have hlen : (a0.data.toList.take i).length ≤ 1099511627776 := by rw [List.length_take]; omega
    have hgl := litGo_length (a0.data.toList.take i)
    by_cases hlt : i < a0.size
    · have hl' : i < a0.data.toList.length := by simpa using hlt
      have p5 := eq_true (show 0 ≤ (i : Int) by omega)
      have q5 := eq_true (show (i : Int) < (a0.size : Int) by omega)
      have hx5 := bt_nat a0 i
      obtain ⟨c, HT, HG⟩ : ∃ c : UInt8, Aside0 (a0.data.toList.take (i + 1) = a0.data.toList.take i ++ [c]) ∧ Aside0 (bt a0 (i : Int) = (c.toNat : Int)) := ⟨_, ⟨List.take_succ_eq_append_getElem hl'⟩, ⟨bt_get a0 i hl'⟩⟩
      clear hl'
      have hbd : 0 ≤ bt a0 (i : Int) ∧ bt a0 (i : Int) ≤ 255 := bt_range a0 i
      have HL : Aside0 ((Lib.byteCells (34 :: litGo (a0.data.toList.take i))).length ≤ 2 * 1099511627776 + 1) := ⟨by rw [Lib.byteCells_length, List.length_cons]; omega⟩
      clear hlen hgl
      by_cases hq : bt a0 (i : Int) = 34 ∨ bt a0 (i : Int) = 92
      · have HE : Aside0 (Lib.byteCells (34 :: litGo (a0.data.toList.take (i + 1))) = Lib.byteCells (34 :: litGo (a0.data.toList.take i)) ++ [.int .u8 92] ++ [.int .u8 (bt a0 (i : Int))]) := ⟨by
          have hc : c = 34 ∨ c = 92 := by
            rcases hq with h | h
            · exact .inl (u8_eq_of_bt (k := 34) (by decide) (by rw [← HG.out, h]; rfl))
            · exact .inr (u8_eq_of_bt (k := 92) (by decide) (by rw [← HG.out, h]; rfl))
          rw [HT.out, litGo_append, HG.out]
          simp only [litGo, if_pos hc, Lib.byteCells, List.map_cons, List.map_append, List.map_nil, List.cons_append, List.append_assoc]
          rfl⟩
        have HQ : Aside0 (((bt a0 (i : Int) == 34) = true) ∨ ((bt a0 (i : Int) == 34) = false ∧ (bt a0 (i : Int) == 92) = true)) := ⟨by
          by_cases h : bt a0 (i : Int) = 34
          · exact .inl (by simp [h])
          · exact .inr ⟨by simp [h], by rcases hq with h' | h'; exact absurd h' h; simp [h']⟩⟩
        clear hq
        rcases HQ.out with t1 | ⟨t1, t2⟩
        all_goals
          clear HQ
          go_wp2_with fail
          refine (Bld.Builder_WriteByte w.heap.size w.heap.size _ 92 _ HI.out (by have := HL.out; omega) HB.out.size).mono ?_
          rintro e w1 ⟨rfl, hb1, hw1⟩
          have HI1 := Aside0.mk hb1
          have HB1 := Aside0.mk (HB.out.trans hw1)
          clear hb1 hw1
          go_wp2_with fail
          refine (Bld.Builder_WriteByte w.heap.size w.heap.size _ (bt a0 (i : Int)) _ (.inr HI1.out) (by have := HL.out; rw [List.length_append]; simp; omega) HB1.out.size).mono ?_
          rintro e w2 ⟨rfl, hb2, hw2⟩
          rw [← HE.out] at hb2
          have HI2 := Aside0.mk hb2
          have HB2 := Aside0.mk (HB1.out.trans hw2)
          clear hb2 hw2
          go_wp2
          obtain ⟨k, rfl⟩ : ∃ k, gk = k + 1 := ⟨gk - 1, by have := HK.out; omega⟩
          go_roundg k
          case measure => omega
          case rel => exact ⟨i + 1, by omega, by go_num, ⟨by have := HK.out; omega⟩, ⟨.inr HI2.out⟩, HB2⟩
      · have HE : Aside0 (Lib.byteCells (34 :: litGo (a0.data.toList.take (i + 1))) = Lib.byteCells (34 :: litGo (a0.data.toList.take i)) ++ [.int .u8 (bt a0 (i : Int))]) := ⟨by
          have hc : ¬ (c = 34 ∨ c = 92) := by
            rintro (h | h)
            · exact hq (.inl (by rw [HG.out, h]; rfl))
            · exact hq (.inr (by rw [HG.out, h]; rfl))
          rw [HT.out, litGo_append, HG.out]
          simp only [litGo, if_neg hc, Lib.byteCells, List.map_cons, List.map_append, List.map_nil, List.cons_append]⟩
        have t1 : (bt a0 (i : Int) == 34) = false := by simp; exact fun h => hq (.inl h)
        have t2 : (bt a0 (i : Int) == 92) = false := by simp; exact fun h => hq (.inr h)
        clear hq
        go_wp2_with fail
        refine (Bld.Builder_WriteByte w.heap.size w.heap.size _ (bt a0 (i : Int)) _ HI.out (by have := HL.out; omega) HB.out.size).mono ?_
        rintro e w2 ⟨rfl, hb2, hw2⟩
        rw [← HE.out] at hb2
        have HI2 := Aside0.mk hb2
        have HB2 := Aside0.mk (HB.out.trans hw2)
        clear hb2 hw2
        go_wp2
        obtain ⟨k, rfl⟩ : ∃ k, gk = k + 1 := ⟨gk - 1, by have := HK.out; omega⟩
        go_roundg k
        case measure => omega
        case rel => exact ⟨i + 1, by omega, by go_num, ⟨by have := HK.out; omega⟩, ⟨.inr HI2.out⟩, HB2⟩
    · have HT : Aside0 (a0.data.toList.take i = a0.data.toList) := ⟨List.take_of_length_le (by simp; omega)⟩
      rw [HT.out] at HI hgl
      have HL : Aside0 ((Lib.byteCells (34 :: litGo a0.data.toList)).length ≤ 2 * 1099511627776 + 1) := ⟨by rw [Lib.byteCells_length, List.length_cons]; have : a0.data.toList.length = a0.size := (by simp); omega⟩
      clear hlen hgl
      go_wp2_with fail
      refine (Bld.Builder_WriteByte w.heap.size w.heap.size _ 34 _ HI.out (by have := HL.out; omega) HB.out.size).mono ?_
      rintro e w1 ⟨rfl, hb1, hw1⟩
      have HE : Lib.byteCells (34 :: litGo a0.data.toList) ++ [.int .u8 34] = Lib.byteCells (litBytes a0.data.toList) := by
        simp only [litBytes, Lib.byteCells, List.map_cons, List.map_append, List.map_nil, List.cons_append]
        rfl
      rw [HE] at hb1
      clear HE
      have HI1 := Aside0.mk hb1
      have HB1 := Aside0.mk (HB.out.trans hw1)
      clear hb1 hw1
      go_wp2_with fail
      refine (Bld.Builder_String_any w.heap.size w.heap.size (litBytes a0.data.toList) _ (.inr HI1.out) HB1.out.size).mono ?_
      rintro e w2 ⟨rfl, hw2⟩
      go_wp2
      go_ret
      exact ⟨by rw [← HR.out]; rfl, HB1.out.trans hw2⟩
end Go.Proofs.YtghjhampigbbkaaGreatDoor.PA
end
section
namespace Go.Proofs.YtghjhampigbbkaaGreatDoor.PA
open Go.RowKit Go.Proofs.YtghjhampigbbkaaGreatDoorW.PrintWords Go.Proofs.YtghjhampigbbkaaGreatDoorW.PrintLast Go.Proofs.YtghjhampigbbkaaGreatDoorW.PrintMore
def readLit : List UInt8 → List UInt8 → List UInt8 × Int × List UInt8
  | _, [] => ([], 4, [])
  | acc, c :: l =>
    if c = 34 then (acc, 0, l)
    else if c = 92 then
      match l with
      | [] => ([], 4, [])
      | d :: m => if d = 34 ∨ d = 92 then readLit (acc ++ [d]) m else ([], 3, m)
    else readLit (acc ++ [c]) l
structure LitInv (w0 w : World) (g : Nat) (s : ByteArray) (i : Nat) (acc : List UInt8) (W : World) : Prop where
  st : IsS214 w0 W g s (i : Int)
  bl : Lib.IsBuilder 75 5 w.heap.size w.heap.size (Lib.byteCells acc) W
  b0 : Below w0.heap.size w0 W
  kp : KeepBut w W g none
  lt : g < w.heap.size
  le : w0.heap.size ≤ w.heap.size
theorem LitInv.call {w0 w : World} {g : Nat} {s : ByteArray} {i j : Nat} {acc : List UInt8} {W W' : World} (h : LitInv w0 w g s i acc W)
    (h1 : IsS214 w0 W' g s (j : Int)) (h2 : Below w0.heap.size w0 W') (h3 : KeepBut W W' g none) : LitInv w0 w g s j acc W' :=
  ⟨h1, bld_keep h.bl (keep_above h3 h.lt), h2, keep_trans' h.kp h3, h.lt, h.le⟩
theorem LitInv.write {w0 w : World} {g : Nat} {s : ByteArray} {i : Nat} {acc acc' : List UInt8} {p : Value} {W W' : World} (h : LitInv w0 w g s i acc W)
    (hp : p = .pointer (some ⟨w.heap.size, 0, none⟩)) (h1 : Lib.BuilderAt 75 5 w.heap.size w.heap.size p (Lib.byteCells acc') W') (h2 : Below w.heap.size W W') : LitInv w0 w g s i acc' W' := by
  subst hp
  exact ⟨⟨heap_keep h2 h.lt h.st.1, h.st.2⟩, .inr h1, h.b0.trans (h2.mono h.le), keep_below_trans h.kp h2, h.lt, h.le⟩
theorem LitInv.end_ {w0 w : World} {g : Nat} {s : ByteArray} {i : Nat} {acc : List UInt8} {W W' : World} (h : LitInv w0 w g s i acc W)
    (h2 : Below w.heap.size W W') : IsS214 w0 W' g s (i : Int) ∧ Below w0.heap.size w0 W' ∧ KeepBut w W' g none :=
  ⟨⟨heap_keep h2 h.lt h.st.1, h.st.2⟩, h.b0.trans (h2.mono h.le), keep_below_trans h.kp h2⟩
theorem next_at (s : ByteArray) (i : Nat) (h : i < s.size) (hs : s.size ≤ 1099511627776) : name_reader_next.f s (i : Int) = some (bt s (i : Int), s, ((i + 1 : Nat) : Int)) := by
  unfold name_reader_next.f
  have e1 : wrap64 ((i : Int) + 1) = (i : Int) + 1 := by unfold wrap64; omega
  have e2 : wrap64 ((i : Int) + 1 - 1) = (i : Int) := by unfold wrap64; omega
  rw [e1, e2, if_pos (by omega), if_pos (by omega)]
  rfl
theorem more_at (s : ByteArray) (i : Nat) : name_reader_more.f s (i : Int) = some (decide ((i : Int) < (s.size : Int)), s, (i : Int)) := rfl
set_option maxHeartbeats 3200000 in
set_option maxRecDepth 100000 in
theorem reader_literal (g : Nat) (s : ByteArray) (i0 : Nat) (hi0 : i0 ≤ s.size) (hs : s.size ≤ 1099511627776) (w0 w : World) (hI : IsS214 w0 w g s (i0 : Int)) (hB : Below w0.heap.size w0 w) :
    Calls Tryz.prog 207 #[.pointer (some ⟨g, 0, none⟩)] w fun e w' =>
      e = .returned (.tuple #[.string ⟨(readLit [] (s.data.toList.drop i0)).1.toArray⟩, .int .i64 (readLit [] (s.data.toList.drop i0)).2.1]) ∧
      IsS214 w0 w' g s ((s.size - (readLit [] (s.data.toList.drop i0)).2.2.length : Nat) : Int) ∧ Below w0.heap.size w0 w' ∧ KeepBut w w' g none := by
  have HS : Aside0 (LitInv w0 w g s i0 [] (w.alloc (.cells #[.pointer none, .slice none 0 0] 75))) := ⟨hI.alloc _, Lib.fresh_isBuilder 75 5 w, below_alloc hB _ , keep_below_trans (KeepBut.refl w g none) (below_alloc (Below.refl _ _) _), hI.lt, hB.size⟩
  clear hI hB
  go_enter Tryz.func207, Tryz.ntmps207
  go_wp2_with fail
  go_loopg [5] (s.size - i0) (fun kq v5 wr => ∃ (i : Nat) (acc : List UInt8), i ≤ s.size ∧ Aside0 (kq + i = s.size) ∧ Aside0 (acc.length ≤ i) ∧ Aside0 (readLit acc (s.data.toList.drop i) = readLit [] (s.data.toList.drop i0)) ∧ Aside0 (LitInv w0 w g s i acc wr))
  case atStart => exact ⟨i0, [], hi0, ⟨by omega⟩, ⟨Nat.zero_le _⟩, ⟨rfl⟩, HS⟩
  case round =>
    clear HS
    obtain ⟨i, acc, hi, HK, HA, HR, HV⟩ := hrel
    go_wp2_with fail
    refine (name_reader_more.calls g s (i : Int) (decide ((i : Int) < (s.size : Int))) s (i : Int) w0 _ HV.out.st HV.out.b0 (more_at s i)).mono ?_
    rintro e w1 ⟨rfl, h1, h2, h3⟩
    have HV1 := Aside0.mk (HV.out.call h1 h2 h3)
    clear h1 h2 h3 HV
    by_cases hlt : i < s.size
    · obtain ⟨c, HD, HC⟩ : ∃ c : UInt8, Aside0 (s.data.toList.drop i = c :: s.data.toList.drop (i + 1)) ∧ Aside0 (bt s (i : Int) = (c.toNat : Int)) := ⟨_, ⟨List.drop_eq_getElem_cons (by simpa using hlt)⟩, ⟨bt_get s i (by simpa using hlt)⟩⟩
      go_wp2_with fail
      refine (name_reader_next.calls g s (i : Int) (bt s (i : Int)) s ((i + 1 : Nat) : Int) w0 _ HV1.out.st HV1.out.b0 (next_at s i hlt hs)).mono ?_
      rintro e w2 ⟨rfl, h1, h2, h3⟩
      have HV2 := Aside0.mk (HV1.out.call h1 h2 h3)
      clear h1 h2 h3 HV1
      have hbd := bt_range s (i : Int)
      rw [HD.out] at HR
      generalize bt s (i : Int) = ci at *
      by_cases hq : ci = 34
      · have hc : c = 34 := u8_eq_of_bt (k := 34) (by decide) (by rw [← HC.out, hq]; rfl)
        have HE : Aside0 (readLit [] (s.data.toList.drop i0) = (acc, 0, s.data.toList.drop (i + 1))) := ⟨by rw [← HR.out, readLit.eq_def]; simp only [hc, if_true]⟩
        have t1 : (ci == 34) = true := by simp [hq]
        clear hq hc
        go_wp2_with fail
        refine (Bld.Builder_String_any w.heap.size w.heap.size acc _ HV2.out.bl HV2.out.kp.1).mono ?_
        rintro e w3 ⟨rfl, h4⟩
        have HZ := Aside0.mk (HV2.out.end_ h4)
        clear h4
        go_wp2
        go_ret2
        rw [HE.out]
        have hl : s.size - (s.data.toList.drop (i + 1)).length = i + 1 := by rw [List.length_drop]; have : s.data.toList.length = s.size := (by simp); omega
        refine ⟨rfl, ?_, HZ.out.2.1, HZ.out.2.2⟩
        rw [hl]
        exact HZ.out.1
      · have hc : ¬ c = 34 := fun h => hq (by rw [HC.out, h]; rfl)
        have t1 : (ci == 34) = false := by simp [hq]
        have HL : Aside0 ((Lib.byteCells acc).length ≤ 1099511627776) := ⟨by rw [Lib.byteCells_length]; have := HA.out; omega⟩
        by_cases hb : ci = 92
        · have hc2 : c = 92 := u8_eq_of_bt (k := 92) (by decide) (by rw [← HC.out, hb]; rfl)
          have t2 : (ci == 92) = true := by simp [hb]
          have HR2 : Aside0 (readLit [] (s.data.toList.drop i0) = (match s.data.toList.drop (i + 1) with | [] => ([], 4, []) | d :: m => if d = 34 ∨ d = 92 then readLit (acc ++ [d]) m else ([], 3, m))) := ⟨by rw [← HR.out, readLit.eq_def]; simp only [hc2]; rfl⟩
          clear hq hb hc hc2 HR
          obtain ⟨B2, HB2, HB3⟩ : ∃ B2 : Bool, Aside0 (name_reader_more.f s ((i + 1 : Nat) : Int) = some (B2, s, ((i + 1 : Nat) : Int))) ∧ Aside0 (B2 = decide (i + 1 < s.size)) := ⟨decide (i + 1 < s.size), ⟨by rw [more_at]; simp only [Int.ofNat_lt]⟩, ⟨rfl⟩⟩
          go_wp2_with fail
          refine (name_reader_more.calls g s ((i + 1 : Nat) : Int) B2 s ((i + 1 : Nat) : Int) w0 _ HV2.out.st HV2.out.b0 HB2.out).mono ?_
          rintro e w3 ⟨rfl, h1, h2, h3⟩
          have HV3 := Aside0.mk (HV2.out.call h1 h2 h3)
          clear h1 h2 h3 HV2
          by_cases hl2 : i + 1 < s.size
          · obtain rfl : B2 = true := by rw [HB3.out]; exact decide_eq_true hl2
            obtain ⟨d, HD2, HC2⟩ : ∃ d : UInt8, Aside0 (s.data.toList.drop (i + 1) = d :: s.data.toList.drop (i + 2)) ∧ Aside0 (bt s ((i + 1 : Nat) : Int) = (d.toNat : Int)) := ⟨_, ⟨List.drop_eq_getElem_cons (by simpa using hl2)⟩, ⟨bt_get s (i + 1) (by simpa using hl2)⟩⟩
            rw [HD2.out] at HR2
            go_wp2_with fail
            refine (name_reader_next.calls g s ((i + 1 : Nat) : Int) (bt s ((i + 1 : Nat) : Int)) s ((i + 1 + 1 : Nat) : Int) w0 _ HV3.out.st HV3.out.b0 (next_at s (i + 1) hl2 hs)).mono ?_
            rintro e w4 ⟨rfl, h1, h2, h3⟩
            have HV4 := Aside0.mk (HV3.out.call h1 h2 h3)
            clear h1 h2 h3 HV3
            have hbd2 := bt_range s ((i + 1 : Nat) : Int)
            generalize bt s ((i + 1 : Nat) : Int) = di at *
            by_cases hok : di = 34 ∨ di = 92
            · have hd : d = 34 ∨ d = 92 := by
                rcases hok with h | h
                · exact .inl (u8_eq_of_bt (k := 34) (by decide) (by rw [← HC2.out, h]; rfl))
                · exact .inr (u8_eq_of_bt (k := 92) (by decide) (by rw [← HC2.out, h]; rfl))
              have HR3 : Aside0 (readLit (acc ++ [d]) (s.data.toList.drop (i + 2)) = readLit [] (s.data.toList.drop i0)) := ⟨by rw [HR2.out]; simp only [if_pos hd]⟩
              have HE : Aside0 (Lib.byteCells acc ++ [.int .u8 di] = Lib.byteCells (acc ++ [d])) := ⟨by rw [HC2.out]; simp [Lib.byteCells]⟩
              have HQ : Aside0 (((di != 34) = false) ∨ ((di != 34) = true ∧ (di != 92) = false)) := ⟨by
                by_cases h : di = 34
                · exact .inl (by simp [h])
                · exact .inr ⟨by simp [h], by rcases hok with h' | h'; exact absurd h' h; simp [h']⟩⟩
              clear hok hd HR2
              rcases HQ.out with t3 | ⟨t3, t4⟩
              all_goals
                clear HQ
                go_wp2_with fail
                refine (Bld.Builder_WriteByte w.heap.size w.heap.size _ di _ HV4.out.bl (by have := HL.out; omega) HV4.out.kp.1).mono ?_
                rintro e w5 ⟨rfl, h1, h2⟩
                rw [HE.out] at h1
                have HV5 := Aside0.mk (HV4.out.write rfl h1 h2)
                clear h1 h2 HV4
                go_wp2
                obtain ⟨k, rfl⟩ : ∃ k, gk = k + 1 := ⟨gk - 1, by have := HK.out; omega⟩
                obtain ⟨k, rfl⟩ : ∃ k', k = k' + 1 := ⟨k - 1, by have := HK.out; omega⟩
                go_roundg k
                case measure => omega
                case rel => exact ⟨i + 1 + 1, acc ++ [d], by omega, ⟨by have := HK.out; omega⟩, ⟨by rw [List.length_append]; have := HA.out; simp; omega⟩, HR3, HV5⟩
            · have hd : ¬ (d = 34 ∨ d = 92) := by
                rintro (h | h)
                · exact hok (.inl (by rw [HC2.out, h]; rfl))
                · exact hok (.inr (by rw [HC2.out, h]; rfl))
              have HE : Aside0 (readLit [] (s.data.toList.drop i0) = ([], 3, s.data.toList.drop (i + 2))) := ⟨by rw [HR2.out]; simp only [if_neg hd]⟩
              have t3 : (di != 34) = true := by simp; exact fun h => hok (.inl h)
              have t4 : (di != 92) = true := by simp; exact fun h => hok (.inr h)
              clear hok hd HR2
              go_wp2
              go_ret2
              rw [HE.out]
              have hl : s.size - (s.data.toList.drop (i + 2)).length = i + 1 + 1 := by rw [List.length_drop]; have : s.data.toList.length = s.size := (by simp); omega
              refine ⟨rfl, ?_, HV4.out.b0, HV4.out.kp⟩
              rw [hl]
              exact HV4.out.st
          · obtain rfl : B2 = false := by rw [HB3.out]; exact decide_eq_false hl2
            have HE : Aside0 (readLit [] (s.data.toList.drop i0) = ([], 4, [])) := ⟨by rw [HR2.out, List.drop_of_length_le (by simp; omega)]⟩
            clear HR2
            go_wp2
            go_ret2
            rw [HE.out]
            have hl : s.size - ([] : List UInt8).length = i + 1 := by simp; omega
            refine ⟨rfl, ?_, HV3.out.b0, HV3.out.kp⟩
            rw [hl]
            exact HV3.out.st
        · have hc2 : ¬ c = 92 := fun h => hb (by rw [HC.out, h]; rfl)
          have t2 : (ci == 92) = false := by simp [hb]
          have HR3 : Aside0 (readLit (acc ++ [c]) (s.data.toList.drop (i + 1)) = readLit [] (s.data.toList.drop i0)) := ⟨by rw [← HR.out, readLit.eq_def acc (_ :: _)]; simp only [if_neg hc, if_neg hc2]⟩
          have HE : Aside0 (Lib.byteCells acc ++ [.int .u8 ci] = Lib.byteCells (acc ++ [c])) := ⟨by rw [HC.out]; simp [Lib.byteCells]⟩
          clear hq hb hc hc2 HR
          go_wp2_with fail
          refine (Bld.Builder_WriteByte w.heap.size w.heap.size _ ci _ HV2.out.bl (by have := HL.out; omega) HV2.out.kp.1).mono ?_
          rintro e w5 ⟨rfl, h1, h2⟩
          rw [HE.out] at h1
          have HV5 := Aside0.mk (HV2.out.write rfl h1 h2)
          clear h1 h2 HV2
          go_wp2
          obtain ⟨k, rfl⟩ : ∃ k, gk = k + 1 := ⟨gk - 1, by have := HK.out; omega⟩
          go_roundg k
          case measure => omega
          case rel => exact ⟨i + 1, acc ++ [c], by omega, ⟨by have := HK.out; omega⟩, ⟨by rw [List.length_append]; have := HA.out; simp; omega⟩, HR3, HV5⟩
    · have HE : Aside0 (readLit [] (s.data.toList.drop i0) = ([], 4, [])) := ⟨by rw [← HR.out, List.drop_of_length_le (by simp; omega)]; rfl⟩
      clear HR
      go_wp2
      go_ret2
      rw [HE.out]
      have hl : s.size - ([] : List UInt8).length = i := by simp; omega
      refine ⟨rfl, ?_, HV1.out.b0, HV1.out.kp⟩
      rw [hl]
      exact HV1.out.st
def prB (c : UInt8) : Bool := decide (32 ≤ c.toNat) && decide (c.toNat ≤ 126)
theorem wrap_up {i : Nat} {n : Nat} (h : i < n) (hn : n ≤ 9223372036854775807) : wrap64 ((i : Int) + 1) = ((i + 1 : Nat) : Int) := by
  unfold wrap64; omega
theorem printable_l0 (s : ByteArray) (hs : s.size ≤ 9223372036854775807) : ∀ (d k i : Nat), i + d = s.size → d < k → name_printable.l0 k s (s.size : Int) (i : Int) = some ((s.data.toList.drop i).all prB) := by
  intro d
  induction d with
  | zero =>
    intro k i h hk
    obtain ⟨k, rfl⟩ : ∃ m, k = m + 1 := ⟨k - 1, by omega⟩
    simp only [name_printable.l0]
    rw [if_neg (by omega), List.drop_of_length_le (by simp; omega)]
    rfl
  | succ d ih =>
    intro k i h hk
    obtain ⟨k, rfl⟩ : ∃ m, k = m + 1 := ⟨k - 1, by omega⟩
    have hl : i < s.data.toList.length := by simp; omega
    have hb := bt_get s i hl
    have hd : s.data.toList.drop i = s.data.toList[i] :: s.data.toList.drop (i + 1) := List.drop_eq_getElem_cons hl
    rw [hd, List.all_cons]
    simp only [name_printable.l0]
    rw [if_pos (by omega), if_pos (by omega), if_pos (by omega), hb, wrap_up (n := s.size) (by omega) hs, ih k (i + 1) (by omega) (by omega)]
    generalize s.data.toList[i] = c
    unfold prB
    by_cases h1 : (c.toNat : Int) < 32
    · rw [if_pos h1, decide_eq_false (show ¬ 32 ≤ c.toNat by omega)]; rfl
    · rw [if_neg h1, decide_eq_true (show 32 ≤ c.toNat by omega)]
      by_cases h2 : (c.toNat : Int) > 126
      · rw [if_pos h2, decide_eq_false (show ¬ c.toNat ≤ 126 by omega)]; rfl
      · rw [if_neg h2, decide_eq_true (show c.toNat ≤ 126 by omega)]; simp
theorem printable_f (s : ByteArray) (hs : s.size ≤ 9223372036854775807) (k : Nat) (hk : s.size < k) : name_printable.f k s = some (s.data.toList.all prB) := by
  unfold name_printable.f
  exact printable_l0 s hs s.size k 0 (by omega) hk
def unqL (l : List UInt8) : List UInt8 × Int :=
  match l with
  | [] => ([], 3)
  | c :: m =>
    if c = 34 then
      if (c :: m).all prB then
        if (readLit [] m).2.1 = 0 then
          if (readLit [] m).2.2 = [] then
            if (readLit [] m).1.length > 16384 then ([], 5) else ((readLit [] m).1, 0)
          else ([], 3)
        else ([], (readLit [] m).2.1)
      else ([], 3)
    else ([], 3)
def unquoteF (s : ByteArray) : ByteArray × Int := if s.size > 32770 then (⟨#[]⟩, 5) else (⟨(unqL s.data.toList).1.toArray⟩, (unqL s.data.toList).2)
def name_Unquote.f (a0 : ByteArray) : Option (ByteArray × Int) := some (unquoteF a0)
def quoteFirst (l : List UInt8) : Bool := match l with | [] => false | c :: _ => decide (c = 34)
theorem hasprefix_f (s : ByteArray) : strings_HasPrefix.f s (⟨#[34]⟩ : ByteArray) = some (quoteFirst s.data.toList) := by
  unfold strings_HasPrefix.f stringslite_HasPrefix.f
  have h1 : ((⟨#[34]⟩ : ByteArray).size : Int) = 1 := rfl
  have h2 : (⟨#[34]⟩ : ByteArray).toList = [34] := by rw [ByteArray.toList_eq]
  rw [h1, h2]
  have hl : s.data.toList.length = s.size := by simp
  cases hs : s.data.toList with
  | nil =>
    rw [hs] at hl
    rw [if_neg (by simp at hl; omega)]
    rfl
  | cons c m =>
    rw [hs] at hl
    rw [if_pos (by simp at hl; omega), if_pos (by omega), if_pos (by simp at hl; omega)]
    have he : (s.extract 0 (1 : Int).toNat).toList = [c] := by
      rw [ByteArray.toList_eq, Lib.extract_data, hs]
      rfl
    rw [he]
    simp only [Option.bind_some, quoteFirst, Option.some.injEq]
    rw [Bool.eq_iff_iff]
    simp
theorem unqL_no {l : List UInt8} (h : quoteFirst l = false) : unqL l = ([], 3) := by
  cases l with
  | nil => rfl
  | cons c m => exact if_neg (by simpa [quoteFirst] using h)
theorem readLit_rest : ∀ (n : Nat) (acc l : List UInt8), l.length ≤ n → (readLit acc l).2.2.length ≤ l.length := by
  intro n
  induction n with
  | zero =>
    intro acc l h
    have : l = [] := List.length_eq_zero_iff.1 (by omega)
    subst this
    simp [readLit]
  | succ n ih =>
    intro acc l h
    cases l with
    | nil => simp [readLit]
    | cons c l =>
      simp only [List.length_cons] at h
      rw [readLit.eq_def]
      dsimp only
      split
      · simp
      · split
        · cases l with
          | nil => simp
          | cons d m =>
            simp only [List.length_cons] at h
            dsimp only
            split
            · have := ih (acc ++ [d]) m (by omega)
              simp only [List.length_cons]
              omega
            · simp only [List.length_cons]
              omega
        · have := ih (acc ++ [c]) l (by omega)
          simp only [List.length_cons]
          omega
def unqR (r : List UInt8 × Int × List UInt8) : List UInt8 × Int := if r.2.1 = 0 then if r.2.2 = [] then if r.1.length > 16384 then ([], 5) else (r.1, 0) else ([], 3) else ([], r.2.1)
theorem unqL_q (m : List UInt8) : unqL (34 :: m) = if (34 :: m).all prB = true then unqR (readLit [] m) else ([], 3) := by
  unfold unqL unqR
  simp only [if_true]
theorem quoteFirst_yes {l : List UInt8} (h : quoteFirst l = true) : ∃ m, l = 34 :: m := by
  cases l with
  | nil => cases h
  | cons c m => exact ⟨m, by rw [show c = 34 by simpa [quoteFirst] using h]⟩
set_option maxHeartbeats 1600000 in
set_option maxRecDepth 100000 in
theorem name_Unquote.calls (a0 : ByteArray) (r1 : ByteArray) (r2 : Int) (w : World) (h : name_Unquote.f a0 = some (r1, r2)) :
    Calls Tryz.prog 168 #[.string a0] w fun e w' => e = .returned (.tuple #[.string r1, .int .i64 r2]) ∧ Below w.heap.size w w' := by
  have HU := Aside0.mk (Option.some.inj h)
  clear h
  unfold unquoteF at HU
  by_cases hs : a0.size > 32770
  · rw [if_pos hs] at HU
    go_enter Tryz.func168, Tryz.ntmps168
    go_wp2
    go_ret2
    have := HU.out
    cases this
    exact ⟨rfl, Below.refl _ _⟩
  · rw [if_neg hs] at HU
    have HP := Aside0.mk (hasprefix_f a0)
    have HN := Aside0.mk (printable_f a0 (by omega) (a0.size + 1) (by omega))
    generalize hp : a0.data.toList.all prB = pb at HN
    have HPB := Aside0.mk hp
    clear hp
    generalize hq : quoteFirst a0.data.toList = q at HP
    have HQ := Aside0.mk hq
    clear hq
    go_enter Tryz.func168, Tryz.ntmps168
    go_wp2_with fail
    refine (strings_HasPrefix.calls a0 _ q _ HP.out).mono ?_
    rintro e w1 ⟨rfl, ⟨nd, rfl⟩⟩
    cases q
    · rw [unqL_no HQ.out] at HU
      go_wp2
      go_ret2
      have := HU.out
      cases this
      exact ⟨rfl, Drawn0.below ⟨_, rfl⟩⟩
    · obtain ⟨m, hm⟩ := quoteFirst_yes HQ.out
      rw [hm] at HU HPB
      have HM := Aside0.mk hm
      clear hm HQ
      go_wp2_with fail
      refine (name_printable.calls (a0.size + 1) a0 pb _ HN.out).mono ?_
      rintro e w2 ⟨rfl, ⟨nd2, rfl⟩⟩
      rw [unqL_q, HPB.out] at HU
      cases pb
      · simp only [Bool.false_eq_true, if_false] at HU
        go_wp2
        go_ret2
        have := HU.out
        cases this
        exact ⟨rfl, Drawn0.below ⟨_, rfl⟩⟩
      · simp only [if_true] at HU
        have HD : Aside0 (a0.data.toList.drop 1 = m) := ⟨by rw [HM.out]; rfl⟩
        have HW : Aside0 (Below w.heap.size w (w.drewN (nd + nd2))) := ⟨Drawn0.below ⟨_, rfl⟩⟩
        have hz : a0.data.toList.length = a0.size := by simp
        rw [HM.out] at hz
        simp only [List.length_cons] at hz
        have HZ := Aside0.mk hz
        clear hz
        go_wp2_with fail
        refine (reader_literal w.heap.size a0 1 (by have := HZ.out; omega) (by omega) w _ (IsS214.new w (w.drewN (nd + nd2)) a0 1 HW.out) (below_alloc HW.out _)).mono ?_
        rintro e w3 ⟨rfl, h1, h2, h3⟩
        rw [HD.out] at h1 ⊢
        have HR := Aside0.mk (Prod.ext_iff.1 HU.out)
        clear HU
        have HT : Aside0 ((readLit [] m).2.2.length ≤ m.length) := ⟨readLit_rest m.length [] m (Nat.le_refl _)⟩
        generalize readLit [] m = rl at *
        obtain ⟨tt, er, rest⟩ := rl
        have H1 := Aside0.mk h1
        have HB3 := Aside0.mk h2
        clear h1 h2 h3
        by_cases he : er = 0
        · have t1 : (er != 0) = false := by simp [he]
          clear he
          have hi : ((a0.size - rest.length : Nat) : Int) < (a0.size : Int) ↔ rest ≠ [] := by
            have h1 := HT.out
            have h2 := HZ.out
            have h3 : rest ≠ [] ↔ 0 < rest.length := by rw [List.length_pos_iff]
            rw [h3]
            dsimp only at h1
            omega
          have HI := Aside0.mk hi
          clear hi
          go_wp2_with fail
          refine (name_reader_more.calls w.heap.size a0 _ (decide (rest ≠ [])) a0 _ w _ H1.out HB3.out (by rw [more_at, decide_eq_decide.2 HI.out])).mono ?_
          rintro e w4 ⟨rfl, h1, h2, h3⟩
          have HB4 := Aside0.mk h2
          clear h1 h2 h3
          by_cases hr : rest = []
          · rw [show decide (rest ≠ []) = false by simp [hr]]
            by_cases hl : tt.length > 16384
            · have HE : Aside0 (unqR (tt, er, rest) = ([], 5)) := ⟨by unfold unqR; simp only; rw [if_pos (by simpa using t1), if_pos hr, if_pos hl]⟩
              have t2 : decide (16384 < (tt.length : Int)) = true := decide_eq_true (by omega)
              have t3 : decide (16384 < tt.length) = true := decide_eq_true (by omega)
              clear hr hl
              go_wp2
              go_ret2
              have := HR.out
              rw [HE.out] at this
              obtain ⟨rfl, rfl⟩ := this
              exact ⟨rfl, HB4.out⟩
            · have HE : Aside0 (unqR (tt, er, rest) = (tt, 0)) := ⟨by unfold unqR; simp only; rw [if_pos (by simpa using t1), if_pos hr, if_neg hl]⟩
              have t2 : decide (16384 < (tt.length : Int)) = false := decide_eq_false (by omega)
              have t3 : decide (16384 < tt.length) = false := decide_eq_false (by omega)
              clear hr hl
              go_wp2
              go_ret2
              have := HR.out
              rw [HE.out] at this
              obtain ⟨rfl, rfl⟩ := this
              exact ⟨rfl, HB4.out⟩
          · rw [show decide (rest ≠ []) = true by simp [hr]]
            have HE : Aside0 (unqR (tt, er, rest) = ([], 3)) := ⟨by unfold unqR; simp only; rw [if_pos (by simpa using t1), if_neg hr]⟩
            clear hr
            go_wp2
            go_ret2
            have := HR.out
            rw [HE.out] at this
            obtain ⟨rfl, rfl⟩ := this
            exact ⟨rfl, HB4.out⟩
        · have t1 : (er != 0) = true := by simp [he]
          have HE : Aside0 (unqR (tt, er, rest) = ([], er)) := ⟨if_neg he⟩
          clear he
          go_wp2
          go_ret2
          have := HR.out
          rw [HE.out] at this
          obtain ⟨rfl, rfl⟩ := this
          exact ⟨rfl, HB3.out⟩
end Go.Proofs.YtghjhampigbbkaaGreatDoor.PA
end
section
namespace Go.Proofs.YtghjhampigbbkaaGreatDoor.PA
open Go.RowKit Go.Proofs.YtghjhampigbbkaaGreatDoorW.PrintWords Go.Proofs.YtghjhampigbbkaaGreatDoorW.PrintLast Go.Proofs.YtghjhampigbbkaaGreatDoorW.PrintMore
def letB (x : Int) : Bool := (decide (65 ≤ x) && decide (x ≤ 90)) || (decide (97 ≤ x) && decide (x ≤ 122))
def partB (x : Int) : Bool := letB x || (decide (48 ≤ x) && decide (x ≤ 57)) || x == 95 || x == 45 || x == 46
def isNameB (s : ByteArray) : Bool := decide (1 ≤ s.size) && decide (s.size ≤ 40) && letB (bt s 0) && (bytesOf s).all partB
theorem letter_f (x : Int) : name_letter.f x = some (letB x) := by
  unfold name_letter.f letB
  by_cases h1 : 65 ≤ x <;> by_cases h2 : x ≤ 90 <;> by_cases h3 : 97 ≤ x <;> by_cases h4 : x ≤ 122 <;> simp [h1, h2, h3, h4]
theorem part_f (x : Int) : name_part.f x = some (partB x) := by
  unfold name_part.f partB
  rw [letter_f]
  cases h : letB x
  · by_cases h1 : 48 ≤ x <;> by_cases h2 : x ≤ 57 <;> by_cases h3 : x = 95 <;> by_cases h4 : x = 45 <;> simp [h1, h2, h3, h4]
  · simp
theorem drop_bytes (s : ByteArray) (i : Nat) (h : i < s.size) : (bytesOf s).drop i = bt s (i : Int) :: (bytesOf s).drop (i + 1) := by
  have hl : i < (bytesOf s).length := by rw [bytesOf_length]; exact h
  rw [List.drop_eq_getElem_cons hl, ← rd_bytesOf]
  congr 1
  simp [rd, hl]
theorem name_l0 (s : ByteArray) (hs : s.size ≤ 40) : ∀ (d k i : Nat), i + d = s.size → d < k → name_IsName.l0 k s (s.size : Int) (i : Int) = some (((bytesOf s).drop i).all partB) := by
  intro d
  induction d with
  | zero =>
    intro k i h hk
    obtain ⟨k, rfl⟩ : ∃ m, k = m + 1 := ⟨k - 1, by omega⟩
    rw [name_IsName.l0, if_neg (by omega), List.drop_of_length_le (by rw [bytesOf_length]; omega)]
    rfl
  | succ d ih =>
    intro k i h hk
    obtain ⟨k, rfl⟩ : ∃ m, k = m + 1 := ⟨k - 1, by omega⟩
    rw [name_IsName.l0, if_pos (by omega), if_pos (by omega), if_pos (by omega), part_f, drop_bytes s i (by omega), List.all_cons, wrap_up (n := s.size) (by omega) (by omega), Option.bind_some, ih k (i + 1) (by omega) (by omega)]
    cases partB (bt s (i : Int)) <;> rfl
theorem IsName_f (k : Nat) (hk : 50 ≤ k) (s : ByteArray) : name_IsName.f k s = some (isNameB s) := by
  obtain ⟨k, rfl⟩ : ∃ m, k = m + 1 := ⟨k - 1, by omega⟩
  unfold name_IsName.f isNameB
  by_cases h1 : s.size < 1
  · rw [if_pos (by omega), name_IsName.j0, if_pos rfl, decide_eq_false (by omega)]; rfl
  · rw [if_neg (by omega), decide_eq_true (by omega)]
    by_cases h2 : s.size > 40
    · rw [if_pos (by omega), name_IsName.j0, if_pos rfl, decide_eq_false (show ¬ s.size ≤ 40 by omega)]; rfl
    · rw [if_neg (by omega), if_pos (by omega), letter_f, decide_eq_true (show s.size ≤ 40 by omega), Option.bind_some, name_IsName.j0]
      cases h : letB (bt s 0)
      · rfl
      · have h3 := name_l0 s (by omega) s.size k 0 (by omega) (by omega)
        exact h3
theorem name_call (s : ByteArray) (w : World) : Calls Tryz.prog 76 #[.string s] w fun e w' => e = .returned (.bool (isNameB s)) ∧ Drawn0 w w' := name_IsName.calls 50 s (isNameB s) w (IsName_f 50 (by decide) s)
end Go.Proofs.YtghjhampigbbkaaGreatDoor.PA
end
section
namespace Go.Proofs.YtghjhampigbbkaaGreatDoor.PA
open Go.RowKit Go.Proofs.YtghjhampigbbkaaGreatDoorW.PrintWords Go.Proofs.YtghjhampigbbkaaGreatDoorW.PrintLast Go.Proofs.YtghjhampigbbkaaGreatDoorW.PrintMore
def Rd107 (W : World) (g : Nat) (s : ByteArray) (sp i l c : Int) : Prop := W.heap[g]? = some (.cells #[.string s, .int .u8 sp, .int .i64 i, .int .i64 l, .int .i64 c] 107 (0, 0))
theorem Rd107.all {W : World} {g : Nat} {s : ByteArray} {sp i l c : Int} (h : Rd107 W g s sp i l c) :
    W.cell? ⟨g, 0, none⟩ = some (.string s) ∧ W.cell? ⟨g, 1, none⟩ = some (.int .u8 sp) ∧ W.cell? ⟨g, 2, none⟩ = some (.int .i64 i) ∧ W.cell? ⟨g, 3, none⟩ = some (.int .i64 l) ∧ W.cell? ⟨g, 4, none⟩ = some (.int .i64 c) :=
  ⟨blk_cell h 0, blk_cell h 1, blk_cell h 2, blk_cell h 3, blk_cell h 4⟩
set_option maxHeartbeats 800000 in
set_option maxRecDepth 100000 in
theorem more_q (g : Nat) (s : ByteArray) (sp i l c : Int) (w : World) (h : Rd107 w g s sp i l c) :
    Calls Tryz.prog 68 #[.pointer (some ⟨g, 0, none⟩)] w fun e w' => e = .returned (.bool (decide (i < (s.size : Int)))) ∧ ∃ m, w' = w.drewN m := by
  obtain ⟨c0, c1, c2, c3, c4⟩ := h.all
  clear h
  go_enter Tryz.func68, Tryz.ntmps68
  go_wp2
  repeat (go_quiet (fail); try go_wp2)
  go_ret
  exact ⟨rfl, _, rfl⟩
def endsB (s : ByteArray) (sp : Int) (i : Nat) : Bool := decide (s.size ≤ i) || bt s (i : Int) == 10 || bt s (i : Int) == sp
set_option maxHeartbeats 800000 in
set_option maxRecDepth 100000 in
theorem ends_q (g : Nat) (s : ByteArray) (sp : Int) (i : Nat) (l c : Int) (w : World) (h : Rd107 w g s sp i l c) :
    Calls Tryz.prog 117 #[.pointer (some ⟨g, 0, none⟩)] w fun e w' => e = .returned (.bool (endsB s sp i)) ∧ ∃ m, w' = w.drewN m := by
  obtain ⟨c0, c1, c2, c3, c4⟩ := h.all
  have HM := fun n => more_q g s sp i l c (w.drewN n) h
  have HM := Aside0.mk HM
  clear h
  by_cases hi : i < s.size
  · have HE : Aside0 (endsB s sp i = (bt s (i : Int) == 10 || bt s (i : Int) == sp)) := ⟨by unfold endsB; rw [decide_eq_false (by omega), Bool.false_or]⟩
    have hd : decide ((i : Int) < (s.size : Int)) = true := decide_eq_true (by omega)
    have p4 := eq_true (show 0 ≤ (i : Int) by omega)
    have q4 := eq_true (show (i : Int) < (s.size : Int) by omega)
    have hx4 := bt_nat s i
    rw [hd] at HM
    cases h1 : (bt s (i : Int) == 10)
    · cases h2 : (bt s (i : Int) == sp)
      all_goals
        rw [h1, h2] at HE
        go_enter Tryz.func117, Tryz.ntmps117
        go_wp2
        go_quiet ((go_at_call 68; exact Calls.quiet_of (HM.out _)))
        go_wp2
        go_ret
        exact ⟨by rw [HE.out]; rfl, _, rfl⟩
    · rw [h1, Bool.true_or] at HE
      go_enter Tryz.func117, Tryz.ntmps117
      go_wp2
      go_quiet ((go_at_call 68; exact Calls.quiet_of (HM.out _)))
      go_wp2
      go_ret
      exact ⟨by rw [HE.out]; rfl, _, rfl⟩
  · have HE : Aside0 (endsB s sp i = true) := ⟨by unfold endsB; rw [decide_eq_true (by omega)]; rfl⟩
    have hd : decide ((i : Int) < (s.size : Int)) = false := decide_eq_false (by omega)
    rw [hd] at HM
    go_enter Tryz.func117, Tryz.ntmps117
    go_wp2
    go_quiet ((go_at_call 68; exact Calls.quiet_of (HM.out _)))
    go_wp2
    go_ret
    exact ⟨by rw [HE.out]; rfl, _, rfl⟩
end Go.Proofs.YtghjhampigbbkaaGreatDoor.PA
end
section
namespace Go.Proofs.YtghjhampigbbkaaGreatDoor.PA
open Go.RowKit Go.Proofs.YtghjhampigbbkaaGreatDoorW.PrintWords Go.Proofs.YtghjhampigbbkaaGreatDoorW.PrintLast Go.Proofs.YtghjhampigbbkaaGreatDoorW.PrintMore
def plc (l : List UInt8) : Int × Int := l.foldl (fun p c => if c = 10 then (p.1 + 1, 1) else (p.1, p.2 + 1)) (1, 1)
theorem plc_snoc (l : List UInt8) (c : UInt8) : plc (l ++ [c]) = if c = 10 then ((plc l).1 + 1, 1) else ((plc l).1, (plc l).2 + 1) := by
  unfold plc; rw [List.foldl_append]; rfl
theorem plc_le : ∀ (n : Nat) (l : List UInt8), l.length = n → 1 ≤ (plc l).1 ∧ (plc l).1 ≤ (n : Int) + 1 ∧ 1 ≤ (plc l).2 ∧ (plc l).2 ≤ (n : Int) + 1 := by
  intro n
  induction n with
  | zero => intro l h; have := List.length_eq_zero_iff.1 h; subst this; decide
  | succ n ih =>
    intro l h
    rcases List.eq_nil_or_concat l with rfl | ⟨m, c, rfl⟩
    · simp at h
    · rw [List.concat_eq_append] at h ⊢
      rw [List.length_append, List.length_singleton] at h
      have := ih m (by omega)
      rw [plc_snoc]
      split <;> dsimp only <;> omega
def At107 (w0 W : World) (g : Nat) (s : ByteArray) (sp : Int) (i : Nat) : Prop := IsS107 w0 W g s sp (i : Int) (plc (s.data.toList.take i)).1 (plc (s.data.toList.take i)).2
theorem At107.rd {w0 W : World} {g : Nat} {s : ByteArray} {sp : Int} {i : Nat} (h : At107 w0 W g s sp i) : Rd107 W g s sp (i : Int) (plc (s.data.toList.take i)).1 (plc (s.data.toList.take i)).2 := h.1
theorem u8_lit (c : UInt8) (k : Nat) (z : Int) (hz : (k : Int) = z) (hk : k < 256) : ((c.toNat : Int) = z) ↔ c = UInt8.ofNat k := by
  subst hz
  constructor
  · intro h
    have h' : c.toNat = k := by omega
    apply UInt8.toNat_inj.1
    rw [h', UInt8.toNat_ofNat']
    omega
  · rintro rfl
    rw [UInt8.toNat_ofNat']
    omega
theorem take_bt (s : ByteArray) (i : Nat) (h : i < s.size) : ∃ c : UInt8, s.data.toList.take (i + 1) = s.data.toList.take i ++ [c] ∧ s.data.toList.drop i = c :: s.data.toList.drop (i + 1) ∧ bt s (i : Int) = (c.toNat : Int) :=
  have hl : i < s.data.toList.length := by simpa using h
  ⟨s.data.toList[i], List.take_succ_eq_append_getElem hl, List.drop_eq_getElem_cons hl, bt_get s i hl⟩
theorem next107 (s : ByteArray) (sp : Int) (i : Nat) (h : i < s.size) (hs : s.size ≤ 1099511627776) : imports_reader_next.f s sp (i : Int) (plc (s.data.toList.take i)).1 (plc (s.data.toList.take i)).2 =
    some (bt s (i : Int), s, sp, ((i + 1 : Nat) : Int), (plc (s.data.toList.take (i + 1))).1, (plc (s.data.toList.take (i + 1))).2) := by
  obtain ⟨c, h1, h2, h3⟩ := take_bt s i h
  have hp := plc_le _ (s.data.toList.take i) rfl
  have hl : (s.data.toList.take i).length ≤ i := by rw [List.length_take]; omega
  unfold imports_reader_next.f
  rw [if_pos (by omega), if_pos (by omega), h1, plc_snoc, h3]
  have e1 : wrap64 ((i : Int) + 1) = ((i + 1 : Nat) : Int) := by unfold wrap64; omega
  have e2 : wrap64 ((plc (s.data.toList.take i)).1 + 1) = (plc (s.data.toList.take i)).1 + 1 := by unfold wrap64; omega
  have e3 : wrap64 ((plc (s.data.toList.take i)).2 + 1) = (plc (s.data.toList.take i)).2 + 1 := by unfold wrap64; omega
  rw [e1, e2, e3]
  by_cases hc : c = 10
  · rw [if_pos ((u8_lit c 10 10 rfl (by decide)).2 hc), if_pos hc]
  · rw [if_neg (fun h => hc ((u8_lit c 10 10 rfl (by decide)).1 h)), if_neg hc]
theorem rd_next (g : Nat) (s : ByteArray) (sp : Int) (i : Nat) (h : i < s.size) (hs : s.size ≤ 1099511627776) (w0 w : World) (hI : At107 w0 w g s sp i) (hB : Below w0.heap.size w0 w) :
    Calls Tryz.prog 70 #[.pointer (some ⟨g, 0, none⟩)] w fun e w' => e = .returned (.int .u8 (bt s (i : Int))) ∧ At107 w0 w' g s sp (i + 1) ∧ Below w0.heap.size w0 w' ∧ KeepBut w w' g none :=
  imports_reader_next.calls g _ _ _ _ _ _ _ _ _ _ _ w0 w hI hB (next107 s sp i h hs)
theorem rd_more (g : Nat) (s : ByteArray) (sp : Int) (i : Nat) (w0 w : World) (hI : At107 w0 w g s sp i) :
    Calls Tryz.prog 68 #[.pointer (some ⟨g, 0, none⟩)] w fun e w' => e = .returned (.bool (decide (i < s.size))) ∧ ∃ m, w' = w.drewN m := by
  have h := more_q g _ _ _ _ _ w hI.rd
  simp only [Int.ofNat_lt] at h
  exact h
def endsL (sp : Int) : List UInt8 → Bool
  | [] => true
  | c :: _ => (c.toNat : Int) == 10 || (c.toNat : Int) == sp
theorem endsB_eq (s : ByteArray) (sp : Int) (i : Nat) : endsB s sp i = endsL sp (s.data.toList.drop i) := by
  by_cases h : i < s.size
  · obtain ⟨c, h1, h2, h3⟩ := take_bt s i h
    rw [h2]
    unfold endsB endsL
    rw [decide_eq_false (by omega), h3, Bool.false_or]
  · rw [List.drop_of_length_le (by simp; omega)]
    unfold endsB endsL
    rw [decide_eq_true (by omega)]
    rfl
theorem rd_ends (g : Nat) (s : ByteArray) (sp : Int) (i : Nat) (w0 w : World) (hI : At107 w0 w g s sp i) :
    Calls Tryz.prog 117 #[.pointer (some ⟨g, 0, none⟩)] w fun e w' => e = .returned (.bool (endsL sp (s.data.toList.drop i))) ∧ ∃ m, w' = w.drewN m := by
  have h := ends_q g _ _ i _ _ w hI.rd
  rw [endsB_eq] at h
  exact h
def quoL (sp : Int) : List UInt8 → List UInt8 → List UInt8 × Int × List UInt8
  | _, [] => ([], 4, [])
  | acc, c :: l =>
    if prB c = false then ([], 3, c :: l)
    else if c = 34 then
      match l with
      | [] => (acc, 0, [])
      | d :: m => if d = 34 then quoL sp (acc ++ [34]) m else if endsL sp (d :: m) then (acc, 0, d :: m) else ([], 3, d :: m)
    else quoL sp (acc ++ [c]) l
theorem printable_43 (c : UInt8) : imports_printable.f (c.toNat : Int) = some (prB c) := by
  unfold imports_printable.f prB
  by_cases h1 : 32 ≤ c.toNat
  · rw [if_pos (by omega), decide_eq_true h1, Bool.true_and]
    exact congrArg some (decide_eq_decide.2 (by omega))
  · rw [if_neg (by omega), decide_eq_false h1]
    rfl
theorem app_u8 {ops : Array Oper} {rest : List Oper} {o : Oper} {a : Act} {Q : Exit → Act → World → Prop} {W : World} (base : Nat) (x : Int) {g : Nat} (A B : Tmp) (hgd : o.guard = none)
    (ho : o.op = .call { callee := .builtin .append, args := #[.tmp A, .tmp B], argTypes := #[72, 72] }) (v : Value) (xs : List Int)
    (hs : a.eval (.tmp A) = v) (hx : a.eval (.tmp B) = .slice (some ⟨W.heap.size, 0, none⟩) 1 1)
    (HO : Kd.R (Kd.int .u8) 5 W base (fun k => k ≠ g) v xs) (hbase : base ≤ W.heap.size) (hg : g < base) (hl : xs.length < 1099511627776)
    (h : ∀ v1 w1, Kd.R (Kd.int .u8) 5 w1 base (fun k => k ≠ g) v1 (xs ++ [x]) → Below base W w1 → wpList Tryz.prog ops Q rest (a.put o.dst v1) w1) :
    wpList Tryz.prog ops Q (o :: rest) a (W.alloc (.cells #[.int .u8 x] 5)) :=
  Kd.R_append (Kd.int .u8) (w0 := W) base hgd (.tmp A) (.tmp B) 72 5 (.int .u8 0) 1 ho Tryz.underlying72 info5 rfl (by decide) (by omega) v xs x [.int .u8 x] (fun k => k ≠ g) (fun _ => False) hs hx rfl (fun _ hk => hk.elim) (fun _ _ => by omega) HO (Below.refl _ _) hbase (by omega)
    (fun v1 w1 h1 h2 _ _ => h v1 w1 h1 h2)
theorem strOfNums_bytes (l : List UInt8) : strOfNums (l.map fun b => (b.toNat : Int)) = ⟨l.toArray⟩ := by
  unfold strOfNums
  rw [List.map_map]
  exact congrArg (fun x => (⟨List.toArray x⟩ : ByteArray)) ((List.map_congr_left (fun c _ => by simp)).trans (List.map_id l))
structure QInv (w0 w : World) (g : Nat) (s : ByteArray) (sp : Int) (i : Nat) (v : Value) (acc : List UInt8) (W : World) : Prop where
  st : At107 w0 W g s sp i
  row : Kd.R (Kd.int .u8) 5 W w.heap.size (fun k => k ≠ g) v (acc.map fun b => (b.toNat : Int))
  b0 : Below w0.heap.size w0 W
  kp : KeepBut w W g none
  lt : g < w.heap.size
  le : w0.heap.size ≤ w.heap.size
theorem QInv.call {w0 w : World} {g : Nat} {s : ByteArray} {sp : Int} {i j : Nat} {v : Value} {acc : List UInt8} {W W' : World} (h : QInv w0 w g s sp i v acc W)
    (h1 : At107 w0 W' g s sp j) (h2 : Below w0.heap.size w0 W') (h3 : KeepBut W W' g none) : QInv w0 w g s sp j v acc W' :=
  ⟨h1, Kd.R_keep h.row h3 (fun _ hk => hk), h2, keep_trans' h.kp h3, h.lt, h.le⟩
theorem QInv.drewN {w0 w : World} {g : Nat} {s : ByteArray} {sp : Int} {i : Nat} {v : Value} {acc : List UInt8} {W : World} (h : QInv w0 w g s sp i v acc W) (n : Nat) : QInv w0 w g s sp i v acc (W.drewN n) :=
  ⟨IsS107.drewN h.st n, Kd.R_drewN h.row n, pw_below_drewN h.b0 n, keep_drewN h.kp n, h.lt, h.le⟩
theorem QInv.app {w0 w : World} {g : Nat} {s : ByteArray} {sp : Int} {i : Nat} {v v1 : Value} {acc : List UInt8} {W W' : World} (h : QInv w0 w g s sp i v acc W) (c : UInt8)
    (h1 : Kd.R (Kd.int .u8) 5 W' w.heap.size (fun k => k ≠ g) v1 ((acc.map fun b => (b.toNat : Int)) ++ [(c.toNat : Int)])) (h2 : Below w.heap.size W W') : QInv w0 w g s sp i v1 (acc ++ [c]) W' :=
  ⟨⟨heap_keep h2 h.lt h.st.1, h.st.2⟩, by rw [List.map_append]; exact h1, h.b0.trans (h2.mono h.le), keep_below_trans h.kp h2, h.lt, h.le⟩
set_option maxHeartbeats 3200000 in
set_option maxRecDepth 100000 in
theorem rd_quoted (g : Nat) (s : ByteArray) (sp : Int) (i0 : Nat) (hi0 : i0 < s.size) (hs : s.size ≤ 1099511627776) (w0 w : World) (hI : At107 w0 w g s sp i0) (hB : Below w0.heap.size w0 w) :
    Calls Tryz.prog 116 #[.pointer (some ⟨g, 0, none⟩)] w fun e w' =>
      e = .returned (.tuple #[.string ⟨(quoL sp [] (s.data.toList.drop (i0 + 1))).1.toArray⟩, .int .i64 (quoL sp [] (s.data.toList.drop (i0 + 1))).2.1]) ∧
      At107 w0 w' g s sp (s.size - (quoL sp [] (s.data.toList.drop (i0 + 1))).2.2.length) ∧ Below w0.heap.size w0 w' ∧ KeepBut w w' g none := by
  have HS : Aside0 (QInv w0 w g s sp i0 (.slice none 0 0) [] w) := ⟨hI, Kd.R_nil _ _ _ _ _, hB, KeepBut.refl w g none, hI.lt, hB.size⟩
  clear hI hB
  go_enter Tryz.func116, Tryz.ntmps116
  go_wp2_with fail
  refine (rd_next g s sp i0 hi0 hs w0 _ HS.out.st HS.out.b0).mono ?_
  rintro e w1 ⟨rfl, h1, h2, h3⟩
  have HS1 := Aside0.mk (HS.out.call h1 h2 h3)
  clear h1 h2 h3 HS
  go_wp2_with fail
  go_loopg [4, 5] (s.size - i0 - 1) (fun kq v4 v5 wr => ∃ (i : Nat) (acc : List UInt8), i ≤ s.size ∧ Aside0 (kq + i = s.size) ∧ Aside0 (acc.length ≤ i) ∧ Aside0 (quoL sp acc (s.data.toList.drop i) = quoL sp [] (s.data.toList.drop (i0 + 1))) ∧ Aside0 (QInv w0 w g s sp i v4 acc wr))
  case atStart => exact ⟨i0 + 1, [], hi0, ⟨by omega⟩, ⟨Nat.zero_le _⟩, ⟨rfl⟩, HS1⟩
  case round =>
    clear HS1
    obtain ⟨i, acc, hi, HK, HA, HR, HV⟩ := hrel
    go_wp2_with fail
    refine (rd_more g s sp i w0 _ HV.out.st).mono ?_
    rintro e w1 ⟨rfl, n1, rfl⟩
    obtain ⟨c0, c1, c2, c3, c4⟩ := HV.out.st.rd.all
    by_cases hlt : i < s.size
    · have hd : decide (i < s.size) = true := decide_eq_true hlt
      obtain ⟨c, HT, HD, HC⟩ : ∃ c : UInt8, Aside0 (s.data.toList.take (i + 1) = s.data.toList.take i ++ [c]) ∧ Aside0 (s.data.toList.drop i = c :: s.data.toList.drop (i + 1)) ∧ Aside0 (bt s (i : Int) = (c.toNat : Int)) := by
        obtain ⟨c, h1, h2, h3⟩ := take_bt s i hlt
        exact ⟨c, ⟨h1⟩, ⟨h2⟩, ⟨h3⟩⟩
      have p4 := eq_true (show 0 ≤ (i : Int) by omega)
      have q4 := eq_true (show (i : Int) < (s.size : Int) by omega)
      have hx4 := bt_nat s i
      go_wp2_with fail
      go_quiet (fail)
      clear c0 c1 c2 c3 c4 p4 q4 hx4
      rw [HD.out] at HR
      rw [HC.out]
      go_wp2_with fail
      refine (imports_printable.calls (c.toNat : Int) (prB c) _ (printable_43 c)).mono ?_
      rintro e w2 ⟨rfl, ⟨n2, rfl⟩⟩
      have hlr : s.size - (c :: s.data.toList.drop (i + 1)).length = i := by rw [← HD.out, List.length_drop]; have : s.data.toList.length = s.size := (by simp); omega
      have hlr1 : s.size - (s.data.toList.drop (i + 1)).length = i + 1 := by rw [List.length_drop]; have : s.data.toList.length = s.size := (by simp); omega
      cases hpc : prB c
      · have HE : Aside0 (quoL sp [] (s.data.toList.drop (i0 + 1)) = ([], 3, c :: s.data.toList.drop (i + 1))) := ⟨by rw [← HR.out, quoL.eq_def]; simp only [hpc, if_true]⟩
        clear HR
        go_wp2
        go_ret2
        rw [HE.out]
        refine ⟨rfl, ?_, (HV.out.drewN _).b0, (HV.out.drewN _).kp⟩
        rw [hlr]
        exact (HV.out.drewN _).st
      · go_wp2_with fail
        refine (rd_next g s sp i hlt hs w0 _ (HV.out.drewN _).st (HV.out.drewN _).b0).mono ?_
        rintro e w4 ⟨rfl, h1, h2, h3⟩
        have HV4 := Aside0.mk ((HV.out.drewN _).call h1 h2 h3)
        clear h1 h2 h3 HV
        have HAL : Aside0 ((acc.map fun b => (b.toNat : Int)).length < 1099511627776) := ⟨by rw [List.length_map]; have := HA.out; omega⟩
        by_cases hc : c = 34
        · have t1 : (((c.toNat : Int)) != 34) = false := by subst hc; rfl
          have HR2 : Aside0 (quoL sp [] (s.data.toList.drop (i0 + 1)) = (match s.data.toList.drop (i + 1) with | [] => (acc, 0, []) | d :: m => if d = 34 then quoL sp (acc ++ [34]) m else if endsL sp (d :: m) then (acc, 0, d :: m) else ([], 3, d :: m))) := ⟨by rw [← HR.out, quoL.eq_def]; simp only [hc]; rfl⟩
          clear HR hc
          obtain ⟨c0, c1, c2, c3, c4⟩ := HV4.out.st.rd.all
          have HM := Aside0.mk fun n => rd_more g s sp (i + 1) w0 (w4.drewN n) (HV4.out.drewN n).st
          by_cases hl2 : i + 1 < s.size
          · rw [decide_eq_true hl2] at HM
            obtain ⟨d, HD2, HC2⟩ : ∃ d : UInt8, Aside0 (s.data.toList.drop (i + 1) = d :: s.data.toList.drop (i + 1 + 1)) ∧ Aside0 (bt s ((i + 1 : Nat) : Int) = (d.toNat : Int)) := by
              obtain ⟨d, h1, h2, h3⟩ := take_bt s (i + 1) hl2
              exact ⟨d, ⟨h2⟩, ⟨h3⟩⟩
            have p5 := eq_true (show 0 ≤ ((i + 1 : Nat) : Int) by omega)
            have q5 := eq_true (show ((i + 1 : Nat) : Int) < (s.size : Int) by omega)
            have hx5 := bt_nat s (i + 1)
            rw [HC2.out] at hx5
            by_cases h34 : d = 34
            · have t2 : ((d.toNat : Int) == 34) = true := by subst h34; rfl
              have HR3 : Aside0 (quoL sp (acc ++ [d]) (s.data.toList.drop (i + 1 + 1)) = quoL sp [] (s.data.toList.drop (i0 + 1))) := ⟨by rw [HR2.out, HD2.out]; simp only [h34, if_true]⟩
              clear HR2 h34
              go_wp2_with fail
              go_quiet ((go_at_call 68; exact Calls.quiet_of (HM.out _)))
              clear c0 c1 c2 c3 c4
              go_wp2_with fail
              refine (rd_next g s sp (i + 1) hl2 hs w0 _ (HV4.out.drewN _).st (HV4.out.drewN _).b0).mono ?_
              rintro e w5 ⟨rfl, h1, h2, h3⟩
              have HV5 := Aside0.mk ((HV4.out.drewN _).call h1 h2 h3)
              clear h1 h2 h3 HV4 HM
              rw [HC2.out]
              go_wp2_with ((with_reducible refine gate_builtin (b := .append) (xs := #[.tmp 45, .tmp 48]) rfl ?_); at_builtin; refine app_u8 w.heap.size (d.toNat : Int) 45 48 rfl rfl _ _ rfl rfl HV5.out.row HV5.out.kp.1 HV5.out.lt HAL.out ?_; intro v1 w7 h1 h2)
              have HV6 := Aside0.mk (HV5.out.app d h1 h2)
              clear h1 h2 HV5
              go_wp2
              obtain ⟨k, rfl⟩ : ∃ k, gk = k + 1 := ⟨gk - 1, by have := HK.out; omega⟩
              obtain ⟨k, rfl⟩ : ∃ k', k = k' + 1 := ⟨k - 1, by have := HK.out; omega⟩
              go_roundg k
              case measure => omega
              case rel => exact ⟨i + 1 + 1, acc ++ [d], by omega, ⟨by have := HK.out; omega⟩, ⟨by rw [List.length_append]; have := HA.out; simp; omega⟩, HR3, HV6⟩
            · have t2 : ((d.toNat : Int) == 34) = false := beq_false_of_ne fun h => h34 ((u8_lit d 34 34 rfl (by decide)).1 h)
              have HR3 : Aside0 (quoL sp [] (s.data.toList.drop (i0 + 1)) = if endsL sp (s.data.toList.drop (i + 1)) then (acc, 0, s.data.toList.drop (i + 1)) else ([], 3, s.data.toList.drop (i + 1))) := ⟨by rw [HR2.out, HD2.out]; simp only [h34, if_false]⟩
              clear HR2 h34
              go_wp2_with fail
              go_quiet ((go_at_call 68; exact Calls.quiet_of (HM.out _)))
              clear c0 c1 c2 c3 c4
              go_wp2_with fail
              refine (rd_ends g s sp (i + 1) w0 _ (HV4.out.drewN _).st).mono ?_
              rintro e w5 ⟨rfl, n5, rfl⟩
              cases hen : endsL sp (s.data.toList.drop (i + 1))
              · rw [hen] at HR3
                go_wp2
                go_ret2
                rw [HR3.out]
                refine ⟨rfl, ?_, (HV4.out.drewN _).b0, (HV4.out.drewN _).kp⟩
                simp only [Bool.false_eq_true, if_false]
                rw [hlr1]
                exact (HV4.out.drewN _).st
              · rw [hen] at HR3
                have hcv := fun n => own_string (P := Tryz.prog) Tryz.underlying72 Tryz.underlying5 Tryz.underlying9 (Kd.own_of_R (HV4.out.drewN n).row)
                simp only [strOfNums_bytes] at hcv
                go_wp2
                go_ret2
                rw [HR3.out]
                refine ⟨rfl, ?_, (HV4.out.drewN _).b0, (HV4.out.drewN _).kp⟩
                simp only [if_true]
                rw [hlr1]
                exact (HV4.out.drewN _).st
          · rw [decide_eq_false hl2] at HM
            have HZ : Aside0 (s.data.toList.drop (i + 1) = []) := ⟨List.drop_of_length_le (by simp; omega)⟩
            rw [HZ.out] at HR2
            go_wp2_with fail
            go_quiet ((go_at_call 68; exact Calls.quiet_of (HM.out _)))
            clear c0 c1 c2 c3 c4
            have HEn := Aside0.mk fun n => rd_ends g s sp (i + 1) w0 (w4.drewN n) (HV4.out.drewN n).st
            rw [HZ.out] at HEn
            go_wp2_with fail
            refine (HEn.out _).mono ?_
            rintro e w5 ⟨rfl, n5, rfl⟩
            have hcv := fun n => own_string (P := Tryz.prog) Tryz.underlying72 Tryz.underlying5 Tryz.underlying9 (Kd.own_of_R (HV4.out.drewN n).row)
            simp only [strOfNums_bytes] at hcv
            go_wp2
            go_ret2
            rw [HR2.out]
            refine ⟨rfl, ?_, (HV4.out.drewN _).b0, (HV4.out.drewN _).kp⟩
            have hl : s.size - ([] : List UInt8).length = i + 1 := by simp; omega
            dsimp only
            rw [hl]
            exact (HV4.out.drewN _).st
        · have t1 : (((c.toNat : Int)) != 34) = true := bne_iff_ne.2 fun h => hc ((u8_lit c 34 34 rfl (by decide)).1 h)
          have HR3 : Aside0 (quoL sp (acc ++ [c]) (s.data.toList.drop (i + 1)) = quoL sp [] (s.data.toList.drop (i0 + 1))) := ⟨by rw [← HR.out, quoL.eq_def sp acc (_ :: _)]; simp only [hpc, hc]; rfl⟩
          clear HR hc
          go_wp2_with ((with_reducible refine gate_builtin (b := .append) (xs := #[.tmp 27, .tmp 29]) rfl ?_); at_builtin; refine app_u8 w.heap.size (c.toNat : Int) 27 29 rfl rfl _ _ rfl rfl HV4.out.row HV4.out.kp.1 HV4.out.lt HAL.out ?_; intro v1 w7 h1 h2)
          have HV6 := Aside0.mk (HV4.out.app c h1 h2)
          clear h1 h2 HV4
          go_wp2
          obtain ⟨k, rfl⟩ : ∃ k, gk = k + 1 := ⟨gk - 1, by have := HK.out; omega⟩
          go_roundg k
          case measure => omega
          case rel => exact ⟨i + 1, acc ++ [c], by omega, ⟨by have := HK.out; omega⟩, ⟨by rw [List.length_append]; have := HA.out; simp; omega⟩, HR3, HV6⟩
    · have hd : decide (i < s.size) = false := decide_eq_false hlt
      have HE : Aside0 (quoL sp [] (s.data.toList.drop (i0 + 1)) = ([], 4, [])) := ⟨by rw [← HR.out, List.drop_of_length_le (by simp; omega)]; rfl⟩
      clear HR
      go_wp2
      go_ret2
      rw [HE.out]
      have hl : s.size - ([] : List UInt8).length = i := by simp; omega
      refine ⟨rfl, ?_, (HV.out.drewN _).b0, (HV.out.drewN _).kp⟩
      rw [hl]
      exact (HV.out.drewN _).st
end Go.Proofs.YtghjhampigbbkaaGreatDoor.PA
end
section
namespace Go.Proofs.YtghjhampigbbkaaGreatDoor.PA
open Go.RowKit Go.Proofs.YtghjhampigbbkaaGreatDoorW.PrintWords Go.Proofs.YtghjhampigbbkaaGreatDoorW.PrintLast Go.Proofs.YtghjhampigbbkaaGreatDoorW.PrintMore
def plainL (sp : Int) : List UInt8 → List UInt8 → List UInt8 × Int × List UInt8
  | acc, [] => (acc, 0, [])
  | acc, c :: m => if endsL sp (c :: m) then (acc, 0, c :: m) else if prB c = false ∨ c = 34 then ([], 3, c :: m) else plainL sp (acc ++ [c]) m
def cellL (sp : Int) (l : List UInt8) : List UInt8 × Int × List UInt8 := if quoteFirst l then quoL sp [] l.tail else plainL sp [] l
theorem bytes_extract (s : ByteArray) (i j : Nat) : s.extract i j = ⟨((s.data.toList.drop i).take (j - i)).toArray⟩ := by
  have h := Lib.extract_data s i j
  have e : s.extract i j = ⟨(s.extract i j).data.toList.toArray⟩ := rfl
  rw [e, h]
set_option maxHeartbeats 3200000 in
set_option maxRecDepth 100000 in
theorem rd_cell (g : Nat) (s : ByteArray) (sp : Int) (i0 : Nat) (hi0 : i0 ≤ s.size) (hs : s.size ≤ 1099511627776) (w0 w : World) (hI : At107 w0 w g s sp i0) (hB : Below w0.heap.size w0 w) :
    Calls Tryz.prog 69 #[.pointer (some ⟨g, 0, none⟩)] w fun e w' =>
      e = .returned (.tuple #[.string ⟨(cellL sp (s.data.toList.drop i0)).1.toArray⟩, .int .i64 (cellL sp (s.data.toList.drop i0)).2.1]) ∧
      At107 w0 w' g s sp (s.size - (cellL sp (s.data.toList.drop i0)).2.2.length) ∧ Below w0.heap.size w0 w' ∧ KeepBut w w' g none := by
  have HI := Aside0.mk hI
  have HB := Aside0.mk hB
  obtain ⟨c0, c1, c2, c3, c4⟩ := hI.rd.all
  have HM := Aside0.mk fun n => rd_more g s sp i0 w0 (w.drewN n) (IsS107.drewN hI n)
  have hz : s.data.toList.length = s.size := by simp
  by_cases hq : quoteFirst (s.data.toList.drop i0) = true
  · obtain ⟨m, hm⟩ := quoteFirst_yes hq
    have hlt : i0 < s.size := by
      rcases Nat.lt_or_ge i0 s.size with h | h
      · exact h
      · rw [List.drop_of_length_le (by omega)] at hm; cases hm
    have HE : Aside0 (cellL sp (s.data.toList.drop i0) = quoL sp [] (s.data.toList.drop (i0 + 1))) := ⟨by
      unfold cellL
      rw [if_pos hq, List.tail_drop]⟩
    have hbt : bt s (i0 : Int) = 34 := by
      obtain ⟨c, h1, h2, h3⟩ := take_bt s i0 hlt
      rw [h2] at hm
      cases hm
      exact h3
    rw [decide_eq_true hlt] at HM
    have p5 := eq_true (show 0 ≤ (i0 : Int) by omega)
    have q5 := eq_true (show (i0 : Int) < (s.size : Int) by omega)
    have hx5 := bt_nat s i0
    rw [hbt] at hx5
    clear hq hm hz hbt hI hB
    rw [HE.out]
    have HQd := Aside0.mk fun n => rd_quoted g s sp i0 hlt hs w0 (w.drewN n) (IsS107.drewN HI.out _) (pw_below_drewN HB.out _)
    generalize quoL sp [] (s.data.toList.drop (i0 + 1)) = Z at HQd ⊢
    go_enter Tryz.func69, Tryz.ntmps69
    go_wp2_with fail
    go_quiet ((go_at_call 68; exact Calls.quiet_of (HM.out _)))
    clear c0 c1 c2 c3 c4 p5 q5 hx5
    go_wp2_with fail
    refine (HQd.out _).mono ?_
    rintro e w5 ⟨rfl, h1, h2, h3⟩
    have H1 := Aside0.mk h1
    have H2 := Aside0.mk h2
    have H3 := Aside0.mk h3
    clear h1 h2 h3
    go_wp2
    go_ret2
    exact ⟨rfl, H1.out, H2.out, keep_trans' (keep_drewN (KeepBut.refl w g none) _) H3.out⟩
  · have HE : Aside0 (cellL sp (s.data.toList.drop i0) = plainL sp [] (s.data.toList.drop i0)) := ⟨if_neg hq⟩
    rw [HE.out]
    clear HE
    have HG : Aside0 ((decide (i0 < s.size) = false) ∨ (decide (i0 < s.size) = true ∧ 0 ≤ (i0 : Int) ∧ (i0 : Int) < (s.size : Int) ∧ (bt s (i0 : Int) == 34) = false)) := ⟨by
      by_cases h : i0 < s.size
      · refine .inr ⟨decide_eq_true h, by omega, by omega, ?_⟩
        obtain ⟨c, h1, h2, h3⟩ := take_bt s i0 h
        rw [h3]
        refine beq_false_of_ne fun e => hq ?_
        rw [h2, (u8_lit c 34 34 rfl (by decide)).1 e]
        rfl
      · exact .inl (decide_eq_false h)⟩
    have hx5 := bt_nat s i0
    clear hq hI hB hz
    rcases HG.out with t1 | ⟨t1, p5, q5, t2⟩
    all_goals
      rw [t1] at HM
      clear HG
      try replace p5 := eq_true p5
      try replace q5 := eq_true q5
      go_enter Tryz.func69, Tryz.ntmps69
      go_wp2_with fail
      go_quiet ((go_at_call 68; exact Calls.quiet_of (HM.out _)))
      go_wp2_with fail
      clear c0 c1 c2 c3 c4 hx5
      try clear p5 q5 t2
      clear t1
      have HS : Aside0 (At107 w0 (w.drewN nq) g s sp i0 ∧ Below w0.heap.size w0 (w.drewN nq) ∧ KeepBut w (w.drewN nq) g none) := ⟨IsS107.drewN HI.out _, pw_below_drewN HB.out _, keep_drewN (KeepBut.refl w g none) _⟩
      clear HI HB HM
      go_loopg [5] (s.size - i0) (fun kq v5 wr => ∃ (i : Nat) (acc : List UInt8), i ≤ s.size ∧ i0 ≤ i ∧ Aside0 (kq + i = s.size) ∧ Aside0 (acc = (s.data.toList.drop i0).take (i - i0)) ∧ Aside0 (plainL sp acc (s.data.toList.drop i) = plainL sp [] (s.data.toList.drop i0)) ∧ Aside0 (At107 w0 wr g s sp i ∧ Below w0.heap.size w0 wr ∧ KeepBut w wr g none))
      case atStart => exact ⟨i0, [], hi0, Nat.le_refl _, ⟨by omega⟩, ⟨by simp⟩, ⟨rfl⟩, HS⟩
      case round =>
        clear HS
        obtain ⟨i, acc, hi, hi2, HK, HA, HR, HV⟩ := hrel
        go_wp2_with fail
        refine (rd_ends g s sp i w0 _ HV.out.1).mono ?_
        rintro e w1 ⟨rfl, n1, rfl⟩
        obtain ⟨c0, c1, c2, c3, c4⟩ := HV.out.1.rd.all
        cases hen : endsL sp (s.data.toList.drop i)
        · have hlt : i < s.size := by
            rcases Nat.lt_or_ge i s.size with h | h
            · exact h
            · rw [List.drop_of_length_le (by simp; omega)] at hen; cases hen
          obtain ⟨c, HT, HD, HC⟩ : ∃ c : UInt8, Aside0 (s.data.toList.take (i + 1) = s.data.toList.take i ++ [c]) ∧ Aside0 (s.data.toList.drop i = c :: s.data.toList.drop (i + 1)) ∧ Aside0 (bt s (i : Int) = (c.toNat : Int)) := by
            obtain ⟨c, h1, h2, h3⟩ := take_bt s i hlt
            exact ⟨c, ⟨h1⟩, ⟨h2⟩, ⟨h3⟩⟩
          rw [HD.out] at HR hen
          have HR2 : Aside0 (plainL sp [] (s.data.toList.drop i0) = if prB c = false ∨ c = 34 then ([], 3, c :: s.data.toList.drop (i + 1)) else plainL sp (acc ++ [c]) (s.data.toList.drop (i + 1))) := ⟨by rw [← HR.out, plainL.eq_def]; simp only [hen]; rfl⟩
          clear HR hen
          have p4 := eq_true (show 0 ≤ (i : Int) by omega)
          have q4 := eq_true (show (i : Int) < (s.size : Int) by omega)
          have hx4 := bt_nat s i
          rw [HC.out] at hx4
          go_wp2_with fail
          go_quiet (fail)
          clear c0 c1 c2 c3 c4 p4 q4 hx4
          go_wp2_with fail
          refine (imports_printable.calls (c.toNat : Int) (prB c) _ (printable_43 c)).mono ?_
          rintro e w2 ⟨rfl, ⟨n2, rfl⟩⟩
          have hlr : s.size - (c :: s.data.toList.drop (i + 1)).length = i := by rw [← HD.out, List.length_drop]; have : s.data.toList.length = s.size := (by simp); omega
          have HQ : Aside0 ((prB c = false ∧ Aside0 (plainL sp [] (s.data.toList.drop i0) = ([], 3, c :: s.data.toList.drop (i + 1)))) ∨ (prB c = true ∧ ((c.toNat : Int) == 34) = true ∧ Aside0 (plainL sp [] (s.data.toList.drop i0) = ([], 3, c :: s.data.toList.drop (i + 1)))) ∨ (prB c = true ∧ ((c.toNat : Int) == 34) = false ∧ Aside0 (plainL sp (acc ++ [c]) (s.data.toList.drop (i + 1)) = plainL sp [] (s.data.toList.drop i0)))) := ⟨by
            cases hp : prB c
            · exact .inl ⟨rfl, ⟨by rw [HR2.out, if_pos (.inl hp)]⟩⟩
            · by_cases h34 : c = 34
              · exact .inr (.inl ⟨rfl, by subst h34; rfl, ⟨by rw [HR2.out, if_pos (.inr h34)]⟩⟩)
              · exact .inr (.inr ⟨rfl, beq_false_of_ne fun h => h34 ((u8_lit c 34 34 rfl (by decide)).1 h), ⟨by rw [HR2.out, if_neg (by rintro (h | h); rw [hp] at h; cases h; exact h34 h)]⟩⟩)⟩
          clear HR2
          rcases HQ.out with ⟨t1, HE⟩ | ⟨t1, t2, HE⟩ | ⟨t1, t2, HE⟩
          · clear HQ
            go_wp2
            go_ret2
            rw [HE.out]
            refine ⟨rfl, ?_, pw_below_drewN HV.out.2.1 _, keep_drewN HV.out.2.2 _⟩
            rw [hlr]
            exact IsS107.drewN HV.out.1 _
          · clear HQ
            go_wp2
            go_ret2
            rw [HE.out]
            refine ⟨rfl, ?_, pw_below_drewN HV.out.2.1 _, keep_drewN HV.out.2.2 _⟩
            rw [hlr]
            exact IsS107.drewN HV.out.1 _
          · clear HQ
            go_wp2_with fail
            refine (rd_next g s sp i hlt hs w0 _ (IsS107.drewN HV.out.1 _) (pw_below_drewN HV.out.2.1 _)).mono ?_
            rintro e w4 ⟨rfl, h1, h2, h3⟩
            have HV4 := Aside0.mk (⟨h1, h2, keep_trans' (keep_drewN HV.out.2.2 _) h3⟩ : At107 w0 w4 g s sp (i + 1) ∧ Below w0.heap.size w0 w4 ∧ KeepBut w w4 g none)
            clear h1 h2 h3 HV
            go_wp2
            obtain ⟨k, rfl⟩ : ∃ k, gk = k + 1 := ⟨gk - 1, by have := HK.out; omega⟩
            go_roundg k
            case measure => omega
            case rel => exact ⟨i + 1, acc ++ [c], by omega, by omega, ⟨by have := HK.out; omega⟩, ⟨by
              rw [HA.out, show i + 1 - i0 = (i - i0) + 1 by omega]
              have h1 : i - i0 < (s.data.toList.drop i0).length := by rw [List.length_drop]; have : s.data.toList.length = s.size := (by simp); omega
              rw [List.take_succ_eq_append_getElem h1]
              have h2 : (s.data.toList.drop i0)[i - i0] = c := by
                have h3 := HD.out
                rw [List.drop_eq_getElem_cons (by have : s.data.toList.length = s.size := (by simp); omega)] at h3
                rw [List.getElem_drop]
                have h4 := (List.cons.inj h3).1
                rw [← h4]
                congr 1
                omega
              rw [h2]⟩, HE, HV4⟩
        · have HE : Aside0 (plainL sp [] (s.data.toList.drop i0) = (acc, 0, s.data.toList.drop i)) := ⟨by
            rw [← HR.out, plainL.eq_def]
            cases hd : s.data.toList.drop i with
            | nil => rfl
            | cons c m => rw [hd] at hen; simp only [hen, if_true]⟩
          clear HR hen
          have p1 := eq_true (show 0 ≤ (i0 : Int) by omega)
          have p2 := eq_true (show (i0 : Int) ≤ (i : Int) by omega)
          have p3 := eq_true (show (i : Int) ≤ (s.size : Int) by omega)
          have hlr1 : s.size - (s.data.toList.drop i).length = i := by rw [List.length_drop]; have : s.data.toList.length = s.size := (by simp); omega
          go_wp2_with fail
          go_quiet (fail)
          go_wp2
          go_ret2
          rw [HE.out]
          refine ⟨?_, ?_, pw_below_drewN (pw_below_drewN HV.out.2.1 _) _, keep_drewN (keep_drewN HV.out.2.2 _) _⟩
          · rw [HA.out]
            show Ending.returned (.tuple #[.string (s.extract (i0 : Int).toNat (i : Int).toNat), .int .i64 0]) = _
            rw [bytes_extract, Int.toNat_natCast, Int.toNat_natCast]
          · dsimp only
            rw [hlr1]
            exact IsS107.drewN (IsS107.drewN HV.out.1 _) _
end Go.Proofs.YtghjhampigbbkaaGreatDoor.PA
end
section
namespace Go.Proofs.YtghjhampigbbkaaGreatDoor.PA
open Go.RowKit Go.Proofs.YtghjhampigbbkaaGreatDoorW.PrintWords Go.Proofs.YtghjhampigbbkaaGreatDoorW.PrintLast Go.Proofs.YtghjhampigbbkaaGreatDoorW.PrintMore
def bs (l : List UInt8) : ByteArray := ⟨l.toArray⟩
def rowL (sp : Int) : Nat → List ByteArray → List UInt8 → List ByteArray × Int × List UInt8
  | 0, _, l => ([], 9, l)
  | n + 1, acc, l => if (cellL sp l).2.1 = 0 then (match (cellL sp l).2.2 with
      | [] => (acc ++ [bs (cellL sp l).1], 0, [])
      | d :: m => if d = 10 then (acc ++ [bs (cellL sp l).1], 0, m) else rowL sp n (acc ++ [bs (cellL sp l).1]) m) else ([], (cellL sp l).2.1, (cellL sp l).2.2)
def tabL (sp : Int) : Nat → List (List ByteArray) → List UInt8 → List (List ByteArray) × Int × List UInt8
  | 0, _, l => ([], 9, l)
  | n + 1, acc, l => if l = [] then (acc, 0, []) else if acc.length = 2001 then ([], 5, l) else
      if (rowL sp (l.length + 1) [] l).2.1 = 0 then tabL sp n (acc ++ [(rowL sp (l.length + 1) [] l).1]) (rowL sp (l.length + 1) [] l).2.2 else ([], (rowL sp (l.length + 1) [] l).2.1, (rowL sp (l.length + 1) [] l).2.2)
def sepB (x : Int) : Bool := x == 44 || x == 59 || x == 124 || x == 9
theorem separates_f (x : Int) : imports_separates.f x = some (sepB x) := by
  unfold imports_separates.f sepB
  by_cases h1 : x = 44
  · simp [h1]
  · by_cases h2 : x = 59
    · simp [h2]
    · by_cases h3 : x = 124
      · simp [h3]
      · simp [h1, h2, h3]
def tabR (l : List UInt8) (r : List (List ByteArray) × Int × List UInt8) : List (List ByteArray) × Int × Int × Int :=
  if r.2.1 = 0 then (r.1, 0, 0, 0) else ([], (plc (l.take (l.length - r.2.2.length))).1, (plc (l.take (l.length - r.2.2.length))).2, r.2.1)
def cellsF (s : ByteArray) (sp : Int) : List (List ByteArray) × Int × Int × Int :=
  if sepB sp = false then ([], 0, 0, 1) else if s.size > 16384 then ([], 0, 0, 5) else tabR s.data.toList (tabL sp (s.size + 1) [] s.data.toList)
def imports_Cells.f (a0 : ByteArray) (a1 : Int) : Option (List (List ByteArray) × Int × Int × Int) := some (cellsF a0 a1)
theorem quoL_rest (sp : Int) : ∀ (n : Nat) (acc l : List UInt8), l.length ≤ n → (quoL sp acc l).2.2 <:+ l := by
  intro n
  induction n with
  | zero =>
    intro acc l h
    obtain rfl : l = [] := List.length_eq_zero_iff.1 (by omega)
    exact List.suffix_refl _
  | succ n ih =>
    intro acc l h
    cases l with
    | nil => exact List.suffix_refl _
    | cons c l =>
      simp only [List.length_cons] at h
      rw [quoL.eq_def]
      dsimp only
      split
      · exact List.suffix_refl _
      · split
        · cases l with
          | nil => exact List.suffix_cons _ _
          | cons d m =>
            simp only [List.length_cons] at h
            dsimp only
            split
            · exact (ih (acc ++ [34]) m (by omega)).trans ((List.suffix_cons _ _).trans (List.suffix_cons _ _))
            · split <;> exact List.suffix_cons _ _
        · exact (ih (acc ++ [c]) l (by omega)).trans (List.suffix_cons _ _)
theorem plainL_rest (sp : Int) : ∀ (l acc : List UInt8), (plainL sp acc l).2.2 <:+ l := by
  intro l
  induction l with
  | nil => intro acc; exact List.suffix_refl _
  | cons c l ih =>
    intro acc
    rw [plainL.eq_def]
    dsimp only
    split
    · exact List.suffix_refl _
    · split
      · exact List.suffix_refl _
      · exact (ih (acc ++ [c])).trans (List.suffix_cons _ _)
theorem cellL_rest (sp : Int) (l : List UInt8) : (cellL sp l).2.2 <:+ l := by
  unfold cellL
  split
  · exact (quoL_rest sp _ [] l.tail (Nat.le_refl _)).trans (List.tail_suffix l)
  · exact plainL_rest sp l []
theorem suffix_at {l m : List UInt8} {i : Nat} (hi : i ≤ l.length) (h : m <:+ l.drop i) : m = l.drop (l.length - m.length) ∧ m.length ≤ l.length - i := by
  have h1 := List.suffix_iff_eq_drop.1 h
  have h2 := h.length_le
  rw [List.length_drop] at h1 h2
  rw [List.drop_drop] at h1
  refine ⟨?_, h2⟩
  rw [show l.length - m.length = i + (l.length - i - m.length) by omega]
  exact h1
theorem tabR_err (l : List UInt8) (x : List (List ByteArray)) (i : Nat) (e : Int) (hi : i ≤ l.length) (he : ¬ e = 0) : tabR l (x, e, l.drop i) = ([], (plc (l.take i)).1, (plc (l.take i)).2, e) := by
  unfold tabR
  rw [if_neg he, List.length_drop, show l.length - (l.length - i) = i by omega]
theorem ret_tct {fn : Func} {p q u : Tmp} {R : Ending → World → Prop} {a : Act} {w : World} {g : Nat} {x y : Value} (h : fn.results = #[.tmp p, .cell q 40, .tmp u])
    (hp : a.tmps.getD q undef = .pointer (some ⟨g, 0, none⟩)) (hg : w.heap[g]? = some (.cells #[x, y] 40 (0, 0))) (hd : a.defers = [])
    (hR : R (.returned (.tuple #[a.tmps.getD p undef, .agg #[x, y], a.tmps.getD u undef])) w) : bodyPost Tryz.prog fn R .ret a w :=
  bodyPost_ret (results_list (rs := [.tmp p, .cell q 40, .tmp u]) h (by simp) (.tmp (.cell g 40 #[x, y] (0, 0) _ hp hg Tryz.underlying40 rfl (by kernel_rfl) (.tmp .nil)))) hd hR
theorem cells2 {w : World} {g : Nat} {t : TypeId} {a b : Value} (h : w.heap[g]? = some (.cells #[a, b] t (0, 0))) :
    w.cell? ⟨g, 0, none⟩ = some a ∧ w.cell? ⟨g, 1, none⟩ = some b ∧ w.frozen? ⟨g, 0, none⟩ = false ∧ w.frozen? ⟨g, 1, none⟩ = false :=
  ⟨blk_cell h 0, blk_cell h 1, blk_frozen h 0, blk_frozen h 1⟩
def set2 (w : World) (g : Nat) (x y : Value) : World := (w.setCell ⟨g, 0, none⟩ x).setCell ⟨g, 1, none⟩ y
theorem put2 {w : World} {g : Nat} {t : TypeId} {a b : Value} (h : w.heap[g]? = some (.cells #[a, b] t (0, 0))) (x y : Value) : (set2 w g x y).heap[g]? = some (.cells #[x, y] t (0, 0)) :=
  blk_put (blk_put h 0 _ rfl) 1 _ rfl
theorem below2 {w W : World} {g : Nat} (h : Below w.heap.size w W) (hg : w.heap.size ≤ g) (x y : Value) : Below w.heap.size w (set2 W g x y) := below_set (below_set h hg) hg
structure CInv (w : World) (s : ByteArray) (sp : Int) (i : Nat) (ok : Nat → Prop) (v : Value) (out : List (List ByteArray)) (W : World) : Prop where
  rd : At107 w W (w.heap.size + 1) s sp i
  res : W.heap[w.heap.size]? = some (.cells #[.int .i64 0, .int .i64 0] 40 (0, 0))
  out : Kd.S (Kd.slice 9 Kd.string) 51 W w.heap.size (fun k => (k ≠ w.heap.size + 1 ∧ k ≠ w.heap.size) ∧ ok k) v out
  b0 : Below w.heap.size w W
theorem CInv.call {w : World} {s : ByteArray} {sp : Int} {i j : Nat} {ok : Nat → Prop} {v : Value} {out : List (List ByteArray)} {W W' : World} (h : CInv w s sp i ok v out W)
    (h1 : At107 w W' (w.heap.size + 1) s sp j) (h2 : Below w.heap.size w W') (h3 : KeepBut W W' (w.heap.size + 1) none) : CInv w s sp j ok v out W' :=
  ⟨h1, (h3.2 w.heap.size (heap_lt h.res) (by omega) (by simp)).trans h.res, Kd.S_keep h.out h3 (fun _ hk => hk.1.1), h2⟩
theorem CInv.drewN {w : World} {s : ByteArray} {sp : Int} {i : Nat} {ok : Nat → Prop} {v : Value} {out : List (List ByteArray)} {W : World} (h : CInv w s sp i ok v out W) (n : Nat) : CInv w s sp i ok v out (W.drewN n) :=
  ⟨IsS107.drewN h.rd n, h.res, Kd.S_drewN h.out n, pw_below_drewN h.b0 n⟩
theorem CInv.mono {w : World} {s : ByteArray} {sp : Int} {i : Nat} {ok ok' : Nat → Prop} {v : Value} {out : List (List ByteArray)} {W : World} (h : CInv w s sp i ok v out W) (hk : ∀ k, ok k → ok' k) : CInv w s sp i ok' v out W :=
  ⟨h.rd, h.res, Kd.S_mono h.out (fun k h => ⟨h.1, hk k h.2⟩), h.b0⟩
theorem app_row {ops : Array Oper} {rest : List Oper} {o : Oper} {a : Act} {Q : Exit → Act → World → Prop} {w W : World} {s : ByteArray} {sp : Int} {i : Nat} {v8 : Value} {out : List (List ByteArray)} (x : ByteArray) (A B : Tmp) (hgd : o.guard = none)
    (ho : o.op = .call { callee := .builtin .append, args := #[.tmp A, .tmp B], argTypes := #[51, 51] }) (v : Value) (xs : List ByteArray)
    (hs : a.eval (.tmp A) = v) (hx : a.eval (.tmp B) = .slice (some ⟨W.heap.size, 0, none⟩) 1 1)
    (HC : CInv w s sp i (fun k => some k ≠ v.ownBlock) v8 out W)
    (HO : Kd.R Kd.string 9 W w.heap.size (fun k => k ≠ w.heap.size + 1 ∧ k ≠ w.heap.size) v xs) (hl : xs.length < 1099511627776)
    (h : ∀ v1 w1, CInv w s sp i (fun k => some k ≠ v1.ownBlock) v8 out w1 → Kd.R Kd.string 9 w1 w.heap.size (fun k => k ≠ w.heap.size + 1 ∧ k ≠ w.heap.size) v1 (xs ++ [x]) → wpList Tryz.prog ops Q rest (a.put o.dst v1) w1) :
    wpList Tryz.prog ops Q (o :: rest) a (W.alloc (.cells #[.string x] 9)) :=
  Kd.R_append Kd.string (w0 := w) w.heap.size hgd (.tmp A) (.tmp B) 51 9 (.string ⟨#[]⟩) 16 ho Tryz.underlying51 info9 rfl (by decide) (by omega) v xs x [.string x] _ (fun _ => False) hs hx rfl (fun _ hk => hk.elim)
    (fun k hk => by have := heap_lt HC.rd.1; omega) HO HC.b0 HC.b0.size (by omega)
    (fun v1 w1 h1 h2 h3 h4 => h v1 w1 ⟨⟨(h3.block _ (heap_lt HC.rd.1) (Kd.R_ne HO HC.rd.1 (by decide))).trans HC.rd.1, HC.rd.2⟩, (h3.block _ (heap_lt HC.res) (Kd.R_ne HO HC.res (by decide))).trans HC.res, Kd.S_after HC.out h3 h4, h2⟩ h1)
theorem app_rows {ops : Array Oper} {rest : List Oper} {o : Oper} {a : Act} {Q : Exit → Act → World → Prop} {w W : World} {s : ByteArray} {sp : Int} {i : Nat} {v8 : Value} {out : List (List ByteArray)} (A B : Tmp) (hgd : o.guard = none)
    (ho : o.op = .call { callee := .builtin .append, args := #[.tmp A, .tmp B], argTypes := #[22, 22] }) (v : Value) (xs : List ByteArray)
    (hs : a.eval (.tmp A) = v8) (hx : a.eval (.tmp B) = .slice (some ⟨W.heap.size, 0, none⟩) 1 1)
    (HC : CInv w s sp i (fun k => some k ≠ v.ownBlock) v8 out W)
    (HO : Kd.R Kd.string 9 W w.heap.size (fun k => k ≠ w.heap.size + 1 ∧ k ≠ w.heap.size) v xs) (hl : out.length < 1099511627776)
    (h : ∀ v1 w1, CInv w s sp i (fun _ => True) v1 (out ++ [xs]) w1 → wpList Tryz.prog ops Q rest (a.put o.dst v1) w1) :
    wpList Tryz.prog ops Q (o :: rest) a (W.alloc (.cells #[v] 51)) :=
  Kd.S_append (Kd.slice 9 Kd.string) (w0 := w) w.heap.size hgd (.tmp A) (.tmp B) 22 51 (.slice none 0 0) 24 ho Tryz.underlying22 info51 rfl (by decide) (by omega) v8 out xs [v] (fun k => (k ≠ w.heap.size + 1 ∧ k ≠ w.heap.size) ∧ True) (fun k => some k = v.ownBlock) hs hx
    (Kd.M_row (Kd.R_tight rfl HO)) (fun k hk => ⟨⟨HO.1 k hk.symm, trivial⟩, fun e => by
      obtain ⟨c1, e1⟩ := Kd.R_typed HO k hk.symm
      obtain ⟨c2, e2⟩ := Kd.S_typed HC.out k e.symm
      rw [e1] at e2
      cases e2⟩)
    (fun k hk => by have := heap_lt HC.rd.1; exact ⟨by omega, trivial⟩) (Kd.S_mono HC.out (fun k hk => ⟨⟨hk.1, trivial⟩, fun e => hk.2 e⟩)) HC.b0 HC.b0.size (by omega)
    (fun v1 w1 h1 h2 h3 h4 => h v1 w1 ⟨⟨(h3.block _ (heap_lt HC.rd.1) (Kd.S_ne HC.out HC.rd.1 (by decide))).trans HC.rd.1, HC.rd.2⟩, (h3.block _ (heap_lt HC.res) (Kd.S_ne HC.out HC.res (by decide))).trans HC.res, h1, h2⟩)
set_option maxHeartbeats 3200000 in
set_option maxRecDepth 100000 in
theorem imports_Cells.calls (a0 : ByteArray) (a1 : Int) (r1 : List (List ByteArray)) (r2 : Int) (r3 : Int) (r4 : Int) (w : World) (h : imports_Cells.f a0 a1 = some (r1, r2, r3, r4)) :
    Calls Tryz.prog 22 #[.string a0, .int .u8 a1] w fun e w' => ∃ v0_ : Value, e = .returned (.tuple #[v0_, .agg #[.int .i64 r2, .int .i64 r3], .int .i64 r4]) ∧ Kd.S (Kd.slice 9 Kd.string) 51 w' w.heap.size (fun _ => True) v0_ r1 ∧ Below w.heap.size w w' := by
  have hu40 := Tryz.underlying40
  have hu107 := Tryz.underlying107
  have HU := Aside0.mk (Option.some.inj h)
  clear h
  unfold cellsF at HU
  cases hsp : sepB a1
  · rw [hsp] at HU
    have HS := Aside0.mk (hsp ▸ separates_f a1)
    clear hsp
    go_enter Tryz.func22, Tryz.ntmps22
    go_wp2_with fail
    refine (imports_separates.calls a1 false _ HS.out).mono ?_
    rintro e w1 ⟨rfl, ⟨n1, rfl⟩⟩
    have K0 := Aside0.mk (blk_drewN (blk_new w (.cells #[.int .i64 0, .int .i64 0] 40)) n1)
    have HB := Aside0.mk (pw_below_drewN (below_alloc (Below.refl w.heap.size w) (.cells #[.int .i64 0, .int .i64 0] 40)) n1)
    obtain ⟨c0, c1, f0, f1⟩ := cells2 K0.out
    go_wp2
    refine ret_tct rfl rfl (put2 K0.out _ _) rfl ?_
    cases HU.out
    exact ⟨_, rfl, Kd.S_nil _ _ _ _ _, below2 HB.out (Nat.le_refl _) _ _⟩
  · rw [hsp] at HU
    have HS := Aside0.mk (hsp ▸ separates_f a1)
    clear hsp
    simp only [Bool.true_eq_false, if_false] at HU
    by_cases hz : a0.size > 16384
    · rw [if_pos hz] at HU
      go_enter Tryz.func22, Tryz.ntmps22
      go_wp2_with fail
      refine (imports_separates.calls a1 true _ HS.out).mono ?_
      rintro e w1 ⟨rfl, ⟨n1, rfl⟩⟩
      have K0 := Aside0.mk (blk_drewN (blk_new w (.cells #[.int .i64 0, .int .i64 0] 40)) n1)
      have HB := Aside0.mk (pw_below_drewN (below_alloc (Below.refl w.heap.size w) (.cells #[.int .i64 0, .int .i64 0] 40)) n1)
      obtain ⟨c0, c1, f0, f1⟩ := cells2 K0.out
      go_wp2
      refine ret_tct rfl rfl (put2 K0.out _ _) rfl ?_
      cases HU.out
      exact ⟨_, rfl, Kd.S_nil _ _ _ _ _, below2 HB.out (Nat.le_refl _) _ _⟩
    · rw [if_neg hz] at HU
      go_enter Tryz.func22, Tryz.ntmps22
      go_wp2_with fail
      refine (imports_separates.calls a1 true _ HS.out).mono ?_
      rintro e w1 ⟨rfl, ⟨n1, rfl⟩⟩
      go_wp2_with fail
      have HC : Aside0 (CInv w a0 a1 0 (fun _ => True) (.slice none 0 0) [] (((w.alloc (.cells #[.int .i64 0, .int .i64 0] 40)).drewN n1).alloc (.cells #[.string a0, .int .u8 a1, .int .i64 0, .int .i64 1, .int .i64 1] 107))) := ⟨by
        have hb := pw_below_drewN (below_alloc (Below.refl w.heap.size w) (.cells #[.int .i64 0, .int .i64 0] 40)) n1
        have h1 := IsS107.new w _ a0 a1 0 1 1 hb
        refine ⟨?_, blk_alloc (blk_drewN (blk_new w _) n1) _, Kd.S_nil _ _ _ _ _, below_alloc hb _⟩
        have h2 : ((w.alloc (.cells #[.int .i64 0, .int .i64 0] 40)).drewN n1).heap.size = w.heap.size + 1 := size_alloc _ _
        rw [h2] at h1
        exact h1⟩
      have hln : a0.data.toList.length = a0.size := by simp
      have HLN := Aside0.mk hln
      clear hln HS
      go_loopg [8, 9, 10, 11] (a0.size + 1) (fun kq v8 v9 v10 v11 wr => ∃ (i : Nat) (out : List (List ByteArray)), i ≤ a0.size ∧ Aside0 (a0.size - i < kq) ∧ Aside0 (out.length ≤ i) ∧ Aside0 (tabL a1 kq out (a0.data.toList.drop i) = tabL a1 (a0.size + 1) [] a0.data.toList) ∧ Aside0 (CInv w a0 a1 i (fun _ => True) v8 out wr))
      case atStart => exact ⟨0, [], Nat.zero_le _, ⟨by omega⟩, ⟨Nat.zero_le _⟩, ⟨rfl⟩, HC⟩
      case round =>
        clear HC
        obtain ⟨i, out, hi, HK, HA, HR, HV⟩ := hrel
        obtain ⟨A8, c8, rfl⟩ := Kd.S_slice HV.out.out
        obtain ⟨k, rfl⟩ : ∃ k, gk = k + 1 := ⟨gk - 1, by have := HK.out; omega⟩
        go_wp2_with fail
        refine (rd_more _ a0 a1 i w _ HV.out.rd).mono ?_
        rintro e w2 ⟨rfl, n2, rfl⟩
        by_cases hlt : i < a0.size
        · have hd : decide (i < a0.size) = true := decide_eq_true hlt
          have HNE : Aside0 (¬ a0.data.toList.drop i = []) := ⟨fun h => by have := congrArg List.length h; rw [List.length_drop, HLN.out] at this; simp at this; omega⟩
          by_cases hf : out.length = 2001
          · have t1 : ((out.length : Int) == 2001) = true := by rw [hf]; rfl
            have HE : Aside0 (tabL a1 (a0.size + 1) [] a0.data.toList = ([], 5, a0.data.toList.drop i)) := ⟨by rw [← HR.out, tabL, if_neg HNE.out, if_pos hf]⟩
            rw [HE.out, tabR_err _ _ i _ (by rw [HLN.out]; exact hi) (by decide)] at HU
            obtain ⟨c0, c1, f0, f1⟩ := cells2 HV.out.res
            obtain ⟨d0, d1, d2, d3, d4⟩ := HV.out.rd.rd.all
            clear HR HE hf HK HA
            go_wp2_with fail
            go_region
            all_goals
              go_wp2
              refine ret_tct rfl rfl (put2 (HV.out.drewN _).res _ _) rfl ?_
              cases HU.out
              exact ⟨_, rfl, Kd.S_nil _ _ _ _ _, below2 (HV.out.drewN _).b0 (Nat.le_refl _) _ _⟩
          · have t1 : ((out.length : Int) == 2001) = false := beq_false_of_ne (by omega)
            have HR2 : Aside0 (tabL a1 (a0.size + 1) [] a0.data.toList = if (rowL a1 ((a0.data.toList.drop i).length + 1) [] (a0.data.toList.drop i)).2.1 = 0 then tabL a1 k (out ++ [(rowL a1 ((a0.data.toList.drop i).length + 1) [] (a0.data.toList.drop i)).1]) (rowL a1 ((a0.data.toList.drop i).length + 1) [] (a0.data.toList.drop i)).2.2 else ([], (rowL a1 ((a0.data.toList.drop i).length + 1) [] (a0.data.toList.drop i)).2.1, (rowL a1 ((a0.data.toList.drop i).length + 1) [] (a0.data.toList.drop i)).2.2)) := ⟨by rw [← HR.out, tabL, if_neg HNE.out, if_neg hf]⟩
            have HLD : Aside0 ((a0.data.toList.drop i).length = a0.size - i) := ⟨by rw [List.length_drop, HLN.out]⟩
            rw [HR2.out] at HU
            rw [HLD.out] at HR2 HU
            generalize hRW : rowL a1 (a0.size - i + 1) [] (a0.data.toList.drop i) = RW at HR2 HU
            have HRW := Aside0.mk hRW
            clear hRW HR hf
            have HC0 : Aside0 (CInv w a0 a1 i (fun k => some k ≠ (Value.slice none 0 0).ownBlock) (.slice A8 out.length c8) out (wr.drewN n2)) := ⟨(HV.out.drewN n2).mono (fun _ _ => by simp [Value.ownBlock])⟩
            clear HV
            go_wp2_with fail
            go_loopg [9, 10, 11] (a0.size - i + 1) (fun kq v9 v10 v11 wi => ∃ (j : Nat) (row : List ByteArray), j ≤ a0.size ∧ i ≤ j ∧ Aside0 (a0.size - j < kq) ∧ Aside0 (row.length ≤ j) ∧ Aside0 (rowL a1 kq row (a0.data.toList.drop j) = RW) ∧ Aside0 (CInv w a0 a1 j (fun k => some k ≠ v9.ownBlock) (.slice A8 out.length c8) out wi) ∧ Aside0 (Kd.R Kd.string 9 wi w.heap.size (fun k => k ≠ w.heap.size + 1 ∧ k ≠ w.heap.size) v9 row))
            case atStart => exact ⟨i, [], hi, Nat.le_refl _, ⟨by omega⟩, ⟨Nat.zero_le _⟩, HRW, HC0, ⟨Kd.R_nil _ _ _ _ _⟩⟩
            case round =>
              clear HC0
              obtain ⟨j, row, hj, hij, HKj, HAj, HRj, HVj, HOj⟩ := hrel
              obtain ⟨kj, rfl⟩ : ∃ m, gk = m + 1 := ⟨gk - 1, by have := HKj.out; omega⟩
              have HSF : Aside0 ((cellL a1 (a0.data.toList.drop j)).2.2 = a0.data.toList.drop (a0.size - (cellL a1 (a0.data.toList.drop j)).2.2.length) ∧ (cellL a1 (a0.data.toList.drop j)).2.2.length ≤ a0.size - j) := ⟨by
                have h := suffix_at (by rw [HLN.out]; exact hj) (cellL_rest a1 (a0.data.toList.drop j))
                rw [HLN.out] at h
                exact h⟩
              have HRj2 : Aside0 ((if (cellL a1 (a0.data.toList.drop j)).2.1 = 0 then (match (cellL a1 (a0.data.toList.drop j)).2.2 with
                | [] => (row ++ [bs (cellL a1 (a0.data.toList.drop j)).1], 0, [])
                | d :: m => if d = 10 then (row ++ [bs (cellL a1 (a0.data.toList.drop j)).1], 0, m) else rowL a1 kj (row ++ [bs (cellL a1 (a0.data.toList.drop j)).1]) m) else ([], (cellL a1 (a0.data.toList.drop j)).2.1, (cellL a1 (a0.data.toList.drop j)).2.2)) = RW) := ⟨HRj.out⟩
              have HCE := Aside0.mk (rd_cell (w.heap.size + 1) a0 a1 j hj (by omega) w wr HVj.out.rd HVj.out.b0)
              clear HRj
              generalize cellL a1 (a0.data.toList.drop j) = Z at HSF HRj2 HCE
              obtain ⟨zb, ze, zr⟩ := Z
              dsimp only at HSF HRj2 HCE
              obtain ⟨p, hp, HZP, hpr⟩ : ∃ p, p = a0.size - zr.length ∧ Aside0 (zr = a0.data.toList.drop p) ∧ j ≤ p ∧ p ≤ a0.size := ⟨_, rfl, ⟨HSF.out.1⟩, by have := HSF.out.2; omega, by omega⟩
              rw [← hp] at HCE
              clear HSF hp
              rw [HZP.out] at HRj2
              clear HZP
              clear zr
              go_wp2_with fail
              refine HCE.out.mono ?_
              rintro e w3 ⟨rfl, h1, h2, h3⟩
              have HV3 := Aside0.mk (HVj.out.call h1 h2 h3)
              have HO3 := Aside0.mk (Kd.R_keep HOj.out h3 (fun _ hk => hk.1))
              clear h1 h2 h3 HVj HOj HCE
              by_cases hze : ze = 0
              · have t2 : (ze != 0) = false := by simp [hze]
                have HRj3 : Aside0 ((match a0.data.toList.drop p with
                | [] => (row ++ [bs zb], 0, [])
                | d :: m => if d = 10 then (row ++ [bs zb], 0, m) else rowL a1 kj (row ++ [bs zb]) m) = RW) := ⟨by rw [← HRj2.out, if_pos hze]⟩
                clear HRj2 hze
                go_wp2_with ((with_reducible refine gate_builtin (b := .append) (xs := #[.tmp 48, .tmp 50]) rfl ?_); at_builtin; refine app_row (bs zb) 48 50 rfl rfl _ row rfl rfl HV3.out HO3.out (by have := HAj.out; omega) ?_; intro v1 w4 h1 h2)
                generalize hrw : row ++ [bs zb] = row1 at h2 HRj3
                have HL1 : Aside0 (row1.length ≤ j + 1) := ⟨by rw [← hrw, List.length_append]; have := HAj.out; simp; omega⟩
                clear hrw
                obtain ⟨A9, c9, rfl⟩ := Kd.R_slice h2
                have HV4 := Aside0.mk h1
                have HO4 := Aside0.mk h2
                clear h1 h2 HV3 HO3
                go_wp2_with fail
                refine (rd_more _ a0 a1 p w _ HV4.out.rd).mono ?_
                rintro e w5 ⟨rfl, n5, rfl⟩
                have HV5 := Aside0.mk (HV4.out.drewN n5)
                have HO5 := Aside0.mk (Kd.R_drewN HO4.out n5)
                clear HV4 HO4
                by_cases hlp : p < a0.size
                · have hd2 : decide (p < a0.size) = true := decide_eq_true hlp
                  obtain ⟨d, HD2, HC2⟩ : ∃ d : UInt8, Aside0 (a0.data.toList.drop p = d :: a0.data.toList.drop (p + 1)) ∧ Aside0 (bt a0 (p : Int) = (d.toNat : Int)) := by
                    obtain ⟨d, h1, h2, h3⟩ := take_bt a0 p hlp
                    exact ⟨d, ⟨h2⟩, ⟨h3⟩⟩
                  rw [HD2.out] at HRj3
                  dsimp only at HRj3
                  go_wp2_with fail
                  refine (rd_next _ a0 a1 p hlp (by omega) w _ HV5.out.rd HV5.out.b0).mono ?_
                  rintro e w6 ⟨rfl, h1, h2, h3⟩
                  have HV6 := Aside0.mk (HV5.out.call h1 h2 h3)
                  have HO6 := Aside0.mk (Kd.R_keep HO5.out h3 (fun _ hk => hk.1))
                  clear h1 h2 h3 HV5 HO5
                  rw [HC2.out]
                  by_cases h10 : d = 10
                  · have t3 : ((d.toNat : Int) == 10) = true := by subst h10; rfl
                    rw [if_pos h10] at HRj3
                    have HE : Aside0 (tabL a1 (a0.size + 1) [] a0.data.toList = tabL a1 k (out ++ [row1]) (a0.data.toList.drop (p + 1))) := ⟨by rw [HR2.out, ← HRj3.out]; rfl⟩
                    rw [← HRj3.out] at HU
                    dsimp only at HU
                    rw [if_pos rfl, ← HE.out] at HU
                    clear HRj3 HR2 HRW h10
                    go_wp2_with ((with_reducible refine gate_builtin (b := .append) (xs := #[.tmp 60, .tmp 62]) rfl ?_); at_builtin; refine app_rows 60 62 rfl rfl _ row1 rfl rfl HV6.out HO6.out (by have := HA.out; omega) ?_; intro v2 w7 h1; have HV7 := Aside0.mk h1; clear h1 HV6 HO6)
                    go_wp2
                    go_roundg k
                    case measure => omega
                    case rel => exact ⟨p + 1, out ++ [row1], by omega, ⟨by have := HK.out; omega⟩, ⟨by rw [List.length_append]; have := HA.out; simp; omega⟩, ⟨HE.out.symm⟩, HV7⟩
                  · have t3 : ((d.toNat : Int) == 10) = false := beq_false_of_ne fun h => h10 ((u8_lit d 10 10 rfl (by decide)).1 h)
                    rw [if_neg h10] at HRj3
                    clear h10
                    go_wp2
                    go_roundg kj
                    case measure => omega
                    case rel => exact ⟨p + 1, row1, by omega, by omega, ⟨by have := HKj.out; omega⟩, ⟨by have := HL1.out; omega⟩, HRj3, HV6, HO6⟩
                · have hd2 : decide (p < a0.size) = false := decide_eq_false hlp
                  have HZ : Aside0 (a0.data.toList.drop p = []) := ⟨List.drop_of_length_le (by simp; omega)⟩
                  rw [HZ.out] at HRj3
                  dsimp only at HRj3
                  have HE : Aside0 (tabL a1 (a0.size + 1) [] a0.data.toList = tabL a1 k (out ++ [row1]) (a0.data.toList.drop p)) := ⟨by rw [HR2.out, ← HRj3.out, HZ.out]; rfl⟩
                  rw [← HRj3.out, ← HZ.out] at HU
                  dsimp only at HU
                  rw [if_pos rfl, ← HE.out] at HU
                  clear HRj3 HR2 HRW
                  go_wp2_with ((with_reducible refine gate_builtin (b := .append) (xs := #[.tmp 60, .tmp 62]) rfl ?_); at_builtin; refine app_rows 60 62 rfl rfl _ row1 rfl rfl HV5.out HO5.out (by have := HA.out; omega) ?_; intro v2 w7 h1; have HV7 := Aside0.mk h1; clear h1 HV5 HO5)
                  go_wp2
                  go_roundg k
                  case measure => omega
                  case rel => exact ⟨p, out ++ [row1], by omega, ⟨by have := HK.out; omega⟩, ⟨by rw [List.length_append]; have := HA.out; simp; omega⟩, ⟨HE.out.symm⟩, HV7⟩
              · have t2 : (ze != 0) = true := by simp [hze]
                have HE : Aside0 (RW = ([], ze, a0.data.toList.drop p)) := ⟨by rw [← HRj2.out, if_neg hze]⟩
                rw [HE.out] at HU
                dsimp only at HU
                rw [if_neg hze, tabR_err _ _ p _ (by rw [HLN.out]; exact hpr.2) hze] at HU
                clear HE HRj2 hze
                obtain ⟨c0, c1, f0, f1⟩ := cells2 HV3.out.res
                obtain ⟨d0, d1, d2, d3, d4⟩ := HV3.out.rd.rd.all
                go_wp2_with fail
                go_region
                all_goals
                  go_wp2
                  refine ret_tct rfl rfl (put2 (HV3.out.drewN _).res _ _) rfl ?_
                  cases HU.out
                  exact ⟨_, rfl, Kd.S_nil _ _ _ _ _, below2 (HV3.out.drewN _).b0 (Nat.le_refl _) _ _⟩
        · have hd : decide (i < a0.size) = false := decide_eq_false hlt
          have HE : Aside0 (tabL a1 (a0.size + 1) [] a0.data.toList = (out, 0, [])) := ⟨by rw [← HR.out, List.drop_of_length_le (by simp; omega), tabL]; rfl⟩
          rw [HE.out] at HU
          have HV1 := Aside0.mk (HV.out.drewN n2)
          obtain ⟨c0, c1, f0, f1⟩ := cells2 HV.out.res
          clear HV HR HE
          go_wp2
          refine ret_tct rfl rfl (put2 HV1.out.res _ _) rfl ?_
          cases HU.out
          exact ⟨_, rfl, Kd.S_mono (Kd.S_far (Kd.S_far HV1.out.out (fun _ hk => hk.1.2) _) (fun _ hk => hk.1.2) _) (fun _ _ => trivial), below2 HV1.out.b0 (Nat.le_refl _) _ _⟩
end Go.Proofs.YtghjhampigbbkaaGreatDoor.PA
end
section
namespace Go.Proofs.YtghjhampigbbkaaGreatDoor.PA
open Go.RowKit Go.Proofs.YtghjhampigbbkaaGreatDoorW.PrintWords Go.Proofs.YtghjhampigbbkaaGreatDoorW.PrintLast Go.Proofs.YtghjhampigbbkaaGreatDoorW.PrintMore
attribute [local go_sem] max2_int min2_int max_two min_two max_three min_three max_four min_four
set_option linter.unusedVariables false
set_option linter.unusedSimpArgs false
def name_Quote.f (k : Nat) (a0 : ByteArray) : Option (ByteArray × Int) := if (a0.size : Int) > 16384 then (some ((⟨#[]⟩ : ByteArray), 5)) else ((name_printable.f k a0).bind fun t172 => (if t172 = true then ((name_literal.f a0).bind fun t173 => (some (t173, 0))) else (some ((⟨#[]⟩ : ByteArray), 3))))
theorem name_Quote.mono : ∀ a0 k, LeO (name_Quote.f k a0) (name_Quote.f (k + 1) a0) := by
  intro a0 k
  unfold name_Quote.f
  repeat' first
      | (with_reducible exact name_printable.mono _ _)
      | (with_reducible exact LeO.refl _)
      | (with_reducible exact LeO.none _)
      | (with_reducible refine LeO.ite ?_ ?_)
      | (with_reducible refine LeO.bind ?_ (fun _ => ?_))
      | exact name_printable.mono _ _
      | exact LeO.none _
      | refine LeO.ite ?_ ?_
      | refine LeO.bind ?_ (fun _ => ?_)
set_option maxHeartbeats 8000000 in
set_option maxRecDepth 100000 in
theorem name_Quote.calls (k : Nat) (a0 : ByteArray) (r1 : ByteArray) (r2 : Int) (w : World) (h : name_Quote.f k a0 = some (r1, r2)) :
    Calls Tryz.prog 157 #[.string a0] w fun e w' => e = .returned (.tuple #[.string r1, .int .i64 r2]) ∧ Below w.heap.size w w' := by
  have HB := Aside0.mk (Below.refl w.heap.size w)
  have H : (if (a0.size : Int) > 16384 then (some ((⟨#[]⟩ : ByteArray), 5)) else ((name_printable.f k a0).bind fun t172 => (if t172 = true then ((name_literal.f a0).bind fun t173 => (some (t173, 0))) else (some ((⟨#[]⟩ : ByteArray), 3))))) = some (r1, r2) := h
  clear h
  by_cases c2 : (a0.size : Int) > 16384
  · rw [if_pos c2] at H
    have c2b0 : decide (16384 < (a0.size : Int)) = true := decide_eq_true c2
    have c2b1 : decide (16384 < a0.size) = true := decide_eq_true (by omega)
    clear c2
    simp only [Option.some.injEq, Prod.mk.injEq] at H
    obtain ⟨rfl, rfl⟩ := H
    go_enter Tryz.func157, Tryz.ntmps157
    go_wp2
    go_ret2
    exact ⟨by first | rfl | (simp [errW_none, errW_some] <;> rfl) | (simp [*, errW_none, errW_some] <;> rfl), by repeat (first | (with_reducible first | exact HB.out | apply below_alloc | apply pw_below_drewN | apply below_drew1) | exact HB.out)⟩
  · rw [if_neg c2] at H
    have c2b0 : decide (16384 < (a0.size : Int)) = false := decide_eq_false c2
    have c2b1 : decide (16384 < a0.size) = false := decide_eq_false (by omega)
    clear c2
    replace H := Option.bind_eq_some_iff.mp H
    obtain ⟨t172, A30, H⟩ := H
    replace H : (if t172 = true then ((name_literal.f a0).bind fun t173 => (some (t173, 0))) else (some ((⟨#[]⟩ : ByteArray), 3))) = some (r1, r2) := H
    have A3 := Aside0.mk A30
    clear A30
    by_cases c4 : t172 = true
    · subst c4
      have H1 : ((name_literal.f a0).bind fun t173 => (some (t173, 0))) = some (r1, r2) := by rw [if_pos rfl] at H; exact H
      clear H
      have H := H1
      clear H1
      replace H := Option.bind_eq_some_iff.mp H
      obtain ⟨t173, A50, H⟩ := H
      replace H : (some (t173, 0)) = some (r1, r2) := H
      have A5 := Aside0.mk A50
      clear A50
      simp only [Option.some.injEq, Prod.mk.injEq] at H
      obtain ⟨rfl, rfl⟩ := H
      go_enter Tryz.func157, Tryz.ntmps157
      go_wp2_with (first | ((with_reducible refine gate_callee (f := 193) rfl ?_); refine goesL_ (some 8) rfl rfl Tryz.func193 (by kernel_rfl) rfl #[.string a0] rfl (by (try simp only [List.map_toArray, List.map_cons, List.map_nil]); first | done | rfl | (simp only [List.length_drop, List.length_take]; rfl)) ?_; (with_reducible refine (name_printable.calls k a0 true _ A3.out).mono ?_); rintro e w' ⟨rfl, ⟨nd, rfl⟩⟩; refine ⟨_, rfl, ?_⟩) | ((with_reducible refine gate_callee (f := 194) rfl ?_); refine goesL_ (some 11) rfl rfl Tryz.func194 (by kernel_rfl) rfl #[.string a0] rfl (by (try simp only [List.map_toArray, List.map_cons, List.map_nil]); first | done | rfl | (simp only [List.length_drop, List.length_take]; rfl)) ?_; (with_reducible refine (name_literal.calls a0 t173 _ A5.out).mono ?_); rintro e w6 ⟨rfl, hb⟩; refine ⟨_, rfl, ?_⟩; have n0_ := Aside0.mk (below_step (by repeat (first | (with_reducible first | exact HB.out | apply below_alloc | apply pw_below_drewN | apply below_drew1) | exact HB.out)) hb); clear HB; have HB := n0_; clear n0_; (try clear hb); (try clear hb2); (try clear hk); (try clear hi)))
      go_ret2
      exact ⟨by first | rfl | (simp [errW_none, errW_some] <;> rfl) | (simp [*, errW_none, errW_some] <;> rfl), by repeat (first | (with_reducible first | exact HB.out | apply below_alloc | apply pw_below_drewN | apply below_drew1) | exact HB.out)⟩
    · replace c4 := Bool.eq_false_iff.mpr c4
      subst c4
      have H1 : (some ((⟨#[]⟩ : ByteArray), 3)) = some (r1, r2) := by rw [if_neg (show ¬ (false = true) by decide)] at H; exact H
      clear H
      have H := H1
      clear H1
      simp only [Option.some.injEq, Prod.mk.injEq] at H
      obtain ⟨rfl, rfl⟩ := H
      go_enter Tryz.func157, Tryz.ntmps157
      go_wp2_with (first | ((with_reducible refine gate_callee (f := 193) rfl ?_); refine goesL_ (some 8) rfl rfl Tryz.func193 (by kernel_rfl) rfl #[.string a0] rfl (by (try simp only [List.map_toArray, List.map_cons, List.map_nil]); first | done | rfl | (simp only [List.length_drop, List.length_take]; rfl)) ?_; (with_reducible refine (name_printable.calls k a0 false _ A3.out).mono ?_); rintro e w' ⟨rfl, ⟨nd, rfl⟩⟩; refine ⟨_, rfl, ?_⟩))
      go_ret2
      exact ⟨by first | rfl | (simp [errW_none, errW_some] <;> rfl) | (simp [*, errW_none, errW_some] <;> rfl), by repeat (first | (with_reducible first | exact HB.out | apply below_alloc | apply pw_below_drewN | apply below_drew1) | exact HB.out)⟩
end Go.Proofs.YtghjhampigbbkaaGreatDoor.PA
end

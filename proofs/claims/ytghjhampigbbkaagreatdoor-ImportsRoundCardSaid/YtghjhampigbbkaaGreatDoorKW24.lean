/- Texts of this claim, merged by a program: XAwP, XAwake, XLwrites. -/
import Derived.ArgAppend
import Derived.Below
import Derived.BigQuiet
import Derived.Deep.AppendLies
import Derived.Deep.CutBlock
import Derived.Deep.DeepCutAuto
import Derived.Deep.Draws
import Derived.Deep.LoopGhost
import Derived.Deep.OwnRows
import Derived.Deep.QuietTactic
import Derived.Deep.RegionHeld3
import Derived.Ground.Names2Prog
import Derived.Ground.SlgnProg
import Derived.KernelRfl
import Derived.Laws.BitsLemmas
import Derived.Laws.BytesArg
import Derived.Laws.Cover1
import Derived.Laws.Externs
import Derived.Laws.IdiomCopy
import Derived.Laws.MakeOwn
import Derived.Laws.OwnMore
import Derived.Laws.Rows
import Derived.Laws.Slices
import Derived.Laws.Small
import Derived.Laws.Strings
import Derived.Laws.StructEq
import Derived.Lib.AppendIntMem
import Derived.Lib.AppendStr
import Derived.Lib.Builder
import Derived.Lib.Bytealg
import Derived.Lib.ConvBytes
import Derived.Lib.CountLaws
import Derived.Lib.ItoaMem
import Derived.Lib.MakeNoZero
import Derived.Lib.Replace
import Derived.Lib.SliceRun
import Derived.Lib.Slices
import Derived.Lib.Strings
import Derived.Lib.UnsafeStr
import Derived.Lib.Walk
import Derived.Maps.AppendAt
import Derived.OrdersHeld
import Derived.OwnWalk
import Derived.RowKit
import Derived.RowKit3
import Derived.Shelf.Abstract
import Derived.Shelf.SlSortCmp.QuietGrown
import Derived.Shelf.Slices.Cells
import Derived.Shelf.Slices.Clone
import Derived.Shelf.Slices.CompactS
import Derived.Shelf.Slices.In.SortNone
import Derived.Shelf.Slices.SearchI
import Derived.Shelf.Slices.Turned
import Derived.Shelf.SlicesE.Clone
import Derived.Shelf.Small.Bits
import Derived.Shelf.Small.Strs
import Derived.Shelf.Small.Wraps
import Derived.Shelf.Sort.Plain
import Derived.Shelf.Strconv.Atoi
import Derived.Shelf.Strconv.AtoiAll
import Derived.Shelf.Strconv.AtoiErrFast
import Derived.Shelf.Strconv.AtoiFail
import Derived.Shelf.Strconv.AtoiInnerAll
import Derived.Shelf.Strconv.AtoiLong
import Derived.Shelf.Strconv.Clone
import Derived.Shelf.Strconv.ErrVarAll
import Derived.Shelf.Strconv.Itoa0
import Derived.Shelf.Strconv.Itoa1
import Derived.Shelf.Strconv.Itoa2
import Derived.Shelf.Strconv.Itoa3
import Derived.Shelf.Strconv.Lower
import Derived.Shelf.Strconv.ParseInt10
import Derived.Shelf.Strconv.ParseIntEmpty
import Derived.Shelf.Strconv.ParseUint10
import Derived.Shelf.Strconv.ParseUint10Any
import Derived.Shelf.Strconv.ParseUint10Empty
import Derived.Shelf.Strconv.RangeError
import Derived.Shelf.Strconv.SyntaxError
import Derived.Shelf.Strconv.ToError
import Derived.Shelf.Strconv.ToErrorRange
import Derived.Shelf.Strings.Builder1
import Derived.Shelf.Strings.Builder2
import Derived.Shelf.Strings.Builder2Cap
import Derived.Shelf.Strings.BuilderCap
import Derived.Shelf.Strings.BuilderF
import Derived.Shelf.Strings.BuilderK
import Derived.Shelf.Strings.Count
import Derived.Shelf.Strings.Prefix
import Derived.Shelf.Strings.Replace
import Derived.Shelf.Strings.RuneCount
import Derived.Shelf.Strings.Search1
import Derived.Shelf.Strings.Search2
import Derived.Shelf.Strings.Search3
import Derived.Shelf.Strings.Shaped
import Derived.Shelf.Strings.Split
import Derived.Shelf.Strings.SplitShaped
import Derived.Shelf.Unicode.Decode
import Derived.Shelf.Unicode.DecodeAny
import Derived.Shelf.Unicode.DecodeSlow
import Derived.Shelf.Utf8.RuneCount
import Derived.Tactics
import Derived.Test.YtghjhampigbbkaaGreatDoorProg
import Derived.WalkKit
import Derived.WideLaws
import Derived.Test.YtghjhampigbbkaaGreatDoorKW1
import Derived.Test.YtghjhampigbbkaaGreatDoorKW3
import Derived.Test.YtghjhampigbbkaaGreatDoorKW4
import Derived.Test.YtghjhampigbbkaaGreatDoorKW5
import Derived.Test.YtghjhampigbbkaaGreatDoorKW6
import Derived.Test.YtghjhampigbbkaaGreatDoorKW7
import Derived.Test.YtghjhampigbbkaaGreatDoorKW8
import Derived.Test.YtghjhampigbbkaaGreatDoorKW9
import Derived.Test.YtghjhampigbbkaaGreatDoorKW10
import Derived.Test.YtghjhampigbbkaaGreatDoorKW11
import Derived.Test.YtghjhampigbbkaaGreatDoorKW13
import Derived.Test.YtghjhampigbbkaaGreatDoorKW14
import Derived.Test.YtghjhampigbbkaaGreatDoorKW15
import Derived.Test.YtghjhampigbbkaaGreatDoorKW16
import Derived.Test.YtghjhampigbbkaaGreatDoorKW17
import Derived.Test.YtghjhampigbbkaaGreatDoorKW18
import Derived.Test.YtghjhampigbbkaaGreatDoorKW19
import Derived.Test.YtghjhampigbbkaaGreatDoorKW20
import Derived.Test.YtghjhampigbbkaaGreatDoorKW21
import Derived.Test.YtghjhampigbbkaaGreatDoorKW22
import Derived.Test.YtghjhampigbbkaaGreatDoorKW23
set_option linter.unusedVariables false
set_option linter.unusedSimpArgs false
section
namespace Go.Proofs.YtghjhampigbbkaaGreatDoor.PA
open Go.RowKit Go.Proofs.YtghjhampigbbkaaGreatDoorW.PrintWords Go.Proofs.YtghjhampigbbkaaGreatDoorW.PrintLast Go.Proofs.YtghjhampigbbkaaGreatDoorW.PrintMore
def awS : ByteArray := ⟨#[119, 104, 111, 44, 119, 104, 97, 116, 44, 119, 104, 101, 110, 10, 99, 49, 44, 97, 44, 53, 10, 99, 49, 44, 34, 98, 34, 44, 51, 10]⟩
def awB : S69 := ⟨⟨#[99, 49]⟩, ⟨#[98]⟩, ⟨#[]⟩, 5, 3, []⟩
def awA : S69 := ⟨⟨#[99, 49]⟩, ⟨#[97]⟩, ⟨#[]⟩, 5, 5, []⟩
theorem aw_plain : casebooklaw13_plain.f = some (0, 1, -1, -1, 2, [], [], 44) := by rfl
theorem aw_valid : imports_ValidMapping.f 20 0 1 (-1) (-1) 2 [] [] 44 = some true := by kernel_rfl
theorem aw_import : importF true awS 0 1 (-1) (-1) 2 [] [] 44 = ([awB, awA], 0, 0, 0) := by kernel_rfl
theorem aw_rows : (cellsF awS 44).1.length = 3 := by kernel_rfl
theorem aw_write : writeF [[⟨#[120, 34, 121]⟩]] 44 = (⟨#[34, 120, 34, 34, 121, 34, 10]⟩, 0) := by kernel_rfl
theorem aw_same : casebookref12_Same.f 20 [awB, awA] [awB, awA] = some true := by kernel_rfl
theorem aw_map : MapOK 0 1 (-1) (-1) 2 [] [] := ⟨by decide, by decide, by decide, by decide, by decide, rfl, rfl⟩
end Go.Proofs.YtghjhampigbbkaaGreatDoor.PA
end
section
namespace Go.Proofs.YtghjhampigbbkaaGreatDoor.PA
open Go.RowKit Go.Sort Go.Proofs.YtghjhampigbbkaaGreatDoorW.PrintWords Go.Proofs.YtghjhampigbbkaaGreatDoorW.PrintLast Go.Proofs.YtghjhampigbbkaaGreatDoorW.PrintMore
theorem C_blk {α : Type} {d : Kd α} {W : World} {g : Nat} {e : TypeId} {xs : List α} {cs : List Value} (h : W.heap[g]? = some (.cells cs.toArray e (0, 0))) (hr : Reps (d.K W) d.sz xs cs) (hl : xs.length ≤ 9223372036854775807) :
    d.C W (some ⟨g, 0, none⟩) xs.length xs := by
  refine ⟨rfl, hl, fun _ => ⟨⟨g, 0, none⟩, rfl, fun j p hj => ⟨_, ?_, hr.2 j p hj, fun i u hi => ?_⟩⟩⟩
  · have hjl : j < xs.length := by
      rcases Nat.lt_or_ge j xs.length with h' | h'
      · exact h'
      · rw [List.getElem?_eq_none h'] at hj; cases hj
    rw [List.length_take, List.length_drop, hr.1]
    have : (j + 1) * d.sz ≤ xs.length * d.sz := Nat.mul_le_mul_right _ hjl
    rw [Nat.add_mul, Nat.one_mul] at this
    omega
  · rw [List.getElem?_take] at hi
    split at hi
    · rw [List.getElem?_drop] at hi
      rw [add_plain, blk_cell h, List.getElem?_toArray]
      exact hi
    · cases hi
theorem sorts_two : SortsE 2 := fun g cap z ds0 tail w0 w h1 h2 h3 h4 => SortStable_small g cap z ds0 tail w0 w h1 h2 h3 (by omega)
theorem aw_sorts : ∀ n, n + 1 = (cellsF awS 44).1.length → SortsE n := by
  intro n hn
  rw [aw_rows] at hn
  obtain rfl : n = 2 := by omega
  exact sorts_two
theorem aw_wr (w3 : World) (hL : Laid w3) (s : ByteArray) (hs : s.size ≤ 1048576) : Calls Tryz.prog 12 #[.slice (some ⟨w3.heap.size + 1, 0, none⟩) 1 1, .int .u8 44] ((w3.alloc (.cells #[.string s] 9)).alloc (.cells #[.slice (some ⟨w3.heap.size, 0, none⟩) 1 1] 51))
    (writePost ((w3.alloc (.cells #[.string s] 9)).alloc (.cells #[.slice (some ⟨w3.heap.size, 0, none⟩) 1 1] 51)) (writeF [[s]] 44)) := by
  have h := Write_at (some ⟨(w3.alloc (.cells #[.string s] 9)).heap.size, 0, none⟩) 1 [[s]] 44 ((w3.alloc (.cells #[.string s] 9)).alloc (.cells #[.slice (some ⟨w3.heap.size, 0, none⟩) 1 1] 51))
    (hL.below (below_alloc (below_alloc (Below.refl _ _) _) _))
    (C_blk (cs := [.slice (some ⟨w3.heap.size, 0, none⟩) 1 1]) (blk_new _ _) (Reps.one ⟨_, _, rfl, Nat.le_refl _, C_blk (cs := [.string s]) (xs := [s]) (blk_alloc (blk_new w3 _) _) (Reps.one rfl (Reps.none _ _)) (by simp)⟩ (Reps.none _ _)) (by simp))
    ⟨fun r hr => by simp at hr; subst hr; exact ⟨by simp, fun x hx => by simp at hx; subst hx; exact hs⟩, by simp⟩
  rw [size_alloc] at h
  exact h
def awCells : List Value := [.string ⟨#[99, 49]⟩, .string ⟨#[98]⟩, .string ⟨#[]⟩, .int .i64 5, .int .i64 3, .slice none 0 0, .string ⟨#[99, 49]⟩, .string ⟨#[97]⟩, .string ⟨#[]⟩, .int .i64 5, .int .i64 5, .slice none 0 0]
theorem aw_reps (W : World) : Reps (k69.K W) 6 [awB, awA] awCells := by
  have h : ∀ x : S69, x.f5 = [] → k69.K W x [.string x.f0, .string x.f1, .string x.f2, .int .i64 x.f3, .int .i64 x.f4, .slice none 0 0] := fun x hx => by
    have := k69_mk W x (A5 := none) (c5 := 0) (by rw [hx]; exact Nat.le_refl _) (by rw [hx]; exact ⟨rfl, by simp, fun h => absurd h (by simp)⟩)
    rw [hx] at this
    exact this
  refine ⟨rfl, fun j p hj => ?_⟩
  match j, hj with
  | 0, hj => cases hj; exact h awB rfl
  | 1, hj => cases hj; exact h awA rfl
theorem aw_sm (A7 : Option Addr) (c7 : Nat) (hc : [awB, awA].length ≤ c7) (w4 : World) (h7 : Kd.C k69 w4 A7 [awB, awA].length [awB, awA]) :
    Calls Tryz.prog 20 #[.agg #[.slice A7 2 c7], .agg #[.slice (some ⟨w4.heap.size, 0, none⟩) 2 2]] (w4.alloc (.cells awCells.toArray 69)) fun e w' => e = .returned (.bool true) ∧ Below (w4.alloc (.cells awCells.toArray 69)).heap.size (w4.alloc (.cells awCells.toArray 69)) w' :=
  casebookref12_Same.calls 20 A7 c7 [awB, awA] (some ⟨w4.heap.size, 0, none⟩) 2 [awB, awA] true _ (Kd.C_below h7 (below_alloc (Below.refl _ _) _)) hc (C_blk (cs := awCells) (blk_new _ _) (aw_reps _) (by simp)) (by simp) aw_same
set_option maxHeartbeats 3200000 in
set_option maxRecDepth 100000 in
theorem awake_true (w : World) (hLd : Laid w) : Calls Tryz.prog 10 #[] w fun e w' => e = .returned (.bool true) ∧ Below w.heap.size w w' := by
  have hu38 := Tryz.underlying38
  have hu40 := Tryz.underlying40
  have hu69 := Tryz.underlying69
  have HLd := Aside0.mk hLd
  clear hLd
  go_enter Tryz.func10, Tryz.ntmps10
  go_wp2_with fail
  refine (casebooklaw13_plain.calls _ _ _ _ _ _ _ _ w aw_plain).mono ?_
  rintro e w1 ⟨v5, v6, rfl, h5, h6, hb1⟩
  obtain ⟨A5, c5, rfl, hc5, hC5⟩ := Kd.R_reads h5
  obtain ⟨A6, c6, rfl, hc6, hC6⟩ := Kd.R_reads h6
  have HIM := Aside0.mk (Import_at awS 0 1 (-1) (-1) 2 A5 c5 [] A6 c6 [] 44 w1 (HLd.out.below hb1) hC5 hc5 hC6 hc6 20 true aw_valid (fun _ => aw_map) aw_sorts)
  have HB1 := Aside0.mk hb1
  clear h5 h6 hb1 hc5 hC5 hc6 hC6
  go_wp2_with fail
  refine HIM.out.mono ?_
  intro e w2 hpost
  rw [aw_import] at hpost
  obtain ⟨v, rfl, hv, hb⟩ := hpost
  obtain ⟨A7, c7, rfl, hc7, hC7⟩ := Kd.R_reads hv
  have HC7 := Aside0.mk hC7
  have HB2 := Aside0.mk (below_step HB1.out hb)
  clear hv hC7 hb HIM HB1
  go_upto_region 2 with fail
  have hw3 : ∀ o1 o2, ((w2.alloc o1).alloc o2).heap[w2.heap.size]? = some o1 ∧ Below w2.heap.size w2 ((w2.alloc o1).alloc o2) := fun o1 o2 =>
    have h := two_new (Below.refl _ ((w2.alloc o1).alloc o2))
    ⟨h.1, h.2.2⟩
  have h0 := hw3 (.cells #[.slice A7 [awB, awA].length c7] 38) (.cells #[.int .i64 0, .int .i64 0] 40)
  clear hw3
  simp only [List.length_cons, List.length_nil, Nat.zero_add, Nat.reduceAdd] at h0
  generalize (w2.alloc (.cells #[.slice A7 2 c7] 38)).alloc (.cells #[.int .i64 0, .int .i64 0] 40) = w3 at h0 ⊢
  have HG3 := Aside0.mk h0.1
  have HB3 := Aside0.mk (below_step HB2.out h0.2)
  have HC8 := Aside0.mk (Kd.C_below HC7.out h0.2)
  generalize w2.heap.size = g1 at HG3 ⊢
  clear h0 HC7 HB2
  have HWR := Aside0.mk (aw_wr w3 (HLd.out.below HB3.out))
  go_wp2_with fail
  refine (HWR.out ⟨#[120, 34, 121]⟩ (by decide)).mono ?_
  rintro e w4 ⟨rfl, hb⟩
  rw [aw_write]
  have HB4 := Aside0.mk (below_step (below_alloc (below_alloc (Below.refl _ _) _) _) hb)
  have HC9 := Aside0.mk (Kd.C_below HC8.out HB4.out)
  have hg4 := blk_cell (blk_below HG3.out HB4.out) 0
  clear hb HWR HG3 HC8
  go_wp2_with fail
  refine (aw_sm A7 c7 hc7 w4 HC9.out).mono ?_
  rintro e w5 ⟨rfl, hb⟩
  have HB5 := Aside0.mk (below_step (below_step HB3.out HB4.out) (below_step (below_alloc (Below.refl _ _) _) hb))
  clear hb
  go_wp2
  go_ret
  exact ⟨rfl, HB5.out⟩
end Go.Proofs.YtghjhampigbbkaaGreatDoor.PA
end
section
namespace Go.Proofs.YtghjhampigbbkaaGreatDoor.PA
open Go.RowKit Go.Proofs.YtghjhampigbbkaaGreatDoorW.PrintWords Go.Proofs.YtghjhampigbbkaaGreatDoorW.PrintLast Go.Proofs.YtghjhampigbbkaaGreatDoorW.PrintMore
def wideB (rows : List (List ByteArray)) : Bool := (decide (rows.length > 60) && decide (rows.length ≤ 2001)) || decide (rows.length > 3000) || rows.any p37
theorem wide_f (rows : List (List ByteArray)) : casebooklaw13_wide.f rows = some (wideB rows) := by
  unfold casebooklaw13_wide.f wideB ContainsFunc_37.f
  by_cases h1 : rows.length > 60
  · rw [if_pos (show (rows.length : Int) > 60 by omega)]
    by_cases h2 : rows.length ≤ 2001
    · rw [if_pos (show (rows.length : Int) ≤ 2001 by omega)]; simp [h1, h2]
    · rw [if_neg (show ¬ (rows.length : Int) ≤ 2001 by omega)]
      by_cases h3 : rows.length > 3000
      · rw [if_pos (show (rows.length : Int) > 3000 by omega)]; simp [h3]
      · rw [if_neg (show ¬ (rows.length : Int) > 3000 by omega)]; simp [h2, h3]
  · rw [if_neg (show ¬ (rows.length : Int) > 60 by omega)]
    have h3 : ¬ rows.length > 3000 := by omega
    rw [if_neg (show ¬ (rows.length : Int) > 3000 by omega)]; simp [h1, h3]
theorem fits_of_wide {rows : List (List ByteArray)} (h : wideB rows = false) : fitsT rows := by
  unfold wideB at h
  rw [Bool.or_eq_false_iff, Bool.or_eq_false_iff] at h
  obtain ⟨⟨_, h3⟩, h4⟩ := h
  refine ⟨fun r hr => ?_, by have := of_decide_eq_false h3; omega⟩
  have hp := List.any_eq_false.1 h4 r hr
  unfold p37 at hp
  simp only [Bool.or_eq_true, not_or, decide_eq_true_eq, Bool.not_eq_true] at hp
  obtain ⟨hp1, hp2⟩ := hp
  refine ⟨by omega, fun s hs => ?_⟩
  have hq := List.any_eq_false.1 hp2 s hs
  unfold p38 at hq
  simp only [decide_eq_true_eq] at hq
  omega
set_option maxHeartbeats 1600000 in
set_option maxRecDepth 100000 in
theorem law_writes (A0 : Option Addr) (c0 : Nat) (rows : List (List ByteArray)) (sp : Int) (w : World) (hLd : Laid w) (hr0 : Kd.C (Kd.slice 9 Kd.string) w A0 rows.length rows) (hc0 : rows.length ≤ c0) :
    Calls Tryz.prog 3 #[.slice A0 rows.length c0, .int .u8 sp] w fun e w' => e = .returned (.bool true) ∧ Below w.heap.size w w' := by
  have HAW := Aside0.mk (awake_true w hLd)
  have HWD := Aside0.mk (fun W hb => casebooklaw13_wide.calls A0 c0 rows _ W (Kd.C_below hr0 hb) hc0 (wide_f rows))
  cases hw : wideB rows
  · rw [hw] at HWD
    have HW1 := Aside0.mk (fun W hb => Write_at A0 c0 rows sp W (hLd.below hb) (Kd.C_below hr0 hb) (fits_of_wide hw))
    have HW2 := Aside0.mk (fun W hb => RWrite_at A0 c0 rows sp W (Kd.C_below hr0 hb) hc0 (fits_of_wide hw))
    clear hLd hr0 hc0 hw
    go_enter Tryz.func3, Tryz.ntmps3
    go_wp2_with fail
    refine HAW.out.mono ?_
    rintro e w1 ⟨rfl, hb1⟩
    have HB1 := Aside0.mk hb1
    clear hb1
    go_wp2_with fail
    refine (HWD.out _ HB1.out).mono ?_
    rintro e w2 ⟨rfl, hb2⟩
    have HB2 := Aside0.mk (below_step HB1.out hb2)
    clear hb2
    go_wp2_with fail
    refine (HW1.out _ HB2.out).mono ?_
    rintro e w3 ⟨rfl, hb3⟩
    have HB3 := Aside0.mk (below_step HB2.out hb3)
    clear hb3
    go_wp2_with fail
    refine (HW2.out _ HB3.out).mono ?_
    rintro e w4 ⟨rfl, hb4⟩
    have HB4 := Aside0.mk (below_step HB3.out hb4)
    clear hb4 HW1 HW2
    generalize writeF rows sp = R
    obtain ⟨x, y⟩ := R
    have t1 : (x.toList == x.toList) = true := by simp
    have t2 : (y == y) = true := by simp
    go_wp2
    go_ret
    exact ⟨rfl, HB4.out⟩
  · rw [hw] at HWD
    clear hLd hr0 hc0 hw
    go_enter Tryz.func3, Tryz.ntmps3
    go_wp2_with fail
    refine HAW.out.mono ?_
    rintro e w1 ⟨rfl, hb1⟩
    have HB1 := Aside0.mk hb1
    clear hb1
    go_wp2_with fail
    refine (HWD.out _ HB1.out).mono ?_
    rintro e w2 ⟨rfl, hb2⟩
    have HB2 := Aside0.mk (below_step HB1.out hb2)
    clear hb2
    go_wp2
    go_ret
    exact ⟨rfl, HB2.out⟩
end Go.Proofs.YtghjhampigbbkaaGreatDoor.PA
end

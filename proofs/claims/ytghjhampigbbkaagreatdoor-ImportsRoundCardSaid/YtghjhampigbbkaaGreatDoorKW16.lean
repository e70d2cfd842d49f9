/- Texts of this claim, merged by a program: XSort, XSortN, XBlk, XBlk2, XBlkE. -/
import Derived.ArgAppend
import Derived.Below
import Derived.BigQuiet
import Derived.Deep.AppendLies
import Derived.Deep.CutBlock
import Derived.Deep.DeepCutAuto
import Derived.Deep.Draws
import Derived.Deep.LoopGhost
import Derived.Deep.OwnRows
import Derived.Deep.QuietTactic
import Derived.Deep.RegionHeld3
import Derived.Ground.Names2Prog
import Derived.Ground.SlgnProg
import Derived.KernelRfl
import Derived.Laws.BitsLemmas
import Derived.Laws.BytesArg
import Derived.Laws.Cover1
import Derived.Laws.Externs
import Derived.Laws.IdiomCopy
import Derived.Laws.MakeOwn
import Derived.Laws.OwnMore
import Derived.Laws.Rows
import Derived.Laws.Slices
import Derived.Laws.Small
import Derived.Laws.Strings
import Derived.Laws.StructEq
import Derived.Lib.AppendStr
import Derived.Lib.Builder
import Derived.Lib.ConvBytes
import Derived.Lib.MakeNoZero
import Derived.Lib.Slices
import Derived.Lib.Strings
import Derived.Lib.UnsafeStr
import Derived.Lib.Walk
import Derived.Maps.AppendAt
import Derived.OrdersHeld
import Derived.OwnWalk
import Derived.RowKit
import Derived.RowKit3
import Derived.Shelf.Abstract
import Derived.Shelf.SlSortCmp.QuietGrown
import Derived.Shelf.Slices.Cells
import Derived.Shelf.Slices.Clone
import Derived.Shelf.Slices.CompactS
import Derived.Shelf.Slices.In.SortNone
import Derived.Shelf.Slices.SearchI
import Derived.Shelf.Slices.Turned
import Derived.Shelf.SlicesE.Clone
import Derived.Shelf.Small.Bits
import Derived.Shelf.Small.Strs
import Derived.Shelf.Small.Wraps
import Derived.Shelf.Sort.Plain
import Derived.Shelf.Strconv.Atoi
import Derived.Shelf.Strconv.AtoiAll
import Derived.Shelf.Strconv.AtoiErrFast
import Derived.Shelf.Strconv.AtoiFail
import Derived.Shelf.Strconv.AtoiInnerAll
import Derived.Shelf.Strconv.AtoiLong
import Derived.Shelf.Strconv.Clone
import Derived.Shelf.Strconv.ErrVarAll
import Derived.Shelf.Strconv.Itoa0
import Derived.Shelf.Strconv.Itoa1
import Derived.Shelf.Strconv.Itoa2
import Derived.Shelf.Strconv.Itoa3
import Derived.Shelf.Strconv.Lower
import Derived.Shelf.Strconv.ParseInt10
import Derived.Shelf.Strconv.ParseIntEmpty
import Derived.Shelf.Strconv.ParseUint10
import Derived.Shelf.Strconv.ParseUint10Any
import Derived.Shelf.Strconv.ParseUint10Empty
import Derived.Shelf.Strconv.RangeError
import Derived.Shelf.Strconv.SyntaxError
import Derived.Shelf.Strconv.ToError
import Derived.Shelf.Strconv.ToErrorRange
import Derived.Shelf.Strings.Builder1
import Derived.Shelf.Strings.Builder2
import Derived.Shelf.Strings.Builder2Cap
import Derived.Shelf.Strings.BuilderCap
import Derived.Shelf.Strings.BuilderF
import Derived.Shelf.Strings.BuilderK
import Derived.Shelf.Strings.Count
import Derived.Shelf.Strings.Prefix
import Derived.Shelf.Strings.Replace
import Derived.Shelf.Strings.RuneCount
import Derived.Shelf.Strings.Search1
import Derived.Shelf.Strings.Search2
import Derived.Shelf.Strings.Search3
import Derived.Shelf.Strings.Shaped
import Derived.Shelf.Strings.Split
import Derived.Shelf.Strings.SplitShaped
import Derived.Shelf.Unicode.Decode
import Derived.Shelf.Unicode.DecodeAny
import Derived.Shelf.Unicode.DecodeSlow
import Derived.Shelf.Utf8.RuneCount
import Derived.Tactics
import Derived.Test.YtghjhampigbbkaaGreatDoorProg
import Derived.WalkKit
import Derived.WideLaws
import Derived.Test.YtghjhampigbbkaaGreatDoorKW3
import Derived.Test.YtghjhampigbbkaaGreatDoorKW4
import Derived.Test.YtghjhampigbbkaaGreatDoorKW5
import Derived.Test.YtghjhampigbbkaaGreatDoorKW6
import Derived.Test.YtghjhampigbbkaaGreatDoorKW7
import Derived.Test.YtghjhampigbbkaaGreatDoorKW8
import Derived.Test.YtghjhampigbbkaaGreatDoorKW9
import Derived.Test.YtghjhampigbbkaaGreatDoorKW10
import Derived.Test.YtghjhampigbbkaaGreatDoorKW11
import Derived.Test.YtghjhampigbbkaaGreatDoorKW13
import Derived.Test.YtghjhampigbbkaaGreatDoorKW14
import Derived.Test.YtghjhampigbbkaaGreatDoorKW15
set_option linter.unusedVariables false
set_option linter.unusedSimpArgs false
section
namespace Go.Proofs.YtghjhampigbbkaaGreatDoor.PA
open Go.RowKit Go.Sort Go.Proofs.YtghjhampigbbkaaGreatDoorW.PrintWords Go.Proofs.YtghjhampigbbkaaGreatDoorW.PrintLast Go.Proofs.YtghjhampigbbkaaGreatDoorW.PrintMore
set_option maxHeartbeats 1600000 in
set_option maxRecDepth 100000 in
theorem pdq_F (g cap : Nat) (z : S123) (ds0 : List S123) (tail : List Value) (lim : Int) (w0 w : World) (hb0 : BlkF g ds0 tail w) (HB0 : Below w0.heap.size w0 w) (hg : w0.heap.size ≤ g) (hn : ds0.length ≤ 12) :
    Calls Tryz.prog 145 #[.slice (some ⟨g, 0, none⟩) ds0.length cap, .int .i64 0, .int .i64 (ds0.length : Int), .int .i64 lim, .func (.func 102) #[] #[]] w fun e w' => e = .returned (.tuple #[]) ∧ BlkF g (insOut ltF z 0 (ds0.length - 1) 1 ds0) tail w' ∧ Below w0.heap.size w0 w' ∧ KeepBut w w' g none := by
  have HI := Aside0.mk (insF g cap 0 ds0.length z ds0 tail w0 w hb0 HB0 hg (Nat.zero_le _) (Nat.le_refl _) (by omega))
  clear hb0 HB0
  have t1 : decide ((ds0.length : Int) ≤ 12) = true := decide_eq_true (by omega)
  have t2 : (ds0.length : Int) ≤ 12 := by omega
  go_enter Tryz.func145, Tryz.ntmps145
  go_wp2
  go_loopg [1, 2, 3, 10, 11] 0 (fun kq v1 v2 v3 v10 v11 wr => v1 = .int .i64 0 ∧ v2 = .int .i64 (ds0.length : Int) ∧ wr = w)
  case atStart => exact ⟨rfl, rfl, rfl⟩
  case round =>
    obtain ⟨rfl, rfl, rfl⟩ := hrel
    go_wp2_with fail
    refine HI.out.mono ?_
    rintro e w1 ⟨rfl, h1, h2, h3⟩
    have H := Aside0.mk (And.intro h1 (And.intro h2 h3))
    clear h1 h2 h3
    go_wp2
    refine bodyPost_ret (results_none rfl _ _ _) rfl ?_
    exact ⟨rfl, H.out⟩
set_option maxHeartbeats 1600000 in
set_option maxRecDepth 100000 in
theorem SortFunc_F (g cap : Nat) (z : S123) (ds0 : List S123) (tail : List Value) (w0 w : World) (hb0 : BlkF g ds0 tail w) (HB0 : Below w0.heap.size w0 w) (hg : w0.heap.size ≤ g) (hn : ds0.length ≤ 12) :
    Calls Tryz.prog 101 #[.slice (some ⟨g, 0, none⟩) ds0.length cap, .func (.func 102) #[] #[]] w fun e w' => e = .returned (.tuple #[]) ∧ BlkF g (insOut ltF z 0 (ds0.length - 1) 1 ds0) tail w' ∧ Below w0.heap.size w0 w' ∧ KeepBut w w' g none := by
  have HI := Aside0.mk fun lim => pdq_F g cap z ds0 tail lim w0 w hb0 HB0 hg hn
  clear hb0 HB0
  have e1 : IntKind.u64.wrap (ds0.length : Int) = (ds0.length : Int) := by rw [IntKind.wrap_u64]; omega
  go_enter Tryz.func101, Tryz.ntmps101
  go_wp2_with fail
  refine (Tryz.bits_Len (ds0.length : Int) _ (by omega) (by omega)).mono ?_
  rintro e w1 ⟨rfl, rfl⟩
  go_wp2_with fail
  refine (HI.out _).mono ?_
  rintro e w2 ⟨rfl, h1, h2, h3⟩
  have H := Aside0.mk (And.intro h1 (And.intro h2 h3))
  clear h1 h2 h3
  go_wp2
  go_end0
  exact ⟨rfl, H.out⟩
set_option maxHeartbeats 1600000 in
set_option maxRecDepth 100000 in
theorem stable_small (g cap : Nat) (z : EvC) (ds0 : List EvC) (tail : List Value) (w0 w : World) (hb0 : BlkE g ds0 tail w) (HB0 : Below w0.heap.size w0 w) (hg : w0.heap.size ≤ g) (hn : ds0.length < 20) :
    Calls Tryz.prog 104 #[.slice (some ⟨g, 0, none⟩) ds0.length cap, .int .i64 (ds0.length : Int), .func (.func 56) #[] #[]] w fun e w' => e = .returned (.tuple #[]) ∧ BlkE g (insOut ltE z 0 (ds0.length - 1) 1 ds0) tail w' ∧ Below w0.heap.size w0 w' ∧ KeepBut w w' g none := by
  have HI := Aside0.mk (insE g cap 0 ds0.length z ds0 tail w0 w hb0 HB0 hg (Nat.zero_le _) (Nat.le_refl _) (by omega))
  clear hb0 HB0
  have t1 : decide ((20 : Int) ≤ (ds0.length : Int)) = false := decide_eq_false (by omega)
  have t2 : ¬ (20 : Int) ≤ (ds0.length : Int) := by omega
  have t3 : ¬ (20 : Int) < (ds0.length : Int) := by omega
  go_enter Tryz.func104, Tryz.ntmps104
  go_wp2
  go_loopg [7, 8] 0 (fun kq v7 v8 wr => v7 = .int .i64 0 ∧ v8 = .int .i64 20 ∧ wr = w)
  case atStart => exact ⟨rfl, rfl, rfl⟩
  case round =>
    obtain ⟨rfl, rfl, rfl⟩ := hrel
    go_wp2_with fail
    refine HI.out.mono ?_
    rintro e w1 ⟨rfl, h1, h2, h3⟩
    have H := Aside0.mk (And.intro h1 (And.intro h2 h3))
    clear h1 h2 h3
    go_wp2
    go_loopg [6, 7, 8, 9] 0 (fun kq v6 v7 v8 v9 wr => v6 = .int .i64 20 ∧ wr = w1)
    case atStart => exact ⟨rfl, rfl⟩
    case round =>
      obtain ⟨rfl, rfl⟩ := hrel
      go_wp2
      go_end0
      exact ⟨rfl, H.out⟩
set_option maxHeartbeats 1600000 in
set_option maxRecDepth 100000 in
theorem SortStable_small (g cap : Nat) (z : EvC) (ds0 : List EvC) (tail : List Value) (w0 w : World) (hb0 : BlkE g ds0 tail w) (HB0 : Below w0.heap.size w0 w) (hg : w0.heap.size ≤ g) (hn : ds0.length < 20) :
    Calls Tryz.prog 55 #[.slice (some ⟨g, 0, none⟩) ds0.length cap, .func (.func 56) #[] #[]] w fun e w' => e = .returned (.tuple #[]) ∧ BlkE g (insOut ltE z 0 (ds0.length - 1) 1 ds0) tail w' ∧ Below w0.heap.size w0 w' ∧ KeepBut w w' g none := by
  have HI := Aside0.mk (stable_small g cap z ds0 tail w0 w hb0 HB0 hg hn)
  clear hb0 HB0
  go_enter Tryz.func55, Tryz.ntmps55
  go_wp2_with fail
  refine HI.out.mono ?_
  rintro e w2 ⟨rfl, h1, h2, h3⟩
  have H := Aside0.mk (And.intro h1 (And.intro h2 h3))
  clear h1 h2 h3
  go_wp2
  go_end0
  exact ⟨rfl, H.out⟩
end Go.Proofs.YtghjhampigbbkaaGreatDoor.PA
end
section
namespace Go.Proofs.YtghjhampigbbkaaGreatDoor.PA
open Go.RowKit Go.Sort Go.Proofs.YtghjhampigbbkaaGreatDoorW.PrintWords Go.Proofs.YtghjhampigbbkaaGreatDoorW.PrintLast Go.Proofs.YtghjhampigbbkaaGreatDoorW.PrintMore
set_option maxHeartbeats 800000 in
set_option maxRecDepth 100000 in
theorem ins_nilF (A : Option Addr) (c : Nat) (w : World) : Calls Tryz.prog 169 #[.slice A 0 c, .int .i64 0, .int .i64 0, .func (.func 102) #[] #[]] w fun e w' => e = .returned (.tuple #[]) ∧ w' = w := by
  go_enter Tryz.func169, Tryz.ntmps169
  go_wp2
  go_loopg [8, 9] 0 (fun kq v8 v9 wr => v8 = .int .i64 1 ∧ wr = w)
  case atStart => exact ⟨rfl, rfl⟩
  case round =>
    obtain ⟨rfl, rfl⟩ := hrel
    go_wp2
    go_end0
    exact ⟨rfl, rfl⟩
set_option maxHeartbeats 800000 in
set_option maxRecDepth 100000 in
theorem pdq_nilF (A : Option Addr) (c : Nat) (lim : Int) (w : World) : Calls Tryz.prog 145 #[.slice A 0 c, .int .i64 0, .int .i64 0, .int .i64 lim, .func (.func 102) #[] #[]] w fun e w' => e = .returned (.tuple #[]) ∧ w' = w := by
  go_enter Tryz.func145, Tryz.ntmps145
  go_wp2
  go_loopg [1, 2, 3, 10, 11] 0 (fun kq v1 v2 v3 v10 v11 wr => v1 = .int .i64 0 ∧ v2 = .int .i64 0 ∧ wr = w)
  case atStart => exact ⟨rfl, rfl, rfl⟩
  case round =>
    obtain ⟨rfl, rfl, rfl⟩ := hrel
    go_wp2_with fail
    refine (ins_nilF A c _).mono ?_
    rintro e w1 ⟨rfl, rfl⟩
    go_wp2
    refine bodyPost_ret (results_none rfl _ _ _) rfl ?_
    exact ⟨rfl, rfl⟩
set_option maxHeartbeats 800000 in
set_option maxRecDepth 100000 in
theorem SortFunc_nilF (A : Option Addr) (c : Nat) (w : World) : Calls Tryz.prog 101 #[.slice A 0 c, .func (.func 102) #[] #[]] w fun e w' => e = .returned (.tuple #[]) ∧ w' = w := by
  go_enter Tryz.func101, Tryz.ntmps101
  go_wp2_with fail
  refine (Tryz.bits_Len 0 _ (by omega) (by omega)).mono ?_
  rintro e w1 ⟨rfl, rfl⟩
  go_wp2_with fail
  refine (pdq_nilF A c _ _).mono ?_
  rintro e w2 ⟨rfl, rfl⟩
  go_wp2
  go_end0
  exact ⟨rfl, rfl⟩
set_option maxHeartbeats 800000 in
set_option maxRecDepth 100000 in
theorem ins_nilE (A : Option Addr) (c : Nat) (w : World) : Calls Tryz.prog 148 #[.slice A 0 c, .int .i64 0, .int .i64 0, .func (.func 56) #[] #[]] w fun e w' => e = .returned (.tuple #[]) ∧ w' = w := by
  go_enter Tryz.func148, Tryz.ntmps148
  go_wp2
  go_loopg [8, 9] 0 (fun kq v8 v9 wr => v8 = .int .i64 1 ∧ wr = w)
  case atStart => exact ⟨rfl, rfl⟩
  case round =>
    obtain ⟨rfl, rfl⟩ := hrel
    go_wp2
    go_end0
    exact ⟨rfl, rfl⟩
set_option maxHeartbeats 800000 in
set_option maxRecDepth 100000 in
theorem SortStable_nilE (A : Option Addr) (c : Nat) (w : World) : Calls Tryz.prog 55 #[.slice A 0 c, .func (.func 56) #[] #[]] w fun e w' => e = .returned (.tuple #[]) ∧ w' = w := by
  have HS : Aside0 (∀ W : World, Calls Tryz.prog 104 #[.slice A 0 c, .int .i64 0, .func (.func 56) #[] #[]] W fun e w' => e = .returned (.tuple #[]) ∧ w' = W) := ⟨by
    intro W
    go_enter Tryz.func104, Tryz.ntmps104
    go_wp2
    go_loopg [7, 8] 0 (fun kq v7 v8 wr => v7 = .int .i64 0 ∧ v8 = .int .i64 20 ∧ wr = W)
    case atStart => exact ⟨rfl, rfl, rfl⟩
    case round =>
      obtain ⟨rfl, rfl, rfl⟩ := hrel
      go_wp2_with fail
      refine (ins_nilE A c _).mono ?_
      rintro e w1 ⟨rfl, rfl⟩
      go_wp2
      go_loopg [6, 7, 8, 9] 0 (fun kq v6 v7 v8 v9 wr => v6 = .int .i64 20 ∧ wr = w1)
      case atStart => exact ⟨rfl, rfl⟩
      case round =>
        obtain ⟨rfl, rfl⟩ := hrel
        go_wp2
        go_end0
        exact ⟨rfl, rfl⟩⟩
  go_enter Tryz.func55, Tryz.ntmps55
  go_wp2_with fail
  refine (HS.out _).mono ?_
  rintro e w2 ⟨rfl, rfl⟩
  go_wp2
  go_end0
  exact ⟨rfl, rfl⟩
end Go.Proofs.YtghjhampigbbkaaGreatDoor.PA
end
section
namespace Go.Proofs.YtghjhampigbbkaaGreatDoor.PA
open Go.RowKit Go.Sort Go.Proofs.YtghjhampigbbkaaGreatDoorW.PrintWords Go.Proofs.YtghjhampigbbkaaGreatDoorW.PrintLast Go.Proofs.YtghjhampigbbkaaGreatDoorW.PrintMore
theorem flatF_cons (x : S123) (ds : List S123) : flatF (x :: ds) = encF x ++ flatF ds := by unfold flatF; rw [List.flatMap_cons]
theorem drop_flatF : ∀ (ds : List S123) (j : Nat) (p : S123), ds[j]? = some p → ((flatF ds).drop (j * 4)).take 4 = encF p
  | [], j, p, h => by simp at h
  | x :: ds, 0, p, h => by
    simp only [List.getElem?_cons_zero, Option.some.injEq] at h
    subst h
    rw [flatF_cons]
    rfl
  | x :: ds, j + 1, p, h => by
    rw [flatF_cons, show (j + 1) * 4 = 4 + j * 4 by omega, ← List.drop_drop]
    exact drop_flatF ds j p (by simpa using h)
theorem reps_flatF (w : World) (base : Nat) (ok : Nat → Prop) (ds : List S123) : Reps (k123.M w base ok) 4 ds (flatF ds) :=
  ⟨flatF_len ds, fun j p hj => by rw [drop_flatF ds j p hj]; exact k123_mkM w base ok p⟩
theorem flatF_of_reps {w : World} {base : Nat} {ok : Nat → Prop} : ∀ {ds : List S123} {inner : List Value}, Reps (k123.M w base ok) 4 ds inner → inner = flatF ds
  | [], inner, h => List.length_eq_zero_iff.1 (by rw [h.1]; rfl)
  | x :: ds, inner, h => by
    have h0 := k123_openM (h.2 0 x rfl)
    simp only [Nat.zero_mul, List.drop_zero] at h0
    have h1 : Reps (k123.M w base ok) 4 ds (inner.drop 4) := ⟨by rw [List.length_drop, h.1, List.length_cons]; omega, fun j p hj => by
      have h2 := h.2 (j + 1) p (by simpa using hj)
      rw [show (j + 1) * 4 = 4 + j * 4 by omega, ← List.drop_drop] at h2
      exact h2⟩
    rw [flatF_cons, ← flatF_of_reps h1]
    conv => lhs; rw [← List.take_append_drop 4 inner]
    rw [h0]
    rfl
theorem R_blkF {W : World} {base : Nat} {ok : Nat → Prop} {ad : Addr} {n cap : Nat} {ds : List S123} (h : Kd.R k123 123 W base ok (.slice (some ad) n cap) ds) :
    ∃ g tail, ad = ⟨g, 0, none⟩ ∧ n = ds.length ∧ base ≤ g ∧ ok g ∧ n ≤ cap ∧ cap ≤ maxLen ∧ (ds.length * 4 + tail.length = cap * 4) ∧ BlkF g ds tail W := by
  obtain ⟨h0, inner, ⟨hl, ho⟩, hr⟩ := h
  rcases ho with ⟨he, _⟩ | ⟨g, cap', cur, he, hb, hh, h1, h2, h3, h4⟩
  · cases he
  · cases he
    have hin : inner = flatF ds := flatF_of_reps (ok := fun k => ok k ∧ some k ≠ (Value.slice (some ⟨g, 0, none⟩) ds.length cap).ownBlock) hr
    have h3' : cur.toList.length = cap * 4 := by rw [Array.length_toList]; exact h3
    refine ⟨g, cur.toList.drop (ds.length * 4), rfl, rfl, hb, h0 g rfl, h1, h2, by rw [List.length_drop, h3']; omega, ?_⟩
    unfold BlkF
    rw [hh, ← hin, ← h4]
    congr 2
    conv => lhs; rw [← Array.toArray_toList (xs := cur), ← List.take_append_drop (ds.length * 4) cur.toList]
    rfl
theorem blk_RF {W : World} {base g cap : Nat} {ds : List S123} {tail : List Value} (h : BlkF g ds tail W) (hb : base ≤ g) (h1 : ds.length ≤ cap) (h2 : cap ≤ maxLen) (h3 : ds.length * 4 + tail.length = cap * 4) :
    Kd.R k123 123 W base (fun _ => True) (.slice (some ⟨g, 0, none⟩) ds.length cap) ds :=
  ⟨fun _ _ => trivial, flatF ds, ⟨flatF_len ds, .inr ⟨g, cap, _, rfl, hb, h, h1, h2, by rw [List.size_toArray, List.length_append, flatF_len]; exact h3, by
    show ((flatF ds ++ tail).toArray.toList.take (ds.length * 4)) = flatF ds
    rw [List.toList_toArray, ← flatF_len ds, List.take_left]⟩⟩, reps_flatF _ _ _ _⟩
theorem insOut_length {α : Type} (lt : α → α → Bool) (z : α) (a : Nat) : ∀ (r i : Nat) (ds : List α), (insOut lt z a r i ds).length = ds.length
  | 0, _, ds => rfl
  | r + 1, i, ds => by rw [insOut, insOut_length lt z a r, insIn_length]
end Go.Proofs.YtghjhampigbbkaaGreatDoor.PA
end
section
namespace Go.Proofs.YtghjhampigbbkaaGreatDoor.PA
open Go.RowKit Go.Sort Go.Proofs.YtghjhampigbbkaaGreatDoorW.PrintWords Go.Proofs.YtghjhampigbbkaaGreatDoorW.PrintLast Go.Proofs.YtghjhampigbbkaaGreatDoorW.PrintMore
theorem RF_set6 {W : World} {base g : Nat} {v : Value} {ds : List S123} {cs : Array Value} (h : Kd.R k123 123 W base (fun _ => True) v ds) (hg : W.heap[g]? = some (.cells cs 69 (0, 0))) (a b c d e f : Value) :
    Kd.R k123 123 ((((((W.setCell ⟨g, 0, none⟩ a).setCell ⟨g, 1, none⟩ b).setCell ⟨g, 2, none⟩ c).setCell ⟨g, 3, none⟩ d).setCell ⟨g, 4, none⟩ e).setCell ⟨g, 5, none⟩ f) base (fun _ => True) v ds := by
  have h0 := Kd.R_types h hg (by decide)
  have hne : ∀ k, (True ∧ k ≠ g) → k ≠ g := fun _ hk => hk.2
  exact Kd.R_mono (Kd.R_far (p := ⟨g, 5, none⟩) (Kd.R_far (p := ⟨g, 4, none⟩) (Kd.R_far (p := ⟨g, 3, none⟩) (Kd.R_far (p := ⟨g, 2, none⟩) (Kd.R_far (p := ⟨g, 1, none⟩) (Kd.R_far (p := ⟨g, 0, none⟩) h0 hne a) hne b) hne c) hne d) hne e) hne f) (fun _ _ => trivial)
end Go.Proofs.YtghjhampigbbkaaGreatDoor.PA
end
section
namespace Go.Proofs.YtghjhampigbbkaaGreatDoor.PA
open Go.RowKit Go.Sort Go.Proofs.YtghjhampigbbkaaGreatDoorW.PrintWords Go.Proofs.YtghjhampigbbkaaGreatDoorW.PrintLast Go.Proofs.YtghjhampigbbkaaGreatDoorW.PrintMore
structure EvR (W : World) (base : Nat) (ok : Nat → Prop) (d : EvC) (x : S69) : Prop where
  e0 : d.f0 = x.f0
  e1 : d.f1 = x.f1
  e2 : d.f2 = x.f2
  e3 : d.f3 = x.f3
  e4 : d.f4 = x.f4
  e5 : Kd.R k123 123 W base ok (.slice d.A d.n d.c) x.f5
theorem flatE_cons (x : EvC) (ds : List EvC) : flatE (x :: ds) = encE x ++ flatE ds := by unfold flatE; rw [List.flatMap_cons]
theorem drop_flatE : ∀ (ds : List EvC) (j : Nat) (p : EvC), ds[j]? = some p → ((flatE ds).drop (j * 6)).take 6 = encE p
  | [], j, p, h => by simp at h
  | x :: ds, 0, p, h => by
    simp only [List.getElem?_cons_zero, Option.some.injEq] at h
    subst h
    rw [flatE_cons]
    rfl
  | x :: ds, j + 1, p, h => by
    rw [flatE_cons, show (j + 1) * 6 = 6 + j * 6 by omega, ← List.drop_drop]
    exact drop_flatE ds j p (by simpa using h)
theorem reps_flatE {w : World} {base : Nat} {ok : Nat → Prop} (ps : List {p : EvC × S69 // EvR w base ok p.1 p.2}) : Reps (k69.M w base ok) 6 (ps.map (·.1.2)) (flatE (ps.map (·.1.1))) :=
  ⟨by rw [flatE_len, List.length_map, List.length_map], fun j p hj => by
    rw [List.getElem?_map, Option.map_eq_some_iff] at hj
    obtain ⟨q, hq, rfl⟩ := hj
    rw [drop_flatE (ps.map (·.1.1)) j q.1.1 (by rw [List.getElem?_map, hq]; rfl)]
    have h := q.2
    unfold encE
    rw [h.e0, h.e1, h.e2, h.e3, h.e4]
    exact k69_mkM w base ok q.1.2 h.e5⟩
theorem pairs_of_reps {w : World} {base : Nat} {ok : Nat → Prop} : ∀ {xs : List S69} {inner : List Value}, Reps (k69.M w base ok) 6 xs inner →
    ∃ ps : List {p : EvC × S69 // EvR w base ok p.1 p.2}, xs = ps.map (·.1.2) ∧ inner = flatE (ps.map (·.1.1))
  | [], inner, h => ⟨[], rfl, List.length_eq_zero_iff.1 (by rw [h.1]; rfl)⟩
  | x :: xs, inner, h => by
    obtain ⟨v5, h0, g5⟩ := k69_openM (h.2 0 x rfl)
    simp only [Nat.zero_mul, List.drop_zero] at h0
    obtain ⟨A, c, rfl⟩ := Kd.R_slice g5
    have h1 : Reps (k69.M w base ok) 6 xs (inner.drop 6) := ⟨by rw [List.length_drop, h.1, List.length_cons]; omega, fun j p hj => by
      have h2 := h.2 (j + 1) p (by simpa using hj)
      rw [show (j + 1) * 6 = 6 + j * 6 by omega, ← List.drop_drop] at h2
      exact h2⟩
    obtain ⟨ps, e1, e2⟩ := pairs_of_reps h1
    refine ⟨⟨(⟨x.f0, x.f1, x.f2, x.f3, x.f4, A, x.f5.length, c⟩, x), ⟨rfl, rfl, rfl, rfl, rfl, g5⟩⟩ :: ps, by rw [List.map_cons, ← e1], ?_⟩
    rw [List.map_cons, flatE_cons, ← e2]
    conv => lhs; rw [← List.take_append_drop 6 inner]
    rw [h0]
    rfl
theorem R_blkE {W : World} {base : Nat} {ok : Nat → Prop} {ad : Addr} {n cap : Nat} {xs : List S69} (h : Kd.R k69 69 W base ok (.slice (some ad) n cap) xs) :
    ∃ g tail, ∃ ps : List {p : EvC × S69 // EvR W base (fun k => ok k ∧ k ≠ g) p.1 p.2}, ad = ⟨g, 0, none⟩ ∧ n = xs.length ∧ base ≤ g ∧ ok g ∧ n ≤ cap ∧ cap ≤ maxLen ∧ (xs.length * 6 + tail.length = cap * 6) ∧ xs = ps.map (·.1.2) ∧ BlkE g (ps.map (·.1.1)) tail W := by
  obtain ⟨h0, inner, ⟨hl, ho⟩, hr⟩ := h
  rcases ho with ⟨he, _⟩ | ⟨g, cap', cur, he, hb, hh, h1, h2, h3, h4⟩
  · cases he
  · cases he
    have hr' : Reps (k69.M W base (fun k => ok k ∧ k ≠ g)) 6 xs inner := hr.imp_ (fun p c hp => k69.M_mono (fun k hk => ⟨hk.1, fun e => hk.2 (by rw [e]; rfl)⟩) hp)
    obtain ⟨ps, e1, e2⟩ := pairs_of_reps hr'
    have h3' : cur.toList.length = cap * 6 := by rw [Array.length_toList]; exact h3
    refine ⟨g, cur.toList.drop (xs.length * 6), ps, rfl, rfl, hb, h0 g rfl, h1, h2, by rw [List.length_drop, h3']; omega, e1, ?_⟩
    unfold BlkE
    rw [hh, ← e2, ← h4]
    congr 2
    conv => lhs; rw [← Array.toArray_toList (xs := cur), ← List.take_append_drop (xs.length * 6) cur.toList]
    rfl
theorem blk_RE {W : World} {base g cap : Nat} {tail : List Value} (ps : List {p : EvC × S69 // EvR W base (fun k => k ≠ g) p.1 p.2}) (h : BlkE g (ps.map (·.1.1)) tail W) (hb : base ≤ g) (h1 : ps.length ≤ cap) (h2 : cap ≤ maxLen) (h3 : ps.length * 6 + tail.length = cap * 6) :
    Kd.R k69 69 W base (fun _ => True) (.slice (some ⟨g, 0, none⟩) ps.length cap) (ps.map (·.1.2)) :=
  ⟨fun _ _ => trivial, flatE (ps.map (·.1.1)), ⟨by rw [flatE_len, List.length_map, List.length_map]; rfl, .inr ⟨g, cap, _, by rw [List.length_map], hb, h, by rw [List.length_map]; exact h1, h2, by rw [List.size_toArray, List.length_append, flatE_len, List.length_map]; exact h3, by
    show ((flatE (ps.map (·.1.1)) ++ tail).toArray.toList.take ((ps.map (·.1.2)).length * 6)) = flatE (ps.map (·.1.1))
    have e : (ps.map (·.1.2)).length * 6 = (flatE (ps.map (·.1.1))).length := by rw [flatE_len, List.length_map, List.length_map]
    rw [List.toList_toArray, e, List.take_left]⟩⟩, (reps_flatE ps).imp_ (fun p c hp => k69.M_mono (fun k hk => ⟨trivial, fun e => hk (Option.some.inj e)⟩) hp)⟩
theorem insIn_map {α β : Type} (f : α → β) (lt : α → α → Bool) (lt' : β → β → Bool) (z : α) (a : Nat) (h : ∀ x y, lt' (f x) (f y) = lt x y) : ∀ (j : Nat) (ds : List α), insIn lt' (f z) a j (ds.map f) = (insIn lt z a j ds).map f
  | 0, ds => rfl
  | j + 1, ds => by
    have hg : ∀ i, (ds.map f).getD i (f z) = f (ds.getD i z) := fun i => by rw [List.getD_eq_getElem?_getD, List.getElem?_map, List.getD_eq_getElem?_getD]; cases ds[i]? <;> rfl
    rw [insIn, insIn, hg, hg, h]
    split
    · rw [← List.map_set, ← List.map_set]; exact insIn_map f lt lt' z a h j _
    · rfl
theorem insOut_map {α β : Type} (f : α → β) (lt : α → α → Bool) (lt' : β → β → Bool) (z : α) (a : Nat) (h : ∀ x y, lt' (f x) (f y) = lt x y) : ∀ (r i : Nat) (ds : List α), insOut lt' (f z) a r i (ds.map f) = (insOut lt z a r i ds).map f
  | 0, _, ds => rfl
  | r + 1, i, ds => by rw [insOut, insOut, insIn_map f lt lt' z a h, insOut_map f lt lt' z a h r]
def ltS (x y : S69) : Bool := decide (x.f4 < y.f4)
def zEC : EvC := ⟨⟨#[]⟩, ⟨#[]⟩, ⟨#[]⟩, 0, 0, none, 0, 0⟩
def zP (W : World) (base : Nat) (ok : Nat → Prop) : {p : EvC × S69 // EvR W base ok p.1 p.2} := ⟨(zEC, z69), ⟨rfl, rfl, rfl, rfl, rfl, Kd.R_nil _ _ _ _ _⟩⟩
theorem EvR_keep {W W1 : World} {base g : Nat} {d : EvC} {x : S69} (h : EvR W base (fun k => k ≠ g) d x) (hk : KeepBut W W1 g none) : EvR W1 base (fun k => k ≠ g) d x :=
  ⟨h.e0, h.e1, h.e2, h.e3, h.e4, Kd.R_keep h.e5 hk (fun _ hk => hk)⟩
theorem EvR_mono {W : World} {base : Nat} {ok ok' : Nat → Prop} {d : EvC} {x : S69} (h : EvR W base ok d x) (hk : ∀ k, ok k → ok' k) : EvR W base ok' d x :=
  ⟨h.e0, h.e1, h.e2, h.e3, h.e4, Kd.R_mono h.e5 hk⟩
def sortE (xs : List S69) : List S69 := insOut ltS z69 0 (xs.length - 1) 1 xs
theorem sorted_RE {W W1 : World} {base g cap : Nat} {tail : List Value} (ps : List {p : EvC × S69 // EvR W base (fun k => k ≠ g) p.1 p.2}) (hk : KeepBut W W1 g none)
    (h : BlkE g (insOut ltE zEC 0 (ps.length - 1) 1 (ps.map (·.1.1))) tail W1) (hb : base ≤ g) (h1 : ps.length ≤ cap) (h2 : cap ≤ maxLen) (h3 : ps.length * 6 + tail.length = cap * 6) :
    Kd.R k69 69 W1 base (fun _ => True) (.slice (some ⟨g, 0, none⟩) ps.length cap) (sortE (ps.map (·.1.2))) := by
  let qs : List {p : EvC × S69 // EvR W1 base (fun k => k ≠ g) p.1 p.2} := ps.map fun p => ⟨p.1, EvR_keep p.2 hk⟩
  have e1 : ps.map (·.1.1) = qs.map (·.1.1) := by simp [qs, Function.comp_def]
  have e2 : ps.map (·.1.2) = qs.map (·.1.2) := by simp [qs, Function.comp_def]
  have el : ps.length = qs.length := by simp [qs]
  rw [e1, el] at h
  rw [e2]
  unfold sortE
  have z1 : zEC = (zP W1 base (fun k => k ≠ g)).1.1 := rfl
  have z2 : z69 = (zP W1 base (fun k => k ≠ g)).1.2 := rfl
  rw [z1, insOut_map (·.1.1) (fun x y : {p : EvC × S69 // EvR W1 base (fun k => k ≠ g) p.1 p.2} => ltE x.1.1 y.1.1) ltE _ 0 (fun _ _ => rfl)] at h
  rw [z2, insOut_map (·.1.2) (fun x y : {p : EvC × S69 // EvR W1 base (fun k => k ≠ g) p.1 p.2} => ltE x.1.1 y.1.1) ltS _ 0 (fun x y => by unfold ltE ltS; rw [x.2.e4, y.2.e4])]
  have hl := insOut_length (fun x y : {p : EvC × S69 // EvR W1 base (fun k => k ≠ g) p.1 p.2} => ltE x.1.1 y.1.1) (zP W1 base (fun k => k ≠ g)) 0 (qs.length - 1) 1 qs
  have := blk_RE (cap := cap) _ h hb (by rw [hl, ← el]; exact h1) h2 (by rw [hl, ← el]; exact h3)
  rw [hl] at this
  rw [List.length_map, el]
  exact this
end Go.Proofs.YtghjhampigbbkaaGreatDoor.PA
end

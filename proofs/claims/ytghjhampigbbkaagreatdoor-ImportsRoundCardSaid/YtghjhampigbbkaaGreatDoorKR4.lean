/- Texts of this claim, merged by a program: XLround. -/
import Derived.ArgAppend
import Derived.Below
import Derived.BigQuiet
import Derived.Deep.AppendLies
import Derived.Deep.CutBlock
import Derived.Deep.DeepCutAuto
import Derived.Deep.Draws
import Derived.Deep.LoopGhost
import Derived.Deep.OwnRows
import Derived.Deep.QuietTactic
import Derived.Deep.RegionHeld3
import Derived.Ground.Names2Prog
import Derived.Ground.SlgnProg
import Derived.KernelRfl
import Derived.Laws.BitsLemmas
import Derived.Laws.BytesArg
import Derived.Laws.Cover1
import Derived.Laws.Externs
import Derived.Laws.IdiomCopy
import Derived.Laws.MakeOwn
import Derived.Laws.OwnMore
import Derived.Laws.Rows
import Derived.Laws.Slices
import Derived.Laws.Small
import Derived.Laws.Strings
import Derived.Laws.StructEq
import Derived.Lib.AppendIntMem
import Derived.Lib.AppendStr
import Derived.Lib.Builder
import Derived.Lib.Bytealg
import Derived.Lib.ConvBytes
import Derived.Lib.CountLaws
import Derived.Lib.ItoaMem
import Derived.Lib.MakeNoZero
import Derived.Lib.Replace
import Derived.Lib.SliceRun
import Derived.Lib.Slices
import Derived.Lib.Strings
import Derived.Lib.UnsafeStr
import Derived.Lib.Walk
import Derived.Maps.AppendAt
import Derived.OrdersHeld
import Derived.OwnWalk
import Derived.RowKit
import Derived.RowKit3
import Derived.Shelf.Abstract
import Derived.Shelf.SlSortCmp.QuietGrown
import Derived.Shelf.Slices.Cells
import Derived.Shelf.Slices.Clone
import Derived.Shelf.Slices.CompactS
import Derived.Shelf.Slices.In.SortNone
import Derived.Shelf.Slices.SearchI
import Derived.Shelf.Slices.Turned
import Derived.Shelf.SlicesE.Clone
import Derived.Shelf.Small.Bits
import Derived.Shelf.Small.Strs
import Derived.Shelf.Small.Wraps
import Derived.Shelf.Sort.Plain
import Derived.Shelf.Strconv.Atoi
import Derived.Shelf.Strconv.AtoiAll
import Derived.Shelf.Strconv.AtoiErrFast
import Derived.Shelf.Strconv.AtoiFail
import Derived.Shelf.Strconv.AtoiInnerAll
import Derived.Shelf.Strconv.AtoiLong
import Derived.Shelf.Strconv.Clone
import Derived.Shelf.Strconv.ErrVarAll
import Derived.Shelf.Strconv.Itoa0
import Derived.Shelf.Strconv.Itoa1
import Derived.Shelf.Strconv.Itoa2
import Derived.Shelf.Strconv.Itoa3
import Derived.Shelf.Strconv.Lower
import Derived.Shelf.Strconv.ParseInt10
import Derived.Shelf.Strconv.ParseIntEmpty
import Derived.Shelf.Strconv.ParseUint10
import Derived.Shelf.Strconv.ParseUint10Any
import Derived.Shelf.Strconv.ParseUint10Empty
import Derived.Shelf.Strconv.RangeError
import Derived.Shelf.Strconv.SyntaxError
import Derived.Shelf.Strconv.ToError
import Derived.Shelf.Strconv.ToErrorRange
import Derived.Shelf.Strings.Builder1
import Derived.Shelf.Strings.Builder2
import Derived.Shelf.Strings.Builder2Cap
import Derived.Shelf.Strings.BuilderCap
import Derived.Shelf.Strings.BuilderF
import Derived.Shelf.Strings.BuilderK
import Derived.Shelf.Strings.Count
import Derived.Shelf.Strings.Prefix
import Derived.Shelf.Strings.Replace
import Derived.Shelf.Strings.RuneCount
import Derived.Shelf.Strings.Search1
import Derived.Shelf.Strings.Search2
import Derived.Shelf.Strings.Search3
import Derived.Shelf.Strings.Shaped
import Derived.Shelf.Strings.Split
import Derived.Shelf.Strings.SplitShaped
import Derived.Shelf.Unicode.Decode
import Derived.Shelf.Unicode.DecodeAny
import Derived.Shelf.Unicode.DecodeSlow
import Derived.Shelf.Utf8.RuneCount
import Derived.Tactics
import Derived.Test.YtghjhampigbbkaaGreatDoorProg
import Derived.WalkKit
import Derived.WideLaws
import Derived.Test.YtghjhampigbbkaaGreatDoorKW1
import Derived.Test.YtghjhampigbbkaaGreatDoorKW3
import Derived.Test.YtghjhampigbbkaaGreatDoorKW4
import Derived.Test.YtghjhampigbbkaaGreatDoorKW5
import Derived.Test.YtghjhampigbbkaaGreatDoorKW6
import Derived.Test.YtghjhampigbbkaaGreatDoorKW7
import Derived.Test.YtghjhampigbbkaaGreatDoorKW8
import Derived.Test.YtghjhampigbbkaaGreatDoorKW9
import Derived.Test.YtghjhampigbbkaaGreatDoorKW10
import Derived.Test.YtghjhampigbbkaaGreatDoorKW11
import Derived.Test.YtghjhampigbbkaaGreatDoorKW13
import Derived.Test.YtghjhampigbbkaaGreatDoorKW14
import Derived.Test.YtghjhampigbbkaaGreatDoorKW15
import Derived.Test.YtghjhampigbbkaaGreatDoorKW16
import Derived.Test.YtghjhampigbbkaaGreatDoorKW17
import Derived.Test.YtghjhampigbbkaaGreatDoorKW18
import Derived.Test.YtghjhampigbbkaaGreatDoorKW19
import Derived.Test.YtghjhampigbbkaaGreatDoorKW20
import Derived.Test.YtghjhampigbbkaaGreatDoorKW21
import Derived.Test.YtghjhampigbbkaaGreatDoorKW22
import Derived.Test.YtghjhampigbbkaaGreatDoorKW23
import Derived.Test.YtghjhampigbbkaaGreatDoorKW24
import Derived.Test.YtghjhampigbbkaaGreatDoorKR1
import Derived.Test.YtghjhampigbbkaaGreatDoorKR2
import Derived.Test.YtghjhampigbbkaaGreatDoorKR3
set_option linter.unusedVariables false
set_option linter.unusedSimpArgs false
section
namespace Go.Proofs.YtghjhampigbbkaaGreatDoor.PA
open Go.RowKit Go.Proofs.YtghjhampigbbkaaGreatDoorW.PrintWords Go.Proofs.YtghjhampigbbkaaGreatDoorW.PrintLast Go.Proofs.YtghjhampigbbkaaGreatDoorW.PrintMore
theorem writeF_err {rows : List (List ByteArray)} {sp : Int} (h : ¬ (writeF rows sp).2 = 0) : (writeF rows sp).1 = ⟨#[]⟩ := by
  unfold writeF at h ⊢
  split
  · rfl
  · split
    · rfl
    · split
      · rfl
      · split
        · rfl
        · rename_i h1 h2 h3 h4
          rw [if_neg h1, if_neg h2, if_neg h3, if_neg h4] at h
          exact absurd rfl h
set_option maxHeartbeats 1600000 in
set_option maxRecDepth 100000 in
theorem law_round (A0 : Option Addr) (c0 : Nat) (rows : List (List ByteArray)) (sp : Int) (w : World) (hLd : Laid w) (hr0 : Kd.C (Kd.slice 9 Kd.string) w A0 rows.length rows) (hc0 : rows.length ≤ c0) :
    Calls Tryz.prog 5 #[.slice A0 rows.length c0, .int .u8 sp] w fun e w' => e = .returned (.bool true) ∧ Below w.heap.size w w' := by
  have hu40 := Tryz.underlying40
  have HAW := Aside0.mk (awake_true w hLd)
  have HWD := Aside0.mk (fun W hb => casebooklaw13_wide.calls A0 c0 rows _ W (Kd.C_below hr0 hb) hc0 (wide_f rows))
  cases hw : wideB rows
  · rw [hw] at HWD
    have HFT := Aside0.mk (fits_of_wide hw)
    have HW1 := Aside0.mk (fun W hb => Write_at A0 c0 rows sp W (hLd.below hb) (Kd.C_below hr0 hb) HFT.out)
    have HR := Aside0.mk hr0
    have HC := Aside0.mk hc0
    clear hLd hr0 hc0 hw
    go_enter Tryz.func5, Tryz.ntmps5
    go_wp2_with fail
    refine HAW.out.mono ?_
    rintro e w1 ⟨rfl, hb1⟩
    have HB1 := Aside0.mk hb1
    clear hb1
    go_wp2_with fail
    refine (HWD.out _ HB1.out).mono ?_
    rintro e w2 ⟨rfl, hb2⟩
    have HB2 := Aside0.mk (below_step HB1.out hb2)
    clear hb2
    go_wp2_with fail
    refine (HW1.out _ HB2.out).mono ?_
    rintro e w3 ⟨rfl, hb3⟩
    have HB3 := Aside0.mk (below_step HB2.out hb3)
    clear hb3 HW1
    by_cases he : (writeF rows sp).2 = 0
    · have HRT := Aside0.mk (round_text he)
      generalize (writeF rows sp).1 = s at HRT ⊢
      rw [he]
      clear he
      have HCL := Aside0.mk (fun W => imports_Cells.calls s sp rows 0 0 0 W (by unfold imports_Cells.f; rw [HRT.out]))
      go_wp2_with fail
      refine (HCL.out _).mono ?_
      rintro e w4 ⟨v, rfl, hv, hb4⟩
      obtain ⟨A7, c7, rfl, hc7, hC7⟩ := Kd.S_reads hv
      have HB4 := Aside0.mk (below_step HB3.out hb4)
      obtain ⟨kS, hkS⟩ := rSameAll rows HFT.out
      have HSA := Aside0.mk (fun W (h4 : Below w4.heap.size w4 W) => casebookref02_SameAll.calls kS A7 c7 rows A0 c0 rows true W (Kd.C_below hC7 h4) hc7 (Kd.C_below HR.out (below_step HB4.out h4)) HC.out hkS)
      clear hv hb4 hC7 hc7 hkS HCL
      have hb5 := below_alloc (Below.refl w4.heap.size w4) (.cells #[.int .i64 0, .int .i64 0] 40)
      go_wp2_with fail
      refine (HSA.out _ hb5).mono ?_
      rintro e w6 ⟨rfl, ⟨⟨n6, rfl⟩⟩⟩
      go_wp2
      go_ret
      exact ⟨rfl, pw_below_drewN (below_step HB4.out hb5) _⟩
    · have t1 : ((writeF rows sp).2 != 0) = true := bne_iff_ne.2 he
      have HE := Aside0.mk (writeF_err he)
      clear he
      generalize (writeF rows sp).2 = er at t1 ⊢
      rw [HE.out]
      go_wp2
      go_ret
      exact ⟨rfl, HB3.out⟩
  · rw [hw] at HWD
    clear hLd hr0 hc0 hw
    go_enter Tryz.func5, Tryz.ntmps5
    go_wp2_with fail
    refine HAW.out.mono ?_
    rintro e w1 ⟨rfl, hb1⟩
    have HB1 := Aside0.mk hb1
    clear hb1
    go_wp2_with fail
    refine (HWD.out _ HB1.out).mono ?_
    rintro e w2 ⟨rfl, hb2⟩
    have HB2 := Aside0.mk (below_step HB1.out hb2)
    clear hb2
    go_wp2
    go_ret
    exact ⟨rfl, HB2.out⟩
end Go.Proofs.YtghjhampigbbkaaGreatDoor.PA
end

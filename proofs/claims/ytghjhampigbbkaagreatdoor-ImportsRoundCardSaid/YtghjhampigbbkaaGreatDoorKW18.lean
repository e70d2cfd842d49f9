/- Texts of this claim, merged by a program: XItoa, XNat. -/
import Derived.ArgAppend
import Derived.Below
import Derived.BigQuiet
import Derived.Deep.AppendLies
import Derived.Deep.CutBlock
import Derived.Deep.DeepCutAuto
import Derived.Deep.Draws
import Derived.Deep.LoopGhost
import Derived.Deep.OwnRows
import Derived.Deep.QuietTactic
import Derived.Deep.RegionHeld3
import Derived.Ground.Names2Prog
import Derived.Ground.SlgnProg
import Derived.KernelRfl
import Derived.Laws.BitsLemmas
import Derived.Laws.BytesArg
import Derived.Laws.Cover1
import Derived.Laws.IdiomCopy
import Derived.Laws.MakeOwn
import Derived.Laws.OwnMore
import Derived.Laws.Rows
import Derived.Laws.Slices
import Derived.Laws.Small
import Derived.Laws.Strings
import Derived.Laws.StructEq
import Derived.Lib.AppendIntMem
import Derived.Lib.AppendStr
import Derived.Lib.ConvBytes
import Derived.Lib.ItoaMem
import Derived.Maps.AppendAt
import Derived.OrdersHeld
import Derived.OwnWalk
import Derived.RowKit
import Derived.RowKit3
import Derived.Shelf.Abstract
import Derived.Shelf.Slices.Cells
import Derived.Shelf.Slices.Clone
import Derived.Shelf.Slices.CompactS
import Derived.Shelf.Slices.In.SortNone
import Derived.Shelf.Slices.SearchI
import Derived.Shelf.Slices.Turned
import Derived.Shelf.SlicesE.Clone
import Derived.Shelf.Small.Bits
import Derived.Shelf.Small.Strs
import Derived.Shelf.Small.Wraps
import Derived.Shelf.Sort.Plain
import Derived.Shelf.Strconv.Atoi
import Derived.Shelf.Strconv.AtoiAll
import Derived.Shelf.Strconv.AtoiErrFast
import Derived.Shelf.Strconv.AtoiFail
import Derived.Shelf.Strconv.AtoiInnerAll
import Derived.Shelf.Strconv.AtoiLong
import Derived.Shelf.Strconv.Clone
import Derived.Shelf.Strconv.ErrVarAll
import Derived.Shelf.Strconv.Itoa0
import Derived.Shelf.Strconv.Itoa1
import Derived.Shelf.Strconv.Itoa2
import Derived.Shelf.Strconv.Itoa3
import Derived.Shelf.Strconv.Lower
import Derived.Shelf.Strconv.ParseInt10
import Derived.Shelf.Strconv.ParseIntEmpty
import Derived.Shelf.Strconv.ParseUint10
import Derived.Shelf.Strconv.ParseUint10Any
import Derived.Shelf.Strconv.ParseUint10Empty
import Derived.Shelf.Strconv.RangeError
import Derived.Shelf.Strconv.SyntaxError
import Derived.Shelf.Strconv.ToError
import Derived.Shelf.Strconv.ToErrorRange
import Derived.Shelf.Strings.Builder1
import Derived.Shelf.Strings.Builder2
import Derived.Shelf.Strings.Builder2Cap
import Derived.Shelf.Strings.BuilderCap
import Derived.Shelf.Strings.BuilderF
import Derived.Shelf.Strings.BuilderK
import Derived.Shelf.Strings.Count
import Derived.Shelf.Strings.Prefix
import Derived.Shelf.Strings.Replace
import Derived.Shelf.Strings.RuneCount
import Derived.Shelf.Strings.Search1
import Derived.Shelf.Strings.Search2
import Derived.Shelf.Strings.Search3
import Derived.Shelf.Strings.Shaped
import Derived.Shelf.Strings.Split
import Derived.Shelf.Strings.SplitShaped
import Derived.Shelf.Unicode.Decode
import Derived.Shelf.Unicode.DecodeAny
import Derived.Shelf.Unicode.DecodeSlow
import Derived.Shelf.Utf8.RuneCount
import Derived.Tactics
import Derived.Test.YtghjhampigbbkaaGreatDoorProg
import Derived.WalkKit
import Derived.WideLaws
import Derived.Test.YtghjhampigbbkaaGreatDoorKW1
import Derived.Test.YtghjhampigbbkaaGreatDoorKW3
import Derived.Test.YtghjhampigbbkaaGreatDoorKW4
import Derived.Test.YtghjhampigbbkaaGreatDoorKW5
import Derived.Test.YtghjhampigbbkaaGreatDoorKW6
import Derived.Test.YtghjhampigbbkaaGreatDoorKW7
import Derived.Test.YtghjhampigbbkaaGreatDoorKW8
import Derived.Test.YtghjhampigbbkaaGreatDoorKW9
import Derived.Test.YtghjhampigbbkaaGreatDoorKW10
import Derived.Test.YtghjhampigbbkaaGreatDoorKW11
import Derived.Test.YtghjhampigbbkaaGreatDoorKW15
set_option linter.unusedVariables false
set_option linter.unusedSimpArgs false
section
namespace Go.Proofs.YtghjhampigbbkaaGreatDoor.PA
open Go.RowKit Go.Proofs.YtghjhampigbbkaaGreatDoorW.PrintWords Go.Proofs.YtghjhampigbbkaaGreatDoorW.PrintLast Go.Proofs.YtghjhampigbbkaaGreatDoorW.PrintMore
theorem below_growN (w : World) (k : Nat) (os : Array Obj) : Below w.heap.size w (Go.Sort.grow (w.drewN k) os) := Lib.below_grow w.heap.size w (Nat.le_refl _) k os
def strconv_Itoa.f (a0 : Int) : Option ByteArray := if -9223372036854775808 ≤ a0 ∧ a0 ≤ 9223372036854775807 then some ⟨(Lib.itoa a0).toArray⟩ else none
theorem strconv_Itoa.calls (a0 : Int) (r : ByteArray) (w : World) (hLd : Laid w) (h : strconv_Itoa.f a0 = some r) :
    Calls Tryz.prog 131 #[.int .i64 a0] w fun e w' => e = .returned (.string r) ∧ Below w.heap.size w w' := by
  unfold strconv_Itoa.f at h
  by_cases hb : -9223372036854775808 ≤ a0 ∧ a0 ≤ 9223372036854775807
  · rw [if_pos hb] at h
    obtain rfl := Option.some.inj h
    refine (Tryz.strconv_Itoa a0 hb.1 hb.2 w hLd.tab).mono ?_
    rintro e w' ⟨rfl, k, os, rfl⟩
    exact ⟨rfl, below_growN w k os⟩
  · rw [if_neg hb] at h
    cases h
end Go.Proofs.YtghjhampigbbkaaGreatDoor.PA
end
section
namespace Go.Proofs.YtghjhampigbbkaaGreatDoor.PA
open Go.RowKit Go.Proofs.YtghjhampigbbkaaGreatDoorW.PrintWords Go.Proofs.YtghjhampigbbkaaGreatDoorW.PrintLast Go.Proofs.YtghjhampigbbkaaGreatDoorW.PrintMore
def atoiO (l : List UInt8) : Option Int := match Lib.atoiAll l with | .ok v => some v | _ => none
theorem atoi_some (s : ByteArray) (hs : s.size ≤ 1099511627776) (v : Int) (h : atoiO s.data.toList = some v) (w : World) :
    Calls Tryz.prog 142 #[.string s] w fun e w' => e = .returned (.tuple #[.int .i64 v, .nilIface]) ∧ Below w.heap.size w w' := by
  have h1 : Lib.atoiAll s.data.toList = .ok v := by
    unfold atoiO at h
    split at h
    · rename_i v' e; rw [e]; cases h; rfl
    · cases h
  refine (Tryz.strconv_Atoi_ok s (by omega) v h1 w).mono ?_
  rintro e w' ⟨rfl, rfl | ⟨t, rfl⟩⟩
  · exact ⟨rfl, Below.refl _ _⟩
  · exact ⟨rfl, bytes_below (Below.refl _ _) (Nat.le_refl _) 5 t⟩
theorem atoi_none (s : ByteArray) (hs : s.size ≤ 1099511627776) (h : atoiO s.data.toList = none) (w : World) (hL : Laid w) :
    Calls Tryz.prog 142 #[.string s] w fun e w' => ∃ (n : Int) (N : Nat), e = .returned (.tuple #[.int .i64 n, .iface 209 (.pointer (some ⟨N, 0, none⟩))]) ∧ Below w.heap.size w w' := by
  cases h1 : Lib.atoiAll s.data.toList with
  | ok v => simp [atoiO, h1] at h
  | range =>
    obtain ⟨ev, h2, h3⟩ := hL.rng
    refine (Tryz.strconv_Atoi_range s (by omega) h1 ev w h2 h3).mono ?_
    rintro e w' ⟨N, rfl, _, _, hb⟩
    exact ⟨_, N, rfl, hb⟩
  | _ =>
    obtain ⟨ev, h2, h3⟩ := hL.syn
    refine (Tryz.strconv_Atoi_form s (by omega) ⟨fun v => (by rw [h1]; intro e; cases e), (by rw [h1]; intro e; cases e)⟩ ev w h2 h3).mono ?_
    rintro e w' ⟨N, rfl, _, _, hb⟩
    exact ⟨_, N, rfl, hb⟩
theorem atoi_lo (l : List UInt8) (v : Int) (h : atoiO l = some v) : -9223372036854775808 ≤ v ∧ v ≤ 9223372036854775807 := by
  unfold atoiO at h
  split at h
  · rename_i v' e
    cases h
    unfold Lib.atoiAll at e
    split at e
    · cases e
    · dsimp only at e
      split at e
      · cases e
      · cases e
      · split at e
        · cases e
        · split at e
          · cases e
          · cases e
            split <;> omega
  · cases h
def natF (s : ByteArray) : Int × Int :=
  if s.size > 15 then (0, 3) else
  match atoiO s.data.toList with
  | none => (0, 3)
  | some v => if v < 0 ∨ Lib.itoa v ≠ s.data.toList then (0, 3) else if v > 1099511627776 then (0, 2) else (v, 0)
def imports_natural.f (a0 : ByteArray) : Option (Int × Int) := some (natF a0)
set_option maxHeartbeats 1600000 in
set_option maxRecDepth 100000 in
theorem imports_natural.calls (a0 : ByteArray) (r1 : Int) (r2 : Int) (w : World) (hLd : Laid w) (h : imports_natural.f a0 = some (r1, r2)) :
    Calls Tryz.prog 99 #[.string a0] w fun e w' => e = .returned (.tuple #[.int .i64 r1, .int .i64 r2]) ∧ Below w.heap.size w w' := by
  have HU := Aside0.mk (Option.some.inj h)
  have HLd := Aside0.mk hLd
  clear h hLd
  unfold natF at HU
  by_cases hs : a0.size > 15
  · rw [if_pos hs] at HU
    go_enter Tryz.func99, Tryz.ntmps99
    go_wp2
    go_ret2
    cases HU.out
    exact ⟨rfl, Below.refl _ _⟩
  · rw [if_neg hs] at HU
    cases hv : atoiO a0.data.toList with
    | none =>
      rw [hv] at HU
      have HV := Aside0.mk hv
      clear hv
      go_enter Tryz.func99, Tryz.ntmps99
      go_wp2_with fail
      refine (atoi_none a0 (by omega) HV.out _ HLd.out).mono ?_
      rintro e w1 ⟨n, M, rfl, hb⟩
      go_wp2
      go_ret2
      cases HU.out
      exact ⟨rfl, hb⟩
    | some v =>
      rw [hv] at HU
      simp only at HU
      have HV := Aside0.mk hv
      clear hv
      have hr := atoi_lo _ v HV.out
      go_enter Tryz.func99, Tryz.ntmps99
      go_wp2_with fail
      refine (atoi_some a0 (by omega) v HV.out _).mono ?_
      rintro e w1 ⟨rfl, hb⟩
      have HB := Aside0.mk hb
      clear hb
      by_cases h0 : v < 0
      · rw [if_pos (.inl h0)] at HU
        go_wp2
        go_ret2
        cases HU.out
        exact ⟨rfl, HB.out⟩
      · go_wp2_with fail
        refine (strconv_Itoa.calls v ⟨(Lib.itoa v).toArray⟩ _ (HLd.out.below HB.out) (if_pos hr)).mono ?_
        rintro e w2 ⟨rfl, hb⟩
        have HB2 := Aside0.mk (HB.out.trans (hb.mono HB.out.size))
        clear hb
        by_cases hi : Lib.itoa v = a0.data.toList
        · rw [if_neg (by rintro (h | h); omega; exact h hi)] at HU
          have t0 : decide (v < 0) = false := decide_eq_false (by omega)
          have t1 : (Lib.itoa v == a0.toList) = true := by rw [ByteArray.toList_eq, hi]; simp
          clear hi
          by_cases hb : v > 1099511627776
          · rw [if_pos hb] at HU
            go_wp2
            go_ret2
            cases HU.out
            exact ⟨rfl, HB2.out⟩
          · rw [if_neg hb] at HU
            go_wp2
            go_ret2
            cases HU.out
            exact ⟨rfl, HB2.out⟩
        · rw [if_pos (.inr hi)] at HU
          have t1 : (Lib.itoa v == a0.toList) = false := by rw [ByteArray.toList_eq]; simpa using hi
          clear hi
          go_wp2
          go_ret2
          cases HU.out
          exact ⟨rfl, HB2.out⟩
end Go.Proofs.YtghjhampigbbkaaGreatDoor.PA
end

/- Texts of this claim, merged by a program: XWrite, XRwrite. -/
import Derived.ArgAppend
import Derived.Below
import Derived.BigQuiet
import Derived.Deep.AppendLies
import Derived.Deep.CutBlock
import Derived.Deep.DeepCutAuto
import Derived.Deep.Draws
import Derived.Deep.LoopGhost
import Derived.Deep.OwnRows
import Derived.Deep.QuietTactic
import Derived.Deep.RegionHeld3
import Derived.Ground.Names2Prog
import Derived.Ground.SlgnProg
import Derived.KernelRfl
import Derived.Laws.BitsLemmas
import Derived.Laws.BytesArg
import Derived.Laws.Cover1
import Derived.Laws.Externs
import Derived.Laws.IdiomCopy
import Derived.Laws.MakeOwn
import Derived.Laws.OwnMore
import Derived.Laws.Rows
import Derived.Laws.Slices
import Derived.Laws.Small
import Derived.Laws.Strings
import Derived.Laws.StructEq
import Derived.Lib.AppendStr
import Derived.Lib.Builder
import Derived.Lib.Bytealg
import Derived.Lib.ConvBytes
import Derived.Lib.CountLaws
import Derived.Lib.ItoaMem
import Derived.Lib.MakeNoZero
import Derived.Lib.Replace
import Derived.Lib.Slices
import Derived.Lib.Strings
import Derived.Lib.UnsafeStr
import Derived.Lib.Walk
import Derived.Maps.AppendAt
import Derived.OrdersHeld
import Derived.OwnWalk
import Derived.RowKit
import Derived.RowKit3
import Derived.Shelf.Abstract
import Derived.Shelf.Slices.Cells
import Derived.Shelf.Slices.Clone
import Derived.Shelf.Slices.CompactS
import Derived.Shelf.Slices.In.SortNone
import Derived.Shelf.Slices.SearchI
import Derived.Shelf.Slices.Turned
import Derived.Shelf.SlicesE.Clone
import Derived.Shelf.Small.Bits
import Derived.Shelf.Small.Strs
import Derived.Shelf.Small.Wraps
import Derived.Shelf.Sort.Plain
import Derived.Shelf.Strconv.Atoi
import Derived.Shelf.Strconv.AtoiAll
import Derived.Shelf.Strconv.AtoiErrFast
import Derived.Shelf.Strconv.AtoiFail
import Derived.Shelf.Strconv.AtoiInnerAll
import Derived.Shelf.Strconv.AtoiLong
import Derived.Shelf.Strconv.Clone
import Derived.Shelf.Strconv.ErrVarAll
import Derived.Shelf.Strconv.Itoa0
import Derived.Shelf.Strconv.Itoa1
import Derived.Shelf.Strconv.Itoa2
import Derived.Shelf.Strconv.Itoa3
import Derived.Shelf.Strconv.Lower
import Derived.Shelf.Strconv.ParseInt10
import Derived.Shelf.Strconv.ParseIntEmpty
import Derived.Shelf.Strconv.ParseUint10
import Derived.Shelf.Strconv.ParseUint10Any
import Derived.Shelf.Strconv.ParseUint10Empty
import Derived.Shelf.Strconv.RangeError
import Derived.Shelf.Strconv.SyntaxError
import Derived.Shelf.Strconv.ToError
import Derived.Shelf.Strconv.ToErrorRange
import Derived.Shelf.Strings.Builder1
import Derived.Shelf.Strings.Builder2
import Derived.Shelf.Strings.Builder2Cap
import Derived.Shelf.Strings.BuilderCap
import Derived.Shelf.Strings.BuilderF
import Derived.Shelf.Strings.BuilderK
import Derived.Shelf.Strings.Count
import Derived.Shelf.Strings.Prefix
import Derived.Shelf.Strings.Replace
import Derived.Shelf.Strings.RuneCount
import Derived.Shelf.Strings.Search1
import Derived.Shelf.Strings.Search2
import Derived.Shelf.Strings.Search3
import Derived.Shelf.Strings.Shaped
import Derived.Shelf.Strings.Split
import Derived.Shelf.Strings.SplitShaped
import Derived.Shelf.Unicode.Decode
import Derived.Shelf.Unicode.DecodeAny
import Derived.Shelf.Unicode.DecodeSlow
import Derived.Shelf.Utf8.RuneCount
import Derived.Tactics
import Derived.Test.YtghjhampigbbkaaGreatDoorProg
import Derived.WalkKit
import Derived.WideLaws
import Derived.Test.YtghjhampigbbkaaGreatDoorKW1
import Derived.Test.YtghjhampigbbkaaGreatDoorKW3
import Derived.Test.YtghjhampigbbkaaGreatDoorKW4
import Derived.Test.YtghjhampigbbkaaGreatDoorKW5
import Derived.Test.YtghjhampigbbkaaGreatDoorKW6
import Derived.Test.YtghjhampigbbkaaGreatDoorKW7
import Derived.Test.YtghjhampigbbkaaGreatDoorKW8
import Derived.Test.YtghjhampigbbkaaGreatDoorKW9
import Derived.Test.YtghjhampigbbkaaGreatDoorKW10
import Derived.Test.YtghjhampigbbkaaGreatDoorKW11
import Derived.Test.YtghjhampigbbkaaGreatDoorKW13
import Derived.Test.YtghjhampigbbkaaGreatDoorKW15
import Derived.Test.YtghjhampigbbkaaGreatDoorKW21
import Derived.Test.YtghjhampigbbkaaGreatDoorKW22
set_option linter.unusedVariables false
set_option linter.unusedSimpArgs false
section
namespace Go.Proofs.YtghjhampigbbkaaGreatDoor.PA
open Go.RowKit Go.Proofs.YtghjhampigbbkaaGreatDoorW.PrintWords Go.Proofs.YtghjhampigbbkaaGreatDoorW.PrintLast Go.Proofs.YtghjhampigbbkaaGreatDoorW.PrintMore
theorem p40_bad (s : ByteArray) : p40 s = s.data.toList.any badB := by
  unfold p40 bytesOf
  rw [List.any_map]
  rfl
theorem badRow_eq (r : List ByteArray) : badRow r = (r.isEmpty || r.any p40) := by
  unfold badRow
  rw [show p40 = fun s => s.data.toList.any badB from funext p40_bad]
theorem byteCells_snoc {sp : Int} (h : sepB sp = true) (l : List UInt8) : Lib.byteCells l ++ [.int .u8 sp] = Lib.byteCells (l ++ [u8of sp]) := by
  have hs : sp = 44 ∨ sp = 59 ∨ sp = 124 ∨ sp = 9 := by simpa [sepB, or_assoc] using h
  have h1 : ((u8of sp).toNat : Int) = sp := by rcases hs with rfl | rfl | rfl | rfl <;> rfl
  simp only [Lib.byteCells, List.map_append, List.map_cons, List.map_nil, h1]
theorem byteCells_snoc' (l : List UInt8) (c : UInt8) : Lib.byteCells l ++ [.int .u8 c.toNat] = Lib.byteCells (l ++ [c]) := by
  simp only [Lib.byteCells, List.map_append, List.map_cons, List.map_nil]
theorem byteCells_str (l ct : List UInt8) : Lib.byteCells l ++ Lib.strCells ⟨ct.toArray⟩ = Lib.byteCells (l ++ ct) := by
  simp [Lib.byteCells, Lib.strCells]
theorem byteCells_10 (l : List UInt8) : Lib.byteCells l ++ [.int .u8 10] = Lib.byteCells (l ++ [10]) := byteCells_snoc' l 10
theorem below_step2 {B : Nat} {W W1 W2 : World} (h : Below B W W1) (k : Below W1.heap.size W1 W2) (hB : B ≤ W1.heap.size) : Below B W W2 := h.trans (k.mono hB)
theorem cat3 (es : List UInt8) : (⟨#[34]⟩ ++ ⟨es.toArray⟩ ++ ⟨#[34]⟩ : ByteArray) = ⟨(34 :: (es ++ [34])).toArray⟩ := by
  apply ByteArray.ext
  simp
def writePost (w : World) (R : ByteArray × Int) (e : Ending) (w' : World) : Prop := e = .returned (.tuple #[.string R.1, .int .i64 R.2]) ∧ Below w.heap.size w w'
set_option maxHeartbeats 3200000 in
set_option maxRecDepth 100000 in
theorem Write_at (A0 : Option Addr) (c0 : Nat) (rows : List (List ByteArray)) (sp : Int) (w : World) (hLd : Laid w)
    (hr0 : Kd.C (Kd.slice 9 Kd.string) w A0 rows.length rows) (hft : fitsT rows) :
    Calls Tryz.prog 12 #[.slice A0 rows.length c0, .int .u8 sp] w (writePost w (writeF rows sp)) := by
  have HLd := Aside0.mk hLd
  have HR := Aside0.mk hr0
  have HF := Aside0.mk hft
  have hm : rows.length ≤ 1099511627776 := hft.2
  clear hLd hr0 hft
  cases hsp : sepB sp
  · have HW : Aside0 (writeF rows sp = (⟨#[]⟩, 1)) := ⟨by unfold writeF; rw [if_pos (show sepB' sp = false from hsp)]⟩
    have HS := Aside0.mk (hsp ▸ separates_f sp)
    clear hsp
    go_enter Tryz.func12, Tryz.ntmps12
    go_wp2_with fail
    refine (imports_separates.calls sp false _ HS.out).mono ?_
    rintro e w1 ⟨rfl, ⟨n1, rfl⟩⟩
    go_wp2
    go_ret2
    rw [HW.out]
    exact ⟨rfl, pw_below_drewN (Below.refl _ _) _⟩
  · have HW : Aside0 (writeF rows sp = if rows.any badRow = true then (⟨#[]⟩, 1) else if rows.length > 2001 then (⟨#[]⟩, 5)
  else if (tabT sp rows).length > 16384 then (⟨#[]⟩, 5) else (⟨(tabT sp rows).toArray⟩, 0)) := ⟨by unfold writeF; rw [if_neg (by show ¬ sepB sp = false; rw [hsp]; decide)]⟩
    have HS := Aside0.mk (hsp ▸ separates_f sp)
    have HSP := Aside0.mk hsp
    clear hsp
    go_enter Tryz.func12, Tryz.ntmps12
    go_wp2_with fail
    refine (imports_separates.calls sp true _ HS.out).mono ?_
    rintro e w1 ⟨rfl, ⟨n1, rfl⟩⟩
    have HB0 := Aside0.mk (pw_below_drewN (Below.refl w.heap.size w) n1)
    generalize w.drewN n1 = w1 at HB0 ⊢
    clear HS
    go_wp2_with fail
    go_loopg [18] rows.length (fun kq v18 wr => ∃ i : Nat, i ≤ rows.length ∧ v18 = .int .i64 i ∧ Aside0 (kq + i = rows.length) ∧ Aside0 ((rows.take i).any badRow = false) ∧ Aside0 (Below w.heap.size w wr))
    case atStart => exact ⟨0, Nat.zero_le _, rfl, ⟨by simp⟩, ⟨by simp⟩, HB0⟩
    case round =>
      clear HB0
      obtain ⟨i, hi, rfl, HK, HA, HB⟩ := hrel
      by_cases hlt : i < rows.length
      · have p5 := eq_true (show 0 ≤ (i : Int) by omega)
        have q5 := eq_true (show (i : Int) < (rows.length : Int) by omega)
        obtain ⟨ad, A1, c1, e1, hx, hl, hC⟩ := at_L1 HR.out (i : Int) (by omega) (by omega)
        cases e1
        have hrd : rd_L1 rows (i : Int) = rows[i] := by show rows.getD (i : Int).toNat [] = rows[i]; simp [hlt]
        rw [hrd, Int.toNat_natCast] at hx
        rw [hrd] at hl hC
        have HM := Aside0.mk (HF.out.1 rows[i] (List.getElem_mem hlt))
        have HT : Aside0 (rows.take (i + 1) = rows.take i ++ [rows[i]]) := ⟨List.take_succ_eq_append_getElem hlt⟩
        have HIN : Aside0 (rows.any badRow = false → badRow rows[i] = false) := ⟨fun h => (List.any_eq_false.1 h) rows[i] (List.getElem_mem hlt) |> fun h => by simpa using h⟩
        clear hrd
        generalize rows[i] = row at hx hl hC HM HT HIN
        have hx2 := pw_cell_below HB.out hx
        have HC := Aside0.mk (Kd.C_below hC HB.out)
        clear hx hC
        by_cases hem : row.length = 0
        · have t1 : ((row.length : Int) == 0) = true := by rw [hem]; rfl
          have HBD : Aside0 (rows.any badRow = true) := ⟨by
            cases h : rows.any badRow
            · have := HIN.out h
              rw [badRow_eq, List.length_eq_zero_iff.1 hem] at this
              cases this
            · rfl⟩
          clear hem
          go_wp2_with fail
          go_ret2
          rw [HW.out, if_pos HBD.out]
          exact ⟨rfl, HB.out⟩
        · have HNE : Aside0 (row.isEmpty = false) := ⟨by cases row with | nil => exact absurd rfl hem | cons _ _ => rfl⟩
          have t1 : ((row.length : Int) == 0) = false := beq_false_of_ne (by omega)
          clear hem
          have HX := Aside0.mk (ContainsFunc_40 A1 c1 row wr HC.out (fun s hs => by have := HM.out.2 s hs; omega))
          cases hany : row.any p40
          · rw [hany] at HX
            have HOK : Aside0 (badRow row = false) := ⟨by rw [badRow_eq, HNE.out, hany]; rfl⟩
            clear hany
            go_wp2_with fail
            refine HX.out.mono ?_
            rintro e w2 ⟨rfl, hb⟩
            have HB2 := Aside0.mk (below_step HB.out hb)
            clear hb
            go_wp2
            obtain ⟨k, rfl⟩ : ∃ k, gk = k + 1 := ⟨gk - 1, by have := HK.out; omega⟩
            go_roundg k
            case measure => omega
            case rel => exact ⟨i + 1, by omega, by go_num, ⟨by have := HK.out; omega⟩, ⟨by rw [HT.out, List.any_append, HA.out]; simp [HOK.out]⟩, HB2⟩
          · rw [hany] at HX
            have HBD : Aside0 (rows.any badRow = true) := ⟨by
              cases h : rows.any badRow
              · have := HIN.out h
                rw [badRow_eq, hany] at this
                simp at this
              · rfl⟩
            clear hany
            go_wp2_with fail
            refine HX.out.mono ?_
            rintro e w2 ⟨rfl, hb⟩
            have HB2 := Aside0.mk (below_step HB.out hb)
            clear hb
            go_wp2
            go_ret2
            rw [HW.out, if_pos HBD.out]
            exact ⟨rfl, HB2.out⟩
      · have HG : Aside0 (rows.any badRow = false) := ⟨by have := HA.out; rwa [List.take_of_length_le (by omega)] at this⟩
        rw [HG.out] at HW
        simp only [Bool.false_eq_true, if_false] at HW
        clear HA HG HK
        by_cases hbig : rows.length > 2001
        · have q5 : decide ((2001 : Int) < (rows.length : Int)) = true := by simp; omega
          rw [if_pos hbig] at HW
          clear hbig
          go_wp2_with fail
          go_ret2
          rw [HW.out]
          exact ⟨rfl, HB.out⟩
        · have q5 : decide ((2001 : Int) < (rows.length : Int)) = false := by simp; omega
          rw [if_neg hbig] at HW
          clear hbig
          generalize hWW : wr = W at HB ⊢
          clear hWW
          have HI0 : Aside0 (Lib.IsBuilder 75 5 W.heap.size W.heap.size (Lib.byteCells (tabT sp (rows.take 0))) (W.alloc (.cells #[.pointer none, .slice none 0 0] 75))) := ⟨Lib.fresh_isBuilder 75 5 W⟩
          have HB0 : Aside0 (Below W.heap.size W (W.alloc (.cells #[.pointer none, .slice none 0 0] 75))) := ⟨below_alloc (Below.refl _ _) _⟩
          go_wp2_with fail
          go_loopg [35] rows.length (fun kq v35 wr => ∃ i : Nat, i ≤ rows.length ∧ v35 = .int .i64 i ∧ Aside0 (kq + i = rows.length) ∧ Aside0 ((tabT sp (rows.take i)).length ≤ 16384) ∧ Aside0 (Lib.IsBuilder 75 5 W.heap.size W.heap.size (Lib.byteCells (tabT sp (rows.take i))) wr) ∧ Aside0 (Below W.heap.size W wr))
          case atStart => exact ⟨0, Nat.zero_le _, rfl, ⟨by simp⟩, ⟨by simp [tabT]⟩, HI0, HB0⟩
          case round =>
            clear HI0 HB0
            obtain ⟨i, hi, rfl, HK, HL, HI, HBW⟩ := hrel
            by_cases hlt : i < rows.length
            · have p5 := eq_true (show 0 ≤ (i : Int) by omega)
              have q5 := eq_true (show (i : Int) < (rows.length : Int) by omega)
              obtain ⟨ad, A1, c1, e1, hx, hl, hC⟩ := at_L1 HR.out (i : Int) (by omega) (by omega)
              cases e1
              have hrd : rd_L1 rows (i : Int) = rows[i] := by show rows.getD (i : Int).toNat [] = rows[i]; simp [hlt]
              rw [hrd, Int.toNat_natCast] at hx
              rw [hrd] at hl hC
              have HM := Aside0.mk (HF.out.1 rows[i] (List.getElem_mem hlt))
              have HT : Aside0 (rows.take (i + 1) = rows.take i ++ [rows[i]]) := ⟨List.take_succ_eq_append_getElem hlt⟩
              clear hrd
              generalize rows[i] = row at hx hl hC HM HT
              have hx2 := pw_cell_below (below_step HB.out HBW.out) hx
              have HC := Aside0.mk hC
              clear hx hC
              have hm2 : row.length ≤ 1048576 := HM.out.1
              obtain ⟨ko, rfl⟩ : ∃ k, gk = k + 1 := ⟨gk - 1, by have := HK.out; omega⟩
              go_wp2_with fail
              go_loopg [41] row.length (fun kq v41 wi => ∃ j : Nat, j ≤ row.length ∧ v41 = .int .i64 j ∧ Aside0 (kq + j = row.length) ∧ Aside0 (Lib.IsBuilder 75 5 W.heap.size W.heap.size (Lib.byteCells (tabT sp (rows.take i) ++ headT sp (row.take j))) wi) ∧ Aside0 (Below W.heap.size W wi))
              case atStart => exact ⟨0, Nat.zero_le _, rfl, ⟨by simp⟩, ⟨by simpa [headT] using HI.out⟩, HBW⟩
              case round =>
                clear HI HBW
                obtain ⟨j, hj, rfl, HKj, HIj, HBj⟩ := hrel
                by_cases hjl : j < row.length
                · have p6 := eq_true (show 0 ≤ (j : Int) by omega)
                  have q6 := eq_true (show (j : Int) < (row.length : Int) by omega)
                  obtain ⟨ad2, e1, hy⟩ := Kd.at_string (Kd.C_below HC.out (below_step HB.out HBj.out)) (j : Int) (by omega) (by omega)
                  cases e1
                  have hrs : rdOf ByteArray.empty row (j : Int) = row[j] := by show row.getD (j : Int).toNat _ = row[j]; simp [hjl]
                  rw [hrs, Int.toNat_natCast] at hy
                  have HTj : Aside0 (row.take (j + 1) = row.take j ++ [row[j]]) := ⟨List.take_succ_eq_append_getElem hjl⟩
                  have hsz : row[j].size ≤ 1048576 := HM.out.2 _ (List.getElem_mem hjl)
                  clear hrs
                  generalize row[j] = s at hy HTj hsz
                  have HSZ := Aside0.mk hsz
                  clear hsz
                  have HLEN : Aside0 ((tabT sp (rows.take i) ++ headT sp (row.take j)).length ≤ 16384 + 1048576 * 2097155) := ⟨by
                    have h1 := headT_length sp (row.take j) (fun x hx => HM.out.2 x (List.mem_of_mem_take hx))
                    have h2 : (row.take j).length ≤ row.length := List.length_take_le' ..
                    have h3 := HM.out.1
                    have h4 := HL.out
                    rw [List.length_append]
                    omega⟩
                  go_upto_if 47 with fail
                  go_cut [] (fun wx => Aside0 (Lib.IsBuilder 75 5 W.heap.size W.heap.size (Lib.byteCells (tabT sp (rows.take i) ++ (if row.take j = [] then [] else headT sp (row.take j) ++ [u8of sp]))) wx) ∧ Aside0 (Below W.heap.size W wx))
                  case first =>
                    by_cases hj0 : 0 < j
                    rotate_left
                    · have HE : Aside0 (row.take j = []) := ⟨by rw [show j = 0 by omega]; rfl⟩
                      rw [HE.out] at HIj
                      go_wp2
                      go_meet
                      case rel => exact ⟨⟨by rw [HE.out]; simpa [headT] using HIj.out⟩, HBj⟩
                    · have HE : Aside0 (¬ row.take j = []) := ⟨by intro h; have h1 := congrArg List.length h; rw [List.length_take] at h1; simp only [List.length_nil] at h1; omega⟩
                      go_wp2_with fail
                      refine (Bld.Builder_WriteByte W.heap.size W.heap.size _ sp _ HIj.out (by have := HLEN.out; rw [Lib.byteCells_length]; omega) HBj.out.size).mono ?_
                      rintro e w3 ⟨rfl, hb1, hw1⟩
                      rw [byteCells_snoc HSP.out] at hb1
                      have HI3 := Aside0.mk hb1
                      have HB3 := Aside0.mk (HBj.out.trans hw1)
                      clear hb1 hw1
                      go_wp2
                      go_meet
                      case rel => exact ⟨⟨.inr (by rw [if_neg HE.out, ← List.append_assoc]; exact HI3.out)⟩, HB3⟩
                  case rest =>
                    obtain ⟨HI2, HB2⟩ := hcut
                    rename World => wd
                    go_upto_region 20 with fail
                    go_cut [58] (fun v58 wx => v58 = .bool (spc sp s.data.toList) ∧ Aside0 (Lib.IsBuilder 75 5 W.heap.size W.heap.size (Lib.byteCells (tabT sp (rows.take i) ++ (if row.take j = [] then [] else headT sp (row.take j) ++ [u8of sp]))) wx) ∧ Aside0 (Below W.heap.size W wx))
                    case first =>
                      have HS := Aside0.mk (show spc sp s.data.toList = (decide (0 ≤ Lib.indexByte s.data.toList 34) || decide (0 ≤ Lib.indexByte s.data.toList (u8of sp))) from rfl)
                      have H34 := fun W => Tryz.strings_IndexByte s 34 W
                      have HSP9 := fun W => Tryz.strings_IndexByte s sp W
                      rw [show (34 : Int).toNat.toUInt8 = 34 by decide] at H34
                      rw [show sp.toNat.toUInt8 = u8of sp from rfl] at HSP9
                      generalize Lib.indexByte s.data.toList 34 = m1 at HS H34
                      generalize Lib.indexByte s.data.toList (u8of sp) = m2 at HS HSP9
                      have H34 := Aside0.mk H34
                      have HSP9 := Aside0.mk HSP9
                      by_cases hm1 : 0 ≤ m1
                      · go_wp2_with fail
                        refine (H34.out wd).mono ?_
                        rintro e w9 ⟨rfl, rfl⟩
                        go_wp2
                        go_meet
                        case rel => exact ⟨by rw [HS.out, decide_eq_true hm1]; rfl, HI2, HB2⟩
                      · go_wp2_with fail
                        refine (H34.out wd).mono ?_
                        rintro e w9 ⟨rfl, rfl⟩
                        go_wp2_with fail
                        refine (HSP9.out _).mono ?_
                        rintro e w10 ⟨rfl, rfl⟩
                        go_wp2
                        go_meet
                        case rel => exact ⟨by rw [HS.out], HI2, HB2⟩
                    case rest =>
                      obtain ⟨rfl, HI3, HB3⟩ := hcut
                      rename World => we
                      clear HI2 HB2
                      go_upto_if 58 with fail
                      go_cut [12] (fun v12 wx => v12 = .string ⟨(cellT sp s.data.toList).toArray⟩ ∧ Aside0 (Lib.IsBuilder 75 5 W.heap.size W.heap.size (Lib.byteCells (tabT sp (rows.take i) ++ (if row.take j = [] then [] else headT sp (row.take j) ++ [u8of sp]))) wx) ∧ Aside0 (Below W.heap.size W wx))
                      case first =>
                        cases hsc : spc sp s.data.toList
                        · have HE : Aside0 (cellT sp s.data.toList = s.data.toList) := ⟨by unfold cellT; rw [hsc]; rfl⟩
                          clear hsc
                          go_wp2
                          go_meet
                          case rel => exact ⟨by rw [HE.out], HI3, HB3⟩
                        · have HE : Aside0 (cellT sp s.data.toList = 34 :: (esc s.data.toList ++ [34])) := ⟨by unfold cellT; rw [hsc]; rfl⟩
                          clear hsc
                          obtain ⟨mx, hmx⟩ := (HLd.out.below (below_step HB.out HB3.out)).mx
                          have hra := (Tryz.strings_ReplaceAll s ⟨#[34]⟩ ⟨#[34, 34]⟩ mx we (by have := HSZ.out; omega) hmx (by decide) (by have := HSZ.out; have := Lib.count_le s.data.toList [34]; have h : Lib.countB s ⟨#[34]⟩ ≤ s.data.toList.length + 1 := this; rw [show s.data.toList.length = s.size by simp] at h; show s.size + Lib.countB s ⟨#[34]⟩ * 2 ≤ _; omega))
                          rw [show Lib.replaceAll s.data.toList (⟨#[34]⟩ : ByteArray).data.toList (⟨#[34, 34]⟩ : ByteArray).data.toList = esc s.data.toList from replaceAll_esc _] at hra
                          have HRA := Aside0.mk hra
                          have HEL : Aside0 ((esc s.data.toList).length ≤ 2097152) := ⟨by have := esc_length s.data.toList; rw [show s.data.toList.length = s.size by simp] at this; have := HSZ.out; omega⟩
                          clear hmx hra
                          generalize esc s.data.toList = es at HRA HE HEL
                          have z1 : (9223372036854775807 < 1 + es.length) = False := eq_false (by have := HEL.out; omega)
                          have z2 : (9223372036854775807 < 1 + es.length + 1) = False := eq_false (by have := HEL.out; omega)
                          go_wp2_with fail
                          refine HRA.out.mono ?_
                          rintro e w11 ⟨rfl, hb⟩
                          have HB4 := Aside0.mk hb
                          clear hb
                          go_wp2_with fail
                          go_meet
                          case rel => exact ⟨by rw [HE.out, cat3], ⟨bld_keep HI3.out (fun i _ hi => HB4.out.block i hi)⟩, ⟨below_step2 HB3.out HB4.out HB3.out.size⟩⟩
                      case rest =>
                        obtain ⟨rfl, HI5, HB5⟩ := hcut
                        rename World => wf
                        clear HI3 HB3
                        have HCL := Aside0.mk (cellT_length sp s.data.toList)
                        have HSN : Aside0 (tabT sp (rows.take i) ++ headT sp (row.take (j + 1)) = (tabT sp (rows.take i) ++ (if row.take j = [] then [] else headT sp (row.take j) ++ [u8of sp])) ++ cellT sp s.data.toList) := ⟨by rw [HTj.out, headT_snoc, List.append_assoc]⟩
                        have HLN2 : Aside0 ((tabT sp (rows.take i) ++ (if row.take j = [] then [] else headT sp (row.take j) ++ [u8of sp])).length ≤ 16384 + 1048576 * 2097155 + 1) := ⟨by
                          have := HLEN.out
                          split
                          · rw [List.length_append] at this ⊢; simp; omega
                          · rw [← List.append_assoc, List.length_append]; simp only [List.length_cons, List.length_nil]; omega⟩
                        generalize cellT sp s.data.toList = ct at HCL HSN ⊢
                        go_wp2_with fail
                        refine (Bld.Builder_WriteString W.heap.size W.heap.size _ ⟨ct.toArray⟩ _ HI5.out (by have := HLN2.out; have := HCL.out; have := HSZ.out; rw [show s.data.toList.length = s.size by simp] at *; rw [Lib.byteCells_length]; show _ + ct.toArray.size ≤ _; rw [List.size_toArray]; omega) HB5.out.size).mono ?_
                        rintro e w12 ⟨rfl, hb1, hw1⟩
                        rw [byteCells_str, ← HSN.out] at hb1
                        have HI6 := Aside0.mk hb1
                        have HB6 := Aside0.mk (HB5.out.trans hw1)
                        clear hb1 hw1
                        go_wp2
                        obtain ⟨k, rfl⟩ : ∃ k, gk = k + 1 := ⟨gk - 1, by have := HKj.out; omega⟩
                        go_roundg k
                        case measure => omega
                        case rel => exact ⟨j + 1, by omega, by go_num, ⟨by have := HKj.out; omega⟩, ⟨.inr HI6.out⟩, HB6⟩
                · have HEN : Aside0 (row.take j = row) := ⟨List.take_of_length_le (by omega)⟩
                  rw [HEN.out] at HIj
                  have HLEN : Aside0 ((tabT sp (rows.take i) ++ headT sp row).length ≤ 16384 + 1048576 * 2097155) := ⟨by
                    have h1 := headT_length sp row HM.out.2
                    have h3 := HM.out.1
                    have h4 := HL.out
                    rw [List.length_append]
                    omega⟩
                  have HTT : Aside0 (tabT sp (rows.take (i + 1)) = tabT sp (rows.take i) ++ headT sp row ++ [10]) := ⟨by rw [HT.out, tabT_snoc, List.append_assoc]⟩
                  go_wp2_with fail
                  refine (Bld.Builder_WriteByte W.heap.size W.heap.size _ 10 _ HIj.out (by have := HLEN.out; rw [Lib.byteCells_length]; omega) HBj.out.size).mono ?_
                  rintro e w3 ⟨rfl, hb1, hw1⟩
                  rw [byteCells_10, ← HTT.out] at hb1
                  have HI3 : Aside0 (Lib.IsBuilder 75 5 W.heap.size W.heap.size _ w3) := ⟨.inr hb1⟩
                  have HB3 := Aside0.mk (HBj.out.trans hw1)
                  clear hb1 hw1
                  go_wp2_with fail
                  refine (Bld.Builder_Len W.heap.size W.heap.size _ _ HI3.out).mono ?_
                  rintro e w4 ⟨rfl, rfl⟩
                  rw [Lib.byteCells_length]
                  have HMO := Aside0.mk (tabT_mono sp rows (i + 1))
                  generalize htx : tabT sp (rows.take (i + 1)) = tx at HI3 HMO HTT ⊢
                  have HTX := Aside0.mk htx
                  clear htx
                  by_cases hbg : tx.length > 16384
                  · have t1 : decide (16384 < tx.length) = true := decide_eq_true hbg
                    have HBG : Aside0 ((tabT sp rows).length > 16384) := ⟨by have := HMO.out; omega⟩
                    go_wp2
                    go_ret2
                    rw [HW.out, if_pos HBG.out]
                    exact ⟨rfl, below_step HB.out HB3.out⟩
                  · have t1 : decide (16384 < tx.length) = false := decide_eq_false hbg
                    have HBG : Aside0 (tx.length ≤ 16384) := ⟨by omega⟩
                    go_wp2
                    go_roundg ko
                    case measure => omega
                    case rel => exact ⟨i + 1, by omega, by go_num, ⟨by have := HK.out; omega⟩, ⟨by rw [HTX.out]; exact HBG.out⟩, ⟨by rw [HTX.out]; exact HI3.out⟩, HB3⟩
            · have HT : Aside0 (rows.take i = rows) := ⟨List.take_of_length_le (by omega)⟩
              rw [HT.out] at HI HL
              rw [if_neg (by have := HL.out; omega)] at HW
              go_wp2_with fail
              refine (Bld.Builder_String_any W.heap.size W.heap.size _ _ HI.out HBW.out.size).mono ?_
              rintro e w2 ⟨rfl, hw2⟩
              go_wp2
              go_ret2
              rw [HW.out]
              exact ⟨rfl, below_step HB.out (HBW.out.trans hw2)⟩
end Go.Proofs.YtghjhampigbbkaaGreatDoor.PA
end
section
namespace Go.Proofs.YtghjhampigbbkaaGreatDoor.PA
open Go.RowKit Go.Proofs.YtghjhampigbbkaaGreatDoorW.PrintWords Go.Proofs.YtghjhampigbbkaaGreatDoorW.PrintLast Go.Proofs.YtghjhampigbbkaaGreatDoorW.PrintMore
def bsL (l : List UInt8) : ByteArray := ⟨l.toArray⟩
theorem bsL_size (l : List UInt8) : (bsL l).size = l.length := by show l.toArray.size = l.length; simp
theorem bsL_cat (l m : List UInt8) : bsL l ++ bsL m = bsL (l ++ m) := by
  apply ByteArray.ext
  simp [bsL]
theorem strOf_sep {sp : Int} (h : sepB' sp = true) : strOfNums [sp] = bsL [u8of sp] := by
  have hs : sp = 44 ∨ sp = 59 ∨ sp = 124 ∨ sp = 9 := by simpa [sepB', or_assoc] using h
  rcases hs with rfl | rfl | rfl | rfl <;> rfl
theorem headT_ge (sp : Int) (row : List ByteArray) (j : Nat) : (headT sp (row.take j)).length ≤ (headT sp row).length := by
  cases row with
  | nil => simp
  | cons s r =>
    cases j with
    | zero => simp [headT]
    | succ j =>
      have h : tailT sp r = tailT sp (r.take j) ++ tailT sp (r.drop j) := by rw [← tailT_append, List.take_append_drop]
      simp only [List.take_succ_cons, headT, h, List.length_append]
      omega
theorem tab_ge (sp : Int) (rows : List (List ByteArray)) (i j : Nat) (h : i < rows.length) : (tabT sp (rows.take i) ++ headT sp (rows[i].take j)).length ≤ (tabT sp rows).length := by
  have h1 : tabT sp rows = tabT sp (rows.take i) ++ tabT sp (rows.drop i) := by rw [← tabT_append, List.take_append_drop]
  have h2 := headT_ge sp rows[i] j
  rw [h1, List.drop_eq_getElem_cons h]
  simp only [tabT, List.flatMap_cons, rowT_head, List.length_append]
  omega
set_option maxHeartbeats 3200000 in
set_option maxRecDepth 100000 in
theorem RWrite_at (A0 : Option Addr) (c0 : Nat) (rows : List (List ByteArray)) (sp : Int) (w : World)
    (hr0 : Kd.C (Kd.slice 9 Kd.string) w A0 rows.length rows) (hl0 : rows.length ≤ c0) (hft : fitsT rows) :
    Calls Tryz.prog 13 #[.slice A0 rows.length c0, .int .u8 sp] w (writePost w (writeF rows sp)) := by
  have HR := Aside0.mk hr0
  have HF := Aside0.mk hft
  have hm : rows.length ≤ 1099511627776 := hft.2
  obtain ⟨kT, hkT⟩ := rTable_f rows hft
  have HTB := Aside0.mk (fun W (hb : Below w.heap.size w W) => casebookref13_Table.calls kT A0 c0 rows _ W (Kd.C_below hr0 hb) hl0 hkT)
  clear hr0 hft hl0 hkT
  have HSEP := Aside0.mk (casebookref13_Separator.calls sp _ w (Separator_f sp))
  cases hsp : sepB' sp
  · have HW : Aside0 (writeF rows sp = (⟨#[]⟩, 1)) := ⟨by unfold writeF; rw [if_pos hsp]⟩
    rw [hsp] at HSEP
    clear hsp
    go_enter Tryz.func13, Tryz.ntmps13
    go_wp2_with fail
    refine HSEP.out.mono ?_
    rintro e w1 ⟨rfl, ⟨⟨n1, rfl⟩⟩⟩
    go_wp2
    go_ret2
    rw [HW.out]
    exact ⟨rfl, pw_below_drewN (Below.refl _ _) _⟩
  · have HW : Aside0 (writeF rows sp = if rows.any badRow = true then (⟨#[]⟩, 1) else if rows.length > 2001 then (⟨#[]⟩, 5)
  else if (tabT sp rows).length > 16384 then (⟨#[]⟩, 5) else (bsL (tabT sp rows), 0)) := ⟨by unfold writeF; rw [if_neg (by rw [hsp]; decide)]; rfl⟩
    rw [hsp] at HSEP
    have HSP := Aside0.mk hsp
    clear hsp
    cases hbad : rows.any badRow
    rotate_left
    · rw [hbad] at HTB HW
      clear hbad
      go_enter Tryz.func13, Tryz.ntmps13
      go_wp2_with fail
      refine HSEP.out.mono ?_
      rintro e w1 ⟨rfl, ⟨⟨n1, rfl⟩⟩⟩
      go_wp2_with fail
      refine (HTB.out _ (pw_below_drewN (Below.refl _ _) _)).mono ?_
      rintro e w2 ⟨rfl, ⟨⟨n2, rfl⟩⟩⟩
      go_wp2
      go_ret2
      rw [HW.out]
      exact ⟨rfl, pw_below_drewN (Below.refl _ _) _⟩
    · rw [hbad] at HTB HW
      clear hbad
      simp only [Bool.false_eq_true, if_false] at HW
      go_enter Tryz.func13, Tryz.ntmps13
      go_wp2_with fail
      refine HSEP.out.mono ?_
      rintro e w1 ⟨rfl, ⟨⟨n1, rfl⟩⟩⟩
      go_wp2_with fail
      refine (HTB.out _ (pw_below_drewN (Below.refl _ _) _)).mono ?_
      rintro e w2 ⟨rfl, ⟨⟨n2, rfl⟩⟩⟩
      have HB0 := Aside0.mk (pw_below_drewN (Below.refl w.heap.size w) (n1 + n2))
      clear HTB HSEP
      by_cases hbig : rows.length > 2001
      · have q5 : decide ((2001 : Int) < (rows.length : Int)) = true := by simp; omega
        rw [if_pos hbig] at HW
        clear hbig
        go_wp2_with fail
        go_ret2
        rw [HW.out]
        exact ⟨rfl, pw_below_drewN (Below.refl _ _) _⟩
      · have q5 : decide ((2001 : Int) < (rows.length : Int)) = false := by simp; omega
        rw [if_neg hbig] at HW
        clear hbig
        go_wp2_with fail
        generalize w.drewN (n1 + n2) = w3 at HB0 ⊢
        go_loopg [6, 7] rows.length (fun kq v6 v7 wr => ∃ i : Nat, i ≤ rows.length ∧ v7 = .int .i64 i ∧ v6 = .string (bsL (tabT sp (rows.take i))) ∧ Aside0 (kq + i = rows.length) ∧ Aside0 ((tabT sp (rows.take i)).length ≤ 16384 + i) ∧ Aside0 (Below w.heap.size w wr))
        case atStart => exact ⟨0, Nat.zero_le _, rfl, rfl, ⟨by simp⟩, ⟨by simp [tabT]⟩, HB0⟩
        case round =>
          clear HB0
          obtain ⟨i, hi, rfl, rfl, HK, HL, HB⟩ := hrel
          by_cases hlt : i < rows.length
          · have p5 := eq_true (show 0 ≤ (i : Int) by omega)
            have q5 := eq_true (show (i : Int) < (rows.length : Int) by omega)
            obtain ⟨ad, A1, c1, e1, hx, hl, hC⟩ := at_L1 HR.out (i : Int) (by omega) (by omega)
            cases e1
            rw [rd_L1_nat _ _ hlt, Int.toNat_natCast] at hx
            rw [rd_L1_nat _ _ hlt] at hl hC
            have HM := Aside0.mk (HF.out.1 rows[i] (List.getElem_mem hlt))
            have HT : Aside0 (rows.take (i + 1) = rows.take i ++ [rows[i]]) := ⟨List.take_succ_eq_append_getElem hlt⟩
            have HGE := Aside0.mk (fun j => tab_ge sp rows i j hlt)
            generalize rows[i] = row at hx hl hC HM HT HGE
            have HX := Aside0.mk hx
            have HC := Aside0.mk hC
            clear hx hC
            have hm2 : row.length ≤ 1048576 := HM.out.1
            obtain ⟨ko, rfl⟩ : ∃ k, gk = k + 1 := ⟨gk - 1, by have := HK.out; omega⟩
            go_wp2_with fail
            go_loopg [6, 8] row.length (fun kq v6 v8 wi => ∃ j : Nat, j ≤ row.length ∧ v8 = .int .i64 j ∧ v6 = .string (bsL (tabT sp (rows.take i) ++ headT sp (row.take j))) ∧ Aside0 (kq + j = row.length) ∧ Aside0 ((tabT sp (rows.take i) ++ headT sp (row.take j)).length ≤ 16384 + i) ∧ Aside0 (Below w.heap.size w wi))
            case atStart => exact ⟨0, Nat.zero_le _, rfl, by simp [headT], ⟨by simp⟩, ⟨by simpa [headT] using HL.out⟩, HB⟩
            case round =>
              obtain ⟨j, hj, rfl, rfl, HKj, HLj, HBj⟩ := hrel
              have hxj := pw_cell_below HBj.out HX.out
              by_cases hjl : j < row.length
              · have p6 := eq_true (show 0 ≤ (j : Int) by omega)
                have q6 := eq_true (show (j : Int) < (row.length : Int) by omega)
                obtain ⟨ad2, e1, hy⟩ := Kd.at_string HC.out (j : Int) (by omega) (by omega)
                cases e1
                rw [rdOf_nat _ _ hjl, Int.toNat_natCast] at hy
                have HY := Aside0.mk hy
                clear hy
                have HTj : Aside0 (row.take (j + 1) = row.take j ++ [row[j]]) := ⟨List.take_succ_eq_append_getElem hjl⟩
                have HSZ : Aside0 (row[j].size ≤ 1048576) := ⟨HM.out.2 _ (List.getElem_mem hjl)⟩
                generalize row[j] = s at HY HTj HSZ
                have HCE := Aside0.mk (fun W => casebookref13_cell.calls (s.size + 1) s sp (bsL (cellT sp s.data.toList)) W (rcell_f s sp HSZ.out HSP.out (s.size + 1) (by omega)))
                have HCL := Aside0.mk (cellT_length sp s.data.toList)
                have HSN : Aside0 (tabT sp (rows.take i) ++ headT sp (row.take (j + 1)) = (tabT sp (rows.take i) ++ (if row.take j = [] then [] else headT sp (row.take j) ++ [u8of sp])) ++ cellT sp s.data.toList) := ⟨by rw [HTj.out, headT_snoc, List.append_assoc]⟩
                generalize cellT sp s.data.toList = ct at HCL HSN HCE
                have HG1 := Aside0.mk (HGE.out (j + 1))
                go_upto_if 36 with fail
                go_cut [6] (fun v6 wx => v6 = .string (bsL (tabT sp (rows.take i) ++ (if row.take j = [] then [] else headT sp (row.take j) ++ [u8of sp]))) ∧ Aside0 (Below w.heap.size w wx))
                case first =>
                  by_cases hj0 : 0 < j
                  · have HE : Aside0 (¬ row.take j = []) := ⟨by intro h; have h1 := congrArg List.length h; rw [List.length_take] at h1; simp only [List.length_nil] at h1; omega⟩
                    have z0 : (9223372036854775807 < (bsL (tabT sp (rows.take i) ++ headT sp (row.take j))).size + 1) = False := eq_false (by rw [bsL_size]; have := HLj.out; omega)
                    have hcv := own_string (P := Tryz.prog) Tryz.underlying72 Tryz.underlying5 Tryz.underlying9 (own_lit wr 0 5 .u8 [sp] (Nat.zero_le _) (by simp))
                    rw [strOf_sep HSP.out] at hcv
                    simp only [nums, List.map_cons, List.map_nil, List.length_cons, List.length_nil, Nat.zero_add] at hcv
                    have z2 : (bsL [u8of sp]).size = 1 := rfl
                    go_wp2_with fail
                    go_meet
                    case rel => exact ⟨by rw [if_neg HE.out, ← List.append_assoc, bsL_cat], ⟨below_alloc HBj.out _⟩⟩
                  · have HE : Aside0 (row.take j = []) := ⟨by rw [show j = 0 by omega]; rfl⟩
                    go_wp2
                    go_meet
                    case rel => exact ⟨by rw [HE.out]; simp [headT], HBj⟩
                case rest =>
                  obtain ⟨rfl, HB2⟩ := hcut
                  rename World => wd
                  have hxd := pw_cell_below HB2.out HX.out
                  have hyd := pw_cell_below HB2.out HY.out
                  have HPL : Aside0 ((tabT sp (rows.take i) ++ (if row.take j = [] then [] else headT sp (row.take j) ++ [u8of sp])).length ≤ 16384 + i + 1) := ⟨by
                    have := HLj.out
                    split
                    · rw [List.length_append] at this ⊢; simp; omega
                    · rw [← List.append_assoc, List.length_append]; simp only [List.length_cons, List.length_nil]; omega⟩
                  generalize tabT sp (rows.take i) ++ (if row.take j = [] then [] else headT sp (row.take j) ++ [u8of sp]) = pre at HPL HSN ⊢
                  have HSL : Aside0 ((bsL pre).size + (bsL ct).size ≤ 2199023255552) := ⟨by
                    have h1 : s.data.toList.length = s.size := by simp
                    rw [bsL_size, bsL_size]
                    have := HPL.out
                    have := HCL.out
                    have := HSZ.out
                    omega⟩
                  have z1 : (9223372036854775807 < (bsL pre).size + (bsL ct).size) = False := eq_false (by have := HSL.out; omega)
                  go_wp2_with fail
                  refine (HCE.out _).mono ?_
                  rintro e w4 ⟨rfl, hb⟩
                  have HB4 := Aside0.mk (below_step HB2.out hb)
                  clear hb
                  go_upto_region 15 with fail
                  rw [bsL_cat, ← HSN.out]
                  have HLS := Aside0.mk (bsL_size (tabT sp (rows.take i) ++ headT sp (row.take (j + 1))))
                  generalize hpp : tabT sp (rows.take i) ++ headT sp (row.take (j + 1)) = pp at HG1 HLS ⊢
                  have HPP := Aside0.mk hpp
                  clear hpp
                  by_cases hbg : 16384 < (bsL pp).size
                  · have t1 : decide (16384 < ((bsL pp).size : Int)) = true := by simp; omega
                    have t2 := decide_eq_true hbg
                    rw [if_pos (by have := HG1.out; have := HLS.out; omega)] at HW
                    go_wp2
                    go_ret2
                    rw [HW.out]
                    exact ⟨rfl, HB4.out⟩
                  · have t1 : decide (16384 < ((bsL pp).size : Int)) = false := by simp; omega
                    have t2 := decide_eq_false hbg
                    have HN : Aside0 (pp.length ≤ 16384 + i) := ⟨by have := HLS.out; omega⟩
                    go_wp2
                    obtain ⟨k, rfl⟩ : ∃ k, gk = k + 1 := ⟨gk - 1, by have := HKj.out; omega⟩
                    go_roundg k
                    case measure => omega
                    case rel => exact ⟨j + 1, by omega, by go_num, by rw [HPP.out], ⟨by have := HKj.out; omega⟩, ⟨by rw [HPP.out]; exact HN.out⟩, HB4⟩
              · have HEN : Aside0 (row.take j = row) := ⟨List.take_of_length_le (by omega)⟩
                rw [HEN.out] at HLj ⊢
                have HTT : Aside0 (tabT sp (rows.take (i + 1)) = tabT sp (rows.take i) ++ headT sp row ++ [10]) := ⟨by rw [HT.out, tabT_snoc, List.append_assoc]⟩
                have z0 : (9223372036854775807 < (bsL (tabT sp (rows.take i) ++ headT sp row)).size + 1) = False := eq_false (by rw [bsL_size]; have := HLj.out; omega)
                go_wp2_with fail
                go_roundg ko
                case measure => omega
                case rel => exact ⟨i + 1, by omega, by go_num, by rw [HTT.out, ← bsL_cat]; rfl, ⟨by have := HK.out; omega⟩, ⟨by rw [HTT.out, List.length_append]; have := HLj.out; simp at this ⊢; omega⟩, HBj⟩
          · have HT : Aside0 (rows.take i = rows) := ⟨List.take_of_length_le (by omega)⟩
            rw [HT.out]
            have HLS := Aside0.mk (bsL_size (tabT sp rows))
            by_cases hbg : 16384 < (bsL (tabT sp rows)).size
            · have t1 : decide (16384 < ((bsL (tabT sp rows)).size : Int)) = true := by simp; omega
              have t2 := decide_eq_true hbg
              rw [if_pos (by have := HLS.out; omega)] at HW
              go_wp2
              go_ret2
              rw [HW.out]
              exact ⟨rfl, HB.out⟩
            · have t1 : decide (16384 < ((bsL (tabT sp rows)).size : Int)) = false := by simp; omega
              have t2 := decide_eq_false hbg
              rw [if_neg (by have := HLS.out; omega)] at HW
              go_wp2
              go_ret2
              rw [HW.out]
              exact ⟨rfl, HB.out⟩
end Go.Proofs.YtghjhampigbbkaaGreatDoor.PA
end

/- Texts of this claim, merged by a program: XRwp. -/
import Derived.ArgAppend
import Derived.Below
import Derived.BigQuiet
import Derived.Deep.AppendLies
import Derived.Deep.CutBlock
import Derived.Deep.DeepCutAuto
import Derived.Deep.Draws
import Derived.Deep.LoopGhost
import Derived.Deep.OwnRows
import Derived.Deep.QuietTactic
import Derived.Deep.RegionHeld3
import Derived.KernelRfl
import Derived.Laws.BitsLemmas
import Derived.Laws.BytesArg
import Derived.Laws.Cover1
import Derived.Laws.Externs
import Derived.Laws.IdiomCopy
import Derived.Laws.MakeOwn
import Derived.Laws.OwnMore
import Derived.Laws.Rows
import Derived.Laws.Slices
import Derived.Laws.Small
import Derived.Laws.Strings
import Derived.Laws.StructEq
import Derived.Lib.AppendStr
import Derived.Lib.Builder
import Derived.Lib.Bytealg
import Derived.Lib.ConvBytes
import Derived.Lib.CountLaws
import Derived.Lib.MakeNoZero
import Derived.Lib.Replace
import Derived.Lib.Slices
import Derived.Lib.Strings
import Derived.Lib.UnsafeStr
import Derived.Lib.Walk
import Derived.Maps.AppendAt
import Derived.OrdersHeld
import Derived.OwnWalk
import Derived.RowKit
import Derived.RowKit3
import Derived.Tactics
import Derived.Test.YtghjhampigbbkaaGreatDoorProg
import Derived.WalkKit
import Derived.WideLaws
import Derived.Test.YtghjhampigbbkaaGreatDoorKW3
import Derived.Test.YtghjhampigbbkaaGreatDoorKW4
import Derived.Test.YtghjhampigbbkaaGreatDoorKW5
import Derived.Test.YtghjhampigbbkaaGreatDoorKW6
import Derived.Test.YtghjhampigbbkaaGreatDoorKW7
import Derived.Test.YtghjhampigbbkaaGreatDoorKW8
import Derived.Test.YtghjhampigbbkaaGreatDoorKW9
import Derived.Test.YtghjhampigbbkaaGreatDoorKW10
import Derived.Test.YtghjhampigbbkaaGreatDoorKW11
import Derived.Test.YtghjhampigbbkaaGreatDoorKW13
import Derived.Test.YtghjhampigbbkaaGreatDoorKW21
set_option linter.unusedVariables false
set_option linter.unusedSimpArgs false
section
namespace Go.Proofs.YtghjhampigbbkaaGreatDoor.PA
open Go.RowKit Go.Proofs.YtghjhampigbbkaaGreatDoorW.PrintWords Go.Proofs.YtghjhampigbbkaaGreatDoorW.PrintLast Go.Proofs.YtghjhampigbbkaaGreatDoorW.PrintMore
theorem wrap_succ {i : Nat} (h : i < 9223372036854775807) : wrap64 ((i : Int) + 1) = ((i + 1 : Nat) : Int) := by unfold wrap64; omega
theorem Separator_f (x : Int) : casebookref13_Separator.f x = some (sepB' x) := by
  unfold casebookref13_Separator.f sepB'
  by_cases h1 : x = 44
  · simp [h1]
  · by_cases h2 : x = 59
    · simp [h2]
    · by_cases h3 : x = 124
      · simp [h3]
      · simp [h1, h2, h3]
theorem rPrintable_l (s : ByteArray) (hs : s.size ≤ 1048576) : ∀ (d k i : Nat), i + d = s.size → d < k → casebookref02_Printable.l0 k s (i : Int) = some (!(s.data.toList.drop i).any badB) := by
  intro d
  induction d with
  | zero =>
    intro k i hi hk
    obtain ⟨k, rfl⟩ : ∃ m, k = m + 1 := ⟨k - 1, by omega⟩
    rw [casebookref02_Printable.l0, if_neg (by omega), List.drop_of_length_le (by simp; omega)]
    rfl
  | succ d ih =>
    intro k i hi hk
    obtain ⟨k, rfl⟩ : ∃ m, k = m + 1 := ⟨k - 1, by omega⟩
    have hl : i < s.data.toList.length := by simp; omega
    rw [casebookref02_Printable.l0, if_pos (by omega), if_pos (by omega), bt_get s i hl, List.drop_eq_getElem_cons hl, wrap_succ (by omega), ih k (i + 1) (by omega) (by omega), List.any_cons]
    generalize s.data.toList[i] = c
    unfold badB
    by_cases h1 : (c.toNat : Int) < 32
    · rw [if_pos h1]; simp [h1]
    · rw [if_neg h1]
      by_cases h2 : (c.toNat : Int) > 126
      · rw [if_pos h2]; simp [h2]
      · rw [if_neg h2]; simp [h1, h2]
theorem rPrintable_f (s : ByteArray) (hs : s.size ≤ 1048576) (k : Nat) (hk : s.size < k) : casebookref02_Printable.f k s = some (!s.data.toList.any badB) := rPrintable_l s hs s.size k 0 (by omega) hk
theorem rd_L1_nat (rows : List (List ByteArray)) (i : Nat) (h : i < rows.length) : rd_L1 rows (i : Int) = rows[i] := by show rows.getD (i : Int).toNat [] = rows[i]; simp [h]
theorem rdOf_nat (row : List ByteArray) (j : Nat) (h : j < row.length) : rdOf ByteArray.empty row (j : Int) = row[j] := by show row.getD (j : Int).toNat _ = row[j]; simp [h]
theorem rTable_l1 (rows : List (List ByteArray)) (hf : fitsT rows) (i : Nat) (hi : i < rows.length) (R : Bool) (h0 : ∃ k, casebookref13_Table.l0 k rows ((i + 1 : Nat) : Int) = some R) :
    ∀ (d j : Nat), j + d = rows[i].length → ∃ k, casebookref13_Table.l1 k rows (i : Int) (j : Int) = some (if (rows[i].drop j).any (fun s => s.data.toList.any badB) then false else R) := by
  have hm := hf.1 _ (List.getElem_mem hi)
  have hr := hf.2
  intro d
  induction d with
  | zero =>
    intro j hj
    obtain ⟨k, hk⟩ := h0
    refine ⟨k + 1, ?_⟩
    rw [casebookref13_Table.l1, if_pos (by omega), if_pos (by omega), rd_L1_nat _ _ hi, if_neg (by omega), wrap_succ (by omega), hk, List.drop_of_length_le (by omega)]
    rfl
  | succ d ih =>
    intro j hj
    obtain ⟨k1, hk1⟩ := ih (j + 1) (by omega)
    have hjl : j < rows[i].length := by omega
    have hp := rPrintable_f rows[i][j] (hm.2 _ (List.getElem_mem hjl))
    have hmono := at_rounds (g := fun k => casebookref13_Table.l1 k rows (i : Int) ((j + 1 : Nat) : Int)) (fun k => (casebookref13_Table.mono_l k).2 _ _ _) (k := k1) (k' := max k1 (rows[i][j].size + 1)) (Nat.le_max_left ..) hk1
    refine ⟨max k1 (rows[i][j].size + 1) + 1, ?_⟩
    rw [casebookref13_Table.l1, if_pos (by omega), if_pos (by omega), rd_L1_nat _ _ hi, if_pos (by omega), if_pos (by omega), rdOf_nat _ _ hjl, hp _ (by omega), Option.bind_some, wrap_succ (by omega), hmono, List.drop_eq_getElem_cons hjl, List.any_cons]
    cases h : rows[i][j].data.toList.any badB <;> simp
theorem rTable_l0 (rows : List (List ByteArray)) (hf : fitsT rows) : ∀ (d i : Nat), i + d = rows.length → ∃ k, casebookref13_Table.l0 k rows (i : Int) = some (!(rows.drop i).any badRow) := by
  have hr := hf.2
  intro d
  induction d with
  | zero =>
    intro i hi
    refine ⟨1, ?_⟩
    rw [casebookref13_Table.l0, if_neg (by omega), List.drop_of_length_le (by omega)]
    rfl
  | succ d ih =>
    intro i hi
    have hil : i < rows.length := by omega
    obtain ⟨k, hk⟩ := rTable_l1 rows hf i hil _ (ih (i + 1) (by omega)) rows[i].length 0 (by omega)
    refine ⟨k + 1, ?_⟩
    rw [casebookref13_Table.l0, if_pos (by omega), if_pos (by omega), rd_L1_nat _ _ hil, List.drop_eq_getElem_cons hil, List.any_cons]
    by_cases hz : rows[i].length = 0
    · rw [if_pos (by omega)]
      have hb : badRow rows[i] = true := by unfold badRow; rw [List.length_eq_zero_iff.1 hz]; rfl
      rw [hb]; rfl
    · rw [if_neg (by omega)]
      have hb : badRow rows[i] = rows[i].any fun s => s.data.toList.any badB := by
        unfold badRow
        cases h : rows[i] with
        | nil => rw [h] at hz; exact absurd rfl hz
        | cons _ _ => rfl
      have h0 : ((0 : Nat) : Int) = 0 := rfl
      rw [h0, List.drop_zero] at hk
      rw [hk, hb]
      cases h : rows[i].any (fun s => s.data.toList.any badB) <;> simp
theorem rTable_f (rows : List (List ByteArray)) (hf : fitsT rows) : ∃ k, casebookref13_Table.f k rows = some (!rows.any badRow) := rTable_l0 rows hf rows.length 0 (by omega)
def spA (sp : Int) (c : UInt8) : Bool := c == 34 || (c.toNat : Int) == sp
theorem spc_any {sp : Int} (h : sepB' sp = true) (s : List UInt8) : spc sp s = s.any (spA sp) := by
  have hs : sp = 44 ∨ sp = 59 ∨ sp = 124 ∨ sp = 9 := by simpa [sepB', or_assoc] using h
  have h1 : ∀ c : UInt8, (c.toNat : Int) = sp ↔ c = u8of sp := by
    intro c
    have hu : ((u8of sp).toNat : Int) = sp := by rcases hs with rfl | rfl | rfl | rfl <;> rfl
    constructor
    · intro e
      apply UInt8.toNat_inj.1
      omega
    · rintro rfl; exact hu
  rw [Bool.eq_iff_iff, List.any_eq_true]
  unfold spc spA
  simp only [Bool.or_eq_true, decide_eq_true_iff, indexByte_mem, beq_iff_eq, h1]
  constructor
  · rintro (h | h)
    · exact ⟨_, h, .inl rfl⟩
    · exact ⟨_, h, .inr rfl⟩
  · rintro ⟨c, hc, rfl | rfl⟩
    · exact .inl hc
    · exact .inr hc
def natsOf (l : List UInt8) : List Int := l.map fun b => (b.toNat : Int)
theorem rcell_l (s : ByteArray) (sp : Int) (hs : s.size ≤ 1048576) : ∀ (d k i : Nat) (b : Bool) (acc : List Int), i + d = s.size → d < k → acc.length + 2 * d ≤ 1099511627776 →
    casebookref13_cell.l0 k s sp b acc (i : Int) = some (if b || (s.data.toList.drop i).any (spA sp) then strOfNums (acc ++ natsOf (esc (s.data.toList.drop i)) ++ [34]) else s) := by
  intro d
  induction d with
  | zero =>
    intro k i b acc hi hk hl
    obtain ⟨k, rfl⟩ : ∃ m, k = m + 1 := ⟨k - 1, by omega⟩
    rw [casebookref13_cell.l0, if_neg (by omega), List.drop_of_length_le (by simp; omega)]
    cases b
    · rfl
    · rw [if_pos rfl, if_pos (by omega)]; simp [natsOf, esc]
  | succ d ih =>
    intro k i b acc hi hk hl
    obtain ⟨k, rfl⟩ : ∃ m, k = m + 1 := ⟨k - 1, by omega⟩
    have hil : i < s.data.toList.length := by simp; omega
    rw [casebookref13_cell.l0, if_pos (by omega), List.drop_eq_getElem_cons hil, List.any_cons, esc_cons, bt_get s i hil, wrap_succ (by omega)]
    generalize s.data.toList[i] = c
    have h34 : (c.toNat : Int) = 34 ↔ c = 34 := by
      constructor
      · intro e; apply UInt8.toNat_inj.1; show c.toNat = 34; omega
      · rintro rfl; rfl
    have hb34 : c = 34 → ((b || (spA sp c || (s.data.toList.drop (i + 1)).any (spA sp))) = true) := by rintro rfl; simp [spA]
    by_cases hc : c = 34
    · have e1 : casebookref13_cell.l0 k s sp true (acc ++ [34] ++ [(c.toNat : Int)]) ((i + 1 : Nat) : Int) = _ := ih k (i + 1) true (acc ++ [34] ++ [(c.toNat : Int)]) (by omega) (by omega) (by simp; omega)
      rw [if_pos (hb34 hc), if_pos hc]
      simp only [if_pos (show (0 : Int) ≤ (i : Int) by omega), if_pos (h34.2 hc), if_pos (show acc.length < 140737488355328 by omega), Option.bind_some, if_pos (show (acc ++ [34]).length < 140737488355328 by simp; omega), e1]
      subst hc
      cases b <;> simp [natsOf]
    · have e1 : ∀ b', casebookref13_cell.l0 k s sp b' (acc ++ [(c.toNat : Int)]) ((i + 1 : Nat) : Int) = _ := fun b' => ih k (i + 1) b' (acc ++ [(c.toNat : Int)]) (by omega) (by omega) (by simp; omega)
      have hsp : spA sp c = ((c.toNat : Int) == sp) := by unfold spA; simp [hc]
      rw [if_neg hc, hsp]
      simp only [if_pos (show (0 : Int) ≤ (i : Int) by omega), if_neg (fun h => hc (h34.1 h)), if_pos (show acc.length < 140737488355328 by omega), e1]
      cases b <;> cases h : ((c.toNat : Int) == sp) <;> simp [natsOf]
theorem rcell_f (s : ByteArray) (sp : Int) (hs : s.size ≤ 1048576) (hsp : sepB' sp = true) (k : Nat) (hk : s.size < k) : casebookref13_cell.f k s sp = some ⟨(cellT sp s.data.toList).toArray⟩ := by
  have h := rcell_l s sp hs s.size k 0 false [34] (by omega) hk (by simp; omega)
  unfold casebookref13_cell.f
  have h0 : ((0 : Nat) : Int) = 0 := rfl
  rw [h0] at h
  rw [h, List.drop_zero, Bool.false_or, ← spc_any hsp]
  unfold cellT
  cases hq : spc sp s.data.toList
  · rfl
  · simp only [if_true]
    have e : ([34] : List Int) ++ natsOf (esc s.data.toList) ++ [34] = (34 :: (esc s.data.toList ++ [34]) : List UInt8).map fun b => (b.toNat : Int) := by simp [natsOf]
    rw [e, strOfNums_bytes]
end Go.Proofs.YtghjhampigbbkaaGreatDoor.PA
end

/- Texts of this claim, merged by a program: XRoundP, XSame. -/
import Derived.ArgAppend
import Derived.Below
import Derived.BigQuiet
import Derived.Deep.AppendLies
import Derived.Deep.CutBlock
import Derived.Deep.DeepCutAuto
import Derived.Deep.Draws
import Derived.Deep.LoopGhost
import Derived.Deep.OwnRows
import Derived.Deep.QuietTactic
import Derived.Deep.RegionHeld3
import Derived.KernelRfl
import Derived.Laws.BitsLemmas
import Derived.Laws.BytesArg
import Derived.Laws.Cover1
import Derived.Laws.Externs
import Derived.Laws.IdiomCopy
import Derived.Laws.MakeOwn
import Derived.Laws.OwnMore
import Derived.Laws.Rows
import Derived.Laws.Slices
import Derived.Laws.Small
import Derived.Laws.Strings
import Derived.Laws.StructEq
import Derived.Lib.AppendStr
import Derived.Lib.Builder
import Derived.Lib.Bytealg
import Derived.Lib.ConvBytes
import Derived.Lib.CountLaws
import Derived.Lib.MakeNoZero
import Derived.Lib.Replace
import Derived.Lib.Slices
import Derived.Lib.Strings
import Derived.Lib.UnsafeStr
import Derived.Lib.Walk
import Derived.Maps.AppendAt
import Derived.OrdersHeld
import Derived.OwnWalk
import Derived.RowKit
import Derived.RowKit3
import Derived.Tactics
import Derived.Test.YtghjhampigbbkaaGreatDoorProg
import Derived.WalkKit
import Derived.WideLaws
import Derived.Test.YtghjhampigbbkaaGreatDoorKW3
import Derived.Test.YtghjhampigbbkaaGreatDoorKW4
import Derived.Test.YtghjhampigbbkaaGreatDoorKW5
import Derived.Test.YtghjhampigbbkaaGreatDoorKW6
import Derived.Test.YtghjhampigbbkaaGreatDoorKW7
import Derived.Test.YtghjhampigbbkaaGreatDoorKW8
import Derived.Test.YtghjhampigbbkaaGreatDoorKW9
import Derived.Test.YtghjhampigbbkaaGreatDoorKW10
import Derived.Test.YtghjhampigbbkaaGreatDoorKW11
import Derived.Test.YtghjhampigbbkaaGreatDoorKW13
import Derived.Test.YtghjhampigbbkaaGreatDoorKW21
import Derived.Test.YtghjhampigbbkaaGreatDoorKW22
import Derived.Test.YtghjhampigbbkaaGreatDoorKR1
import Derived.Test.YtghjhampigbbkaaGreatDoorKR2
set_option linter.unusedVariables false
set_option linter.unusedSimpArgs false
section
namespace Go.Proofs.YtghjhampigbbkaaGreatDoor.PA
open Go.RowKit Go.Proofs.YtghjhampigbbkaaGreatDoorW.PrintWords Go.Proofs.YtghjhampigbbkaaGreatDoorW.PrintLast Go.Proofs.YtghjhampigbbkaaGreatDoorW.PrintMore
theorem prB_bad (c : UInt8) : prB c = !badB c := by
  unfold prB badB
  by_cases h1 : 32 ≤ c.toNat <;> by_cases h2 : c.toNat ≤ 126
  all_goals
    simp [h1, h2]
    try omega
theorem sep_cases {sp : Int} (h : sepB' sp = true) : sp = 44 ∨ sp = 59 ∨ sp = 124 ∨ sp = 9 := by simpa [sepB', or_assoc] using h
theorem u8of_toNat {sp : Int} (h : sepB' sp = true) : ((u8of sp).toNat : Int) = sp ∧ u8of sp ≠ 34 ∧ u8of sp ≠ 10 := by
  rcases sep_cases h with rfl | rfl | rfl | rfl <;> decide
theorem u8_ten {c : UInt8} : (c.toNat : Int) = 10 ↔ c = 10 := by
  constructor
  · intro h; apply UInt8.toNat_inj.1; show c.toNat = 10; omega
  · rintro rfl; rfl
theorem u8_sep {sp : Int} (h : sepB' sp = true) {c : UInt8} : (c.toNat : Int) = sp ↔ c = u8of sp := by
  have := (u8of_toNat h).1
  constructor
  · intro e; apply UInt8.toNat_inj.1; omega
  · rintro rfl; exact this
theorem ends_ne {sp : Int} (h : sepB' sp = true) {d : UInt8} {m : List UInt8} (he : endsL sp (d :: m) = true) : d ≠ 34 := by
  unfold endsL at he
  simp only [Bool.or_eq_true, beq_iff_eq, u8_ten, u8_sep h] at he
  rcases he with rfl | rfl
  · decide
  · exact (u8of_toNat h).2.1
theorem quo_text {sp : Int} (h : sepB' sp = true) (rest : List UInt8) (he : endsL sp rest = true) : ∀ (s acc : List UInt8), s.any badB = false → quoL sp acc (esc s ++ 34 :: rest) = (acc ++ s, 0, rest) := by
  intro s
  induction s with
  | nil =>
    intro acc _
    rw [esc_nil, List.nil_append, quoL.eq_def]
    cases rest with
    | nil => simp [show prB 34 = true by decide]
    | cons d m =>
      have hd := ends_ne h he
      simp [show prB 34 = true by decide, hd, he]
  | cons c s ih =>
    intro acc hb
    rw [List.any_cons, Bool.or_eq_false_iff] at hb
    by_cases hc : c = 34
    · subst hc
      rw [esc_cons, if_pos rfl, quoL.eq_def]
      have := ih (acc ++ [34]) hb.2
      simp [show prB 34 = true by decide, this]
    · have hp : prB c = true := by rw [prB_bad, hb.1]; rfl
      rw [esc_cons, if_neg hc, quoL.eq_def]
      have := ih (acc ++ [c]) hb.2
      simp [hp, hc, this]
theorem plain_text {sp : Int} (h : sepB' sp = true) (rest : List UInt8) (he : endsL sp rest = true) : ∀ (s acc : List UInt8), s.any badB = false → s.any (spA sp) = false → plainL sp acc (s ++ rest) = (acc ++ s, 0, rest) := by
  intro s
  induction s with
  | nil =>
    intro acc _ _
    cases rest with
    | nil => simp [plainL]
    | cons d m => simp [plainL, he]
  | cons c s ih =>
    intro acc hb hs
    rw [List.any_cons, Bool.or_eq_false_iff] at hb hs
    have hp : prB c = true := by rw [prB_bad, hb.1]; rfl
    have hc : c ≠ 34 := by rintro rfl; have := hs.1; simp [spA] at this
    have hsp : ¬ (c.toNat : Int) = sp := by intro e; have := hs.1; simp [spA, e] at this
    have h10 : ¬ (c.toNat : Int) = 10 := by intro e; rw [u8_ten] at e; subst e; have := hb.1; simp [badB] at this
    have hn : endsL sp (c :: (s ++ rest)) = false := by unfold endsL; simp [hsp, h10]
    rw [List.cons_append, plainL, if_neg (by rw [hn]; decide), if_neg (by simp [hp, hc]), ih (acc ++ [c]) hb.2 hs.2]
    simp
theorem cell_text {sp : Int} (h : sepB' sp = true) (rest : List UInt8) (he : endsL sp rest = true) (s : List UInt8) (hb : s.any badB = false) : cellL sp (cellT sp s ++ rest) = (s, 0, rest) := by
  unfold cellT cellL
  cases hs : spc sp s
  · have hs' : s.any (spA sp) = false := by rw [← spc_any h]; exact hs
    have hq : quoteFirst (s ++ rest) = false := by
      cases s with
      | nil =>
        cases rest with
        | nil => rfl
        | cons d m => have := ends_ne h he; simp [quoteFirst, this]
      | cons c s =>
        rw [List.any_cons, Bool.or_eq_false_iff] at hs'
        have hc : c ≠ 34 := by rintro rfl; have := hs'.1; simp [spA] at this
        simp [quoteFirst, hc]
    simp only [Bool.false_eq_true, if_false, hq]
    rw [plain_text h rest he s [] hb hs']
    rfl
  · have hq : quoteFirst (34 :: (esc s ++ [34]) ++ rest) = true := by simp [quoteFirst]
    simp only [if_true, hq]
    have := quo_text h rest he s [] hb
    simpa using this
theorem tail_ge (sp : Int) (r : List ByteArray) : r.length ≤ (tailT sp r).length := by
  induction r with
  | nil => exact Nat.zero_le _
  | cons s r ih => simp only [tailT, List.length_cons, List.length_append]; omega
theorem bs_self (s : ByteArray) : bs s.data.toList = s := rfl
theorem row_text {sp : Int} (h : sepB' sp = true) (tail : List UInt8) : ∀ (tl : List ByteArray) (s : ByteArray) (acc : List ByteArray) (n : Nat), tl.length < n → (s :: tl).any (fun x => x.data.toList.any badB) = false →
    rowL sp n acc (cellT sp s.data.toList ++ (tailT sp tl ++ 10 :: tail)) = (acc ++ s :: tl, 0, tail) := by
  intro tl
  induction tl with
  | nil =>
    intro s acc n hn hb
    obtain ⟨n, rfl⟩ : ∃ m, n = m + 1 := ⟨n - 1, by omega⟩
    rw [List.any_cons, Bool.or_eq_false_iff] at hb
    have he : endsL sp (10 :: tail) = true := by simp [endsL]
    rw [rowL, tailT, List.nil_append, cell_text h _ he _ hb.1]
    simp [bs_self]
  | cons x xs ih =>
    intro s acc n hn hb
    obtain ⟨n, rfl⟩ : ∃ m, n = m + 1 := ⟨n - 1, by omega⟩
    rw [List.any_cons, Bool.or_eq_false_iff] at hb
    have hu := u8of_toNat h
    have he : endsL sp (u8of sp :: (cellT sp x.data.toList ++ (tailT sp xs ++ 10 :: tail))) = true := by simp [endsL, hu.1]
    have e : cellT sp s.data.toList ++ (tailT sp (x :: xs) ++ 10 :: tail) = cellT sp s.data.toList ++ u8of sp :: (cellT sp x.data.toList ++ (tailT sp xs ++ 10 :: tail)) := by simp [tailT]
    rw [e, rowL, cell_text h _ he _ hb.1]
    have := ih x (acc ++ [s]) n (by simp at hn; omega) hb.2
    simp [hu.2.2, bs_self, this]
theorem tab_text {sp : Int} (h : sepB' sp = true) : ∀ (rows acc : List (List ByteArray)) (n : Nat), rows.length < n → acc.length + rows.length ≤ 2001 → rows.any badRow = false → tabL sp n acc (tabT sp rows) = (acc ++ rows, 0, []) := by
  intro rows
  induction rows with
  | nil =>
    intro acc n hn _ _
    obtain ⟨n, rfl⟩ : ∃ m, n = m + 1 := ⟨n - 1, by omega⟩
    simp [tabL, tabT]
  | cons r rs ih =>
    intro acc n hn hl hb
    obtain ⟨n, rfl⟩ : ∃ m, n = m + 1 := ⟨n - 1, by omega⟩
    rw [List.any_cons, Bool.or_eq_false_iff] at hb
    simp only [List.length_cons] at hl hn
    cases r with
    | nil => have := hb.1; simp [badRow] at this
    | cons s tl =>
      have hr : (s :: tl).any (fun x => x.data.toList.any badB) = false := by have := hb.1; unfold badRow at this; simpa using this
      have e : tabT sp ((s :: tl) :: rs) = cellT sp s.data.toList ++ (tailT sp tl ++ 10 :: tabT sp rs) := by simp [tabT, rowT]
      have hne : ¬ tabT sp ((s :: tl) :: rs) = [] := by rw [e]; intro hh; have := congrArg List.length hh; simp at this
      have hfu : tl.length < (tabT sp ((s :: tl) :: rs)).length + 1 := by
        have := tail_ge sp tl
        rw [e]; simp only [List.length_append, List.length_cons]; omega
      have hrt := row_text h (tabT sp rs) tl s [] ((tabT sp ((s :: tl) :: rs)).length + 1) hfu hr
      rw [← e] at hrt
      rw [tabL, if_neg hne, if_neg (by omega), hrt]
      simp only [if_true, List.nil_append]
      rw [ih (acc ++ [s :: tl]) n (by omega) (by simp; omega) hb.2]
      simp
theorem rows_le_text (sp : Int) (rows : List (List ByteArray)) : rows.length ≤ (tabT sp rows).length := by
  induction rows with
  | nil => exact Nat.zero_le _
  | cons r rs ih =>
    have h : 1 ≤ (rowT sp r).length := by rw [rowT_head, List.length_append]; simp
    have e : tabT sp (r :: rs) = rowT sp r ++ tabT sp rs := by simp [tabT]
    rw [e, List.length_append, List.length_cons]
    omega
theorem round_text {rows : List (List ByteArray)} {sp : Int} (h : (writeF rows sp).2 = 0) : cellsF (writeF rows sp).1 sp = (rows, 0, 0, 0) := by
  unfold writeF at h ⊢
  cases hs : sepB' sp
  · rw [hs] at h; cases h
  · rw [hs] at h
    simp only [Bool.true_eq_false, if_false] at h ⊢
    cases hb : rows.any badRow
    · rw [hb] at h
      simp only [Bool.false_eq_true, if_false] at h ⊢
      by_cases h1 : rows.length > 2001
      · rw [if_pos h1] at h; cases h
      · rw [if_neg h1] at h ⊢
        by_cases h2 : (tabT sp rows).length > 16384
        · rw [if_pos h2] at h; cases h
        · rw [if_neg h2]
          have hsz : ((⟨(tabT sp rows).toArray⟩ : ByteArray)).size = (tabT sp rows).length := by show (tabT sp rows).toArray.size = _; simp
          unfold cellsF
          rw [if_neg (show ¬ sepB sp = false by show ¬ sepB' sp = false; rw [hs]; decide)]
          dsimp only
          rw [hsz, if_neg h2]
          have ht := tab_text hs rows [] ((tabT sp rows).length + 1) (by have := rows_le_text sp rows; omega) (by simp; omega) hb
          rw [ht]
          rfl
    · rw [hb] at h; cases h
end Go.Proofs.YtghjhampigbbkaaGreatDoor.PA
end
section
namespace Go.Proofs.YtghjhampigbbkaaGreatDoor.PA
open Go.RowKit Go.Proofs.YtghjhampigbbkaaGreatDoorW.PrintWords Go.Proofs.YtghjhampigbbkaaGreatDoorW.PrintLast Go.Proofs.YtghjhampigbbkaaGreatDoorW.PrintMore
theorem less_self (l : List UInt8) : Op.bytesLess l l = false := by
  induction l with
  | nil => rfl
  | cons c l ih => unfold Op.bytesLess; simp [ih]
theorem rCompare_l (x : List ByteArray) (hx : x.length ≤ 1099511627776) : ∀ (d k i : Nat), i + d = x.length → 2 * d + 2 ≤ k → casebookref02_Compare.l0 k x x (i : Int) = some 0 := by
  intro d
  induction d with
  | zero =>
    intro k i hi hk
    obtain ⟨k, rfl⟩ : ∃ m, k = m + 2 := ⟨k - 2, by omega⟩
    rw [casebookref02_Compare.l0, if_neg (by omega), casebookref02_Compare.j1]
    simp
  | succ d ih =>
    intro k i hi hk
    obtain ⟨k, rfl⟩ : ∃ m, k = m + 2 := ⟨k - 2, by omega⟩
    rw [casebookref02_Compare.l0, if_pos (by omega), casebookref02_Compare.j1, if_pos (decide_eq_true (by omega)), if_pos (by omega), if_pos (by omega), if_pos (by omega), less_self, if_neg (by decide), if_neg (by decide), wrap_succ (by omega)]
    exact ih k (i + 1) (by omega) (by omega)
theorem rSame (x : List ByteArray) (hx : x.length ≤ 1099511627776) (k : Nat) (hk : 2 * x.length + 2 ≤ k) : casebookref02_Same.f k x x = some true := by
  unfold casebookref02_Same.f casebookref02_Compare.f
  have h := rCompare_l x hx x.length k 0 (by omega) hk
  have h0 : ((0 : Nat) : Int) = 0 := rfl
  rw [h0] at h
  rw [h]
  rfl
theorem rSameAll_l (rows : List (List ByteArray)) (hf : fitsT rows) : ∀ (d k i : Nat), i + d = rows.length → d + 2 * 1048576 + 3 ≤ k → casebookref02_SameAll.l0 k rows rows (i : Int) = some true := by
  have hr := hf.2
  intro d
  induction d with
  | zero =>
    intro k i hi hk
    obtain ⟨k, rfl⟩ : ∃ m, k = m + 1 := ⟨k - 1, by omega⟩
    rw [casebookref02_SameAll.l0, if_neg (by omega)]
  | succ d ih =>
    intro k i hi hk
    obtain ⟨k, rfl⟩ : ∃ m, k = m + 1 := ⟨k - 1, by omega⟩
    have hil : i < rows.length := by omega
    have hm := (hf.1 _ (List.getElem_mem hil)).1
    rw [casebookref02_SameAll.l0, if_pos (by omega), if_pos (by omega), if_pos (by omega), rd_L1_nat _ _ hil, rSame rows[i] (by omega) k (by omega), Option.bind_some, if_pos rfl, wrap_succ (by omega)]
    exact ih k (i + 1) (by omega) (by omega)
theorem rSameAll (rows : List (List ByteArray)) (hf : fitsT rows) : ∃ k, casebookref02_SameAll.f k rows rows = some true := by
  refine ⟨rows.length + 2 * 1048576 + 3, ?_⟩
  unfold casebookref02_SameAll.f
  rw [if_pos rfl]
  exact rSameAll_l rows hf rows.length _ 0 (by omega) (Nat.le_refl _)
end Go.Proofs.YtghjhampigbbkaaGreatDoor.PA
end

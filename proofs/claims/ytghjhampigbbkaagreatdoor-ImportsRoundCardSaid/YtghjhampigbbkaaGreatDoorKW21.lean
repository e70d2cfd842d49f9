/- Texts of this claim, merged by a program: XWp. -/
import Derived.Lib.Bytealg
import Derived.Lib.CountLaws
import Derived.Lib.Replace
set_option linter.unusedVariables false
set_option linter.unusedSimpArgs false
section
namespace Go.Proofs.YtghjhampigbbkaaGreatDoor.PA
open Go.Lib
def esc (s : List UInt8) : List UInt8 := s.flatMap fun c => if c = 34 then [34, 34] else [c]
def u8of (x : Int) : UInt8 := x.toNat.toUInt8
def spc (sp : Int) (s : List UInt8) : Bool := decide (0 ≤ indexByte s 34) || decide (0 ≤ indexByte s (u8of sp))
def cellT (sp : Int) (s : List UInt8) : List UInt8 := if spc sp s = true then 34 :: (esc s ++ [34]) else s
def tailT (sp : Int) : List ByteArray → List UInt8
  | [] => []
  | s :: r => u8of sp :: (cellT sp s.data.toList ++ tailT sp r)
def rowT (sp : Int) : List ByteArray → List UInt8
  | [] => [10]
  | s :: r => cellT sp s.data.toList ++ (tailT sp r ++ [10])
def tabT (sp : Int) (rows : List (List ByteArray)) : List UInt8 := rows.flatMap (rowT sp)
theorem esc_cons (c : UInt8) (s : List UInt8) : esc (c :: s) = (if c = 34 then [34, 34] else [c]) ++ esc s := by simp [esc]
theorem esc_length (s : List UInt8) : (esc s).length ≤ 2 * s.length := by
  induction s with
  | nil => simp [esc]
  | cons c s ih => rw [esc_cons, List.length_append, List.length_cons]; split <;> simp <;> omega
theorem cellT_length (sp : Int) (s : List UInt8) : (cellT sp s).length ≤ 2 * s.length + 2 := by
  unfold cellT
  have := esc_length s
  split
  · simp; omega
  · omega
theorem indexByte_mem (l : List UInt8) (c : UInt8) : 0 ≤ indexByte l c ↔ c ∈ l := by
  induction l with
  | nil => simp [indexByte]
  | cons b l ih =>
    have hge := indexByte_ge l c
    unfold indexByte
    by_cases hb : b = c
    · subst hb; simp
    · have hb' : (b == c) = false := by simpa using hb
      simp only [hb', Bool.false_eq_true, if_false, List.mem_cons]
      by_cases hm : indexByte l c = -1
      · have h1 : (indexByte l c == -1) = true := by simpa using hm
        have : c ∉ l := fun h => by have := ih.2 h; omega
        have hc : ¬ c = b := fun h => hb h.symm
        simp [h1, this, hc]
      · have h1 : (indexByte l c == -1) = false := by simpa using hm
        have : c ∈ l := ih.1 (by omega)
        simp [h1, this]
        omega
theorem isp (b : UInt8) (l : List UInt8) : ([34] : List UInt8).isPrefixOf (b :: l) = (34 == b) := by simp [List.isPrefixOf]
theorem index34 (s : List UInt8) : (index s [34] = -1 ∧ s.count 34 = 0 ∧ esc s = s) ∨
    ∃ i : Nat, index s [34] = i ∧ i < s.length ∧ s.count 34 = 1 + (s.drop (i + 1)).count 34 ∧ esc s = s.take i ++ [34, 34] ++ esc (s.drop (i + 1)) := by
  induction s with
  | nil => exact .inl ⟨by decide, rfl, rfl⟩
  | cons b l ih =>
    by_cases hb : b = 34
    · subst hb
      refine .inr ⟨0, by unfold index; rw [isp]; simp, by simp, by simp [Nat.add_comm], by rw [esc_cons]; simp⟩
    · have hb' : (34 == b) = false := by simpa using fun h : 34 = b => hb h.symm
      rcases ih with ⟨h1, h2, h3⟩ | ⟨i, h1, h2, h3, h4⟩
      · refine .inl ⟨by unfold index; rw [isp, hb', h1]; rfl, by rw [List.count_cons, h2]; simp [hb], by rw [esc_cons, if_neg hb, h3]; rfl⟩
      · have h5 : ((index l [34]) == -1) = false := by rw [h1]; simp
        refine .inr ⟨i + 1, ?_, by simp only [List.length_cons]; omega, ?_, ?_⟩
        · unfold index
          rw [isp, hb', h5, h1]
          simp
        · rw [List.count_cons, h3]; simp [hb]
        · rw [esc_cons, if_neg hb, h4]; simp
theorem replaceK_esc : ∀ (n : Nat) (s : List UInt8) (k : Nat), s.length ≤ n → s.count 34 ≤ k → replaceK [34] [34, 34] k s = esc s := by
  intro n
  induction n with
  | zero =>
    intro s k hs _
    obtain rfl : s = [] := List.length_eq_zero_iff.1 (by omega)
    cases k <;> rfl
  | succ n ih =>
    intro s k hs hk
    rcases index34 s with ⟨h1, h2, h3⟩ | ⟨i, h1, h2, h3, h4⟩
    · rw [h3]
      cases k with
      | zero => rfl
      | succ k => rw [replaceK, if_pos (by rw [h1]; rfl)]
    · obtain ⟨k, rfl⟩ : ∃ m, k = m + 1 := ⟨k - 1, by omega⟩
      rw [replaceK_hit _ _ _ _ i h1, h4]
      simp only [List.length_cons, List.length_nil]
      rw [ih (s.drop (i + 1)) k (by rw [List.length_drop]; omega) (by omega)]
theorem count34 : ∀ (n : Nat) (s : List UInt8) , s.length < n → s.count 34 ≤ countFrom [34] n s := by
  intro n
  induction n with
  | zero => intro s h; omega
  | succ n ih =>
    intro s hs
    rcases index34 s with ⟨h1, h2, _⟩ | ⟨i, h1, h2, h3, _⟩
    · omega
    · rw [countFrom, if_neg (by rw [h1]; simp), h3, h1]
      have := ih (s.drop (i + 1)) (by rw [List.length_drop]; omega)
      simpa using this
theorem replaceAll_esc (s : List UInt8) : replaceAll s [34] [34, 34] = esc s := by
  unfold replaceAll replace
  rw [if_neg (by decide)]
  exact replaceK_esc s.length s _ (Nat.le_refl _) (by
    unfold replaceNum
    rw [if_pos (.inl (by decide))]
    exact count34 _ s (by omega))
def sepB' (x : Int) : Bool := x == 44 || x == 59 || x == 124 || x == 9
def badB (c : UInt8) : Bool := decide ((c.toNat : Int) < 32) || decide ((c.toNat : Int) > 126)
def badRow (r : List ByteArray) : Bool := r.isEmpty || r.any fun s => s.data.toList.any badB
def writeF (rows : List (List ByteArray)) (sp : Int) : ByteArray × Int :=
  if sepB' sp = false then (⟨#[]⟩, 1) else if rows.any badRow = true then (⟨#[]⟩, 1) else if rows.length > 2001 then (⟨#[]⟩, 5)
  else if (tabT sp rows).length > 16384 then (⟨#[]⟩, 5) else (⟨(tabT sp rows).toArray⟩, 0)
def fitsT (rows : List (List ByteArray)) : Prop := (∀ r ∈ rows, r.length ≤ 1048576 ∧ ∀ s ∈ r, s.size ≤ 1048576) ∧ rows.length ≤ 1099511627776
theorem tailT_length (sp : Int) (r : List ByteArray) (h : ∀ s ∈ r, s.size ≤ 1048576) : (tailT sp r).length ≤ r.length * 2097155 := by
  induction r with
  | nil => simp [tailT]
  | cons s r ih =>
    have h1 := ih (fun x hx => h x (List.mem_cons_of_mem _ hx))
    have h2 := cellT_length sp s.data.toList
    have h3 := h s (List.mem_cons_self ..)
    have h4 : s.data.toList.length = s.size := by simp
    simp only [tailT, List.length_cons, List.length_append]
    omega
theorem tailT_append (sp : Int) (a b : List ByteArray) : tailT sp (a ++ b) = tailT sp a ++ tailT sp b := by
  induction a with
  | nil => rfl
  | cons s a ih => simp [tailT, ih]
def headT (sp : Int) : List ByteArray → List UInt8
  | [] => []
  | s :: r => cellT sp s.data.toList ++ tailT sp r
theorem rowT_head (sp : Int) (r : List ByteArray) : rowT sp r = headT sp r ++ [10] := by
  cases r with
  | nil => rfl
  | cons s r => simp [rowT, headT]
theorem headT_snoc (sp : Int) (r : List ByteArray) (s : ByteArray) : headT sp (r ++ [s]) = (if r = [] then [] else headT sp r ++ [u8of sp]) ++ cellT sp s.data.toList := by
  cases r with
  | nil => simp [headT, tailT]
  | cons x r => simp [headT, tailT_append, tailT]
theorem headT_length (sp : Int) (r : List ByteArray) (h : ∀ s ∈ r, s.size ≤ 1048576) : (headT sp r).length ≤ r.length * 2097155 := by
  cases r with
  | nil => simp [headT]
  | cons s r =>
    have h1 := tailT_length sp r (fun x hx => h x (List.mem_cons_of_mem _ hx))
    have h2 := cellT_length sp s.data.toList
    have h3 := h s (List.mem_cons_self ..)
    have h4 : s.data.toList.length = s.size := by simp
    simp only [headT, List.length_cons, List.length_append]
    omega
theorem tabT_snoc (sp : Int) (a : List (List ByteArray)) (r : List ByteArray) : tabT sp (a ++ [r]) = tabT sp a ++ (headT sp r ++ [10]) := by simp [tabT, rowT_head]
theorem tabT_mono (sp : Int) (rows : List (List ByteArray)) (i : Nat) : (tabT sp (rows.take i)).length ≤ (tabT sp rows).length := by
  have h : tabT sp rows = tabT sp (rows.take i) ++ tabT sp (rows.drop i) := by simp only [tabT, ← List.flatMap_append, List.take_append_drop]
  rw [h, List.length_append]
  omega
theorem tabT_append (sp : Int) (a b : List (List ByteArray)) : tabT sp (a ++ b) = tabT sp a ++ tabT sp b := by simp [tabT]
end Go.Proofs.YtghjhampigbbkaaGreatDoor.PA
end

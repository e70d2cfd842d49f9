/- Texts of this claim, merged by a program: XLaws. -/
import Derived.Laws.Cover1
import Derived.Laws.Small
import Derived.Laws.Strings
set_option linter.unusedVariables false
set_option linter.unusedSimpArgs false
section
namespace Go.Proofs.YtghjhampigbbkaaGreatDoor
theorem bytesLess_flip : ∀ x y : List UInt8, (!(Op.bytesLess x y || x == y)) = Op.bytesLess y x
  | [], [] => by simp [Op.bytesLess]
  | [], _ :: _ => by simp [Op.bytesLess]
  | _ :: _, [] => by simp [Op.bytesLess]
  | a :: x, b :: y => by
    have ih := bytesLess_flip x y
    simp only [Op.bytesLess]
    rcases Nat.lt_trichotomy a.toNat b.toNat with h | h | h
    · have h1 : a < b := UInt8.lt_iff_toNat_lt.2 h
      have h2 : ¬ b < a := fun z => by have := UInt8.lt_iff_toNat_lt.1 z; omega
      have h3 : ¬ b = a := fun z => by subst z; omega
      simp [h1, h2, h3]
    · have h1 : a = b := UInt8.toNat_inj.1 h
      subst h1
      have h2 : ¬ a < a := fun z => by have := UInt8.lt_iff_toNat_lt.1 z; omega
      simp [h2, ← ih]
    · have h1 : b < a := UInt8.lt_iff_toNat_lt.2 h
      have h2 : ¬ a < b := fun z => by have := UInt8.lt_iff_toNat_lt.1 z; omega
      have h3 : ¬ a = b := fun z => by subst z; omega
      simp [h1, h2, h3]
theorem bytesLess_flip' (x y : List UInt8) : (Op.bytesLess x y || x == y) = !(Op.bytesLess y x) := by
  rw [← bytesLess_flip x y, Bool.not_not]
@[go_sem high] theorem str_gtr (t : TypeId) (a b : ByteArray) : binOp .gtr t (.string a) (.string b) = pure (.bool (Op.bytesLess b.toList a.toList)) := by
  rw [binOp_string_gtr, bytesLess_flip]
@[go_sem high] theorem str_leq (t : TypeId) (a b : ByteArray) : binOp .leq t (.string a) (.string b) = pure (.bool !(Op.bytesLess b.toList a.toList)) := by
  rw [binOp_string_leq, bytesLess_flip']
end Go.Proofs.YtghjhampigbbkaaGreatDoor
end

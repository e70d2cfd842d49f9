/- Texts of this claim, merged by a program: XFields, XHeader. -/
import Derived.ArgAppend
import Derived.Below
import Derived.BigQuiet
import Derived.Deep.AppendLies
import Derived.Deep.CutBlock
import Derived.Deep.DeepCutAuto
import Derived.Deep.Draws
import Derived.Deep.LoopGhost
import Derived.Deep.OwnRows
import Derived.Deep.QuietTactic
import Derived.Deep.RegionHeld3
import Derived.KernelRfl
import Derived.Laws.BitsLemmas
import Derived.Laws.BytesArg
import Derived.Laws.Cover1
import Derived.Laws.Externs
import Derived.Laws.IdiomCopy
import Derived.Laws.MakeOwn
import Derived.Laws.OwnMore
import Derived.Laws.Rows
import Derived.Laws.Slices
import Derived.Laws.Small
import Derived.Laws.Strings
import Derived.Laws.StructEq
import Derived.Lib.AppendStr
import Derived.Lib.Builder
import Derived.Lib.ConvBytes
import Derived.Lib.MakeNoZero
import Derived.Lib.SliceRun
import Derived.Lib.Slices
import Derived.Lib.Strings
import Derived.Lib.UnsafeStr
import Derived.Lib.Walk
import Derived.Maps.AppendAt
import Derived.OrdersHeld
import Derived.OwnWalk
import Derived.RowKit
import Derived.RowKit3
import Derived.Tactics
import Derived.Test.YtghjhampigbbkaaGreatDoorProg
import Derived.WalkKit
import Derived.WideLaws
import Derived.Test.YtghjhampigbbkaaGreatDoorKW3
import Derived.Test.YtghjhampigbbkaaGreatDoorKW4
import Derived.Test.YtghjhampigbbkaaGreatDoorKW5
import Derived.Test.YtghjhampigbbkaaGreatDoorKW6
import Derived.Test.YtghjhampigbbkaaGreatDoorKW7
import Derived.Test.YtghjhampigbbkaaGreatDoorKW8
import Derived.Test.YtghjhampigbbkaaGreatDoorKW9
import Derived.Test.YtghjhampigbbkaaGreatDoorKW10
import Derived.Test.YtghjhampigbbkaaGreatDoorKW11
import Derived.Test.YtghjhampigbbkaaGreatDoorKW13
set_option linter.unusedVariables false
set_option linter.unusedSimpArgs false
section
namespace Go.Proofs.YtghjhampigbbkaaGreatDoor.PA
open Go.RowKit Go.Proofs.YtghjhampigbbkaaGreatDoorW.PrintWords Go.Proofs.YtghjhampigbbkaaGreatDoorW.PrintLast Go.Proofs.YtghjhampigbbkaaGreatDoorW.PrintMore
abbrev KI := Kd.int .i64
theorem idxFrom_none {α : Type} (p : α → Bool) : ∀ (xs : List α) (i : Nat), xs.all (fun x => !p x) = true → idxFrom p i xs = -1
  | [], _, _ => rfl
  | x :: xs, i, h => by
    simp only [List.all_cons, Bool.and_eq_true, Bool.not_eq_true'] at h
    rw [idxFrom, h.1]
    exact idxFrom_none p xs (i + 1) h.2
theorem idxFrom_some {α : Type} (p : α → Bool) : ∀ (xs : List α) (i : Nat), xs.all (fun x => !p x) = false → ∃ j, j < xs.length ∧ idxFrom p i xs = ((i + j : Nat) : Int) ∧ (xs.take (j + 1)).filter (fun x => !p x) = xs.take j
  | [], _, h => by cases h
  | x :: xs, i, h => by
    by_cases hx : p x = true
    · exact ⟨0, by simp, by simp [idxFrom, hx], by simp [hx]⟩
    · have hx' : p x = false := by simpa using hx
      obtain ⟨j, h1, h2, h3⟩ := idxFrom_some p xs (i + 1) (by simpa [hx'] using h)
      refine ⟨j + 1, by simp; omega, ?_, ?_⟩
      · rw [idxFrom, hx', h2]
        simp only [Bool.false_eq_true, if_false]
        congr 1
        omega
      · rw [List.take_succ_cons, List.filter_cons, hx', List.take_succ_cons, h3]
        rfl
theorem R_clear {w : World} {base : Nat} {ok : Nat → Prop} {g cap : Nat} : ∀ (m o : Nat) (W : World) (n : Nat) (xs : List Int), Kd.R KI 3 W base ok (.slice (some ⟨g, 0, none⟩) n cap) xs → o + m ≤ n →
    ∃ ys, Kd.R KI 3 (W.setCells g o (List.replicate m (.int .i64 0))) base ok (.slice (some ⟨g, 0, none⟩) n cap) ys ∧ ys.length = xs.length ∧ ys.take o = xs.take o
  | 0, o, W, n, xs, h, _ => ⟨xs, h, rfl, rfl⟩
  | m + 1, o, W, n, xs, h, hm => by
    have h1 := Kd.R_putn h (o : Int) 0
    obtain ⟨ys, h2, h3, h4⟩ := R_clear (w := w) m (o + 1) _ n _ h1 (by omega)
    refine ⟨ys, h2, by rw [h3, List.length_set], ?_⟩
    have h5 := congrArg (List.take o) h4
    rw [List.take_take, List.take_take, Nat.min_eq_left (by omega), Int.toNat_natCast, List.take_set_of_le (Nat.le_refl _)] at h5
    exact h5
theorem below_clear {w0 : World} {g : Nat} (hg : w0.heap.size ≤ g) : ∀ (vs : List Value) (o : Nat) (W : World), Below w0.heap.size w0 W → Below w0.heap.size w0 (W.setCells g o vs)
  | [], _, _, h => h
  | _ :: vs, o, _, h => below_clear hg vs (o + 1) _ (below_set h hg)
set_option maxHeartbeats 1600000 in
set_option maxRecDepth 100000 in
theorem DeleteFunc_i64 (f : FuncId) (hf : ∀ args w, (callFunc f args).run Tryz.prog w = .ok (.enter f args) w) (p : Int → Bool) (g cap : Nat) (xs : List Int) (w0 w : World)
    (HO : Kd.R KI 3 w w0.heap.size (fun _ => True) (.slice (some ⟨g, 0, none⟩) xs.length cap) xs) (HB : Below w0.heap.size w0 w) (hg : w0.heap.size ≤ g) (hn : xs.length ≤ 1099511627776)
    (hp : ∀ x W, Calls Tryz.prog f #[.int .i64 x] W fun e W' => e = .returned (.bool (p x)) ∧ Below W.heap.size W W') :
    Calls Tryz.prog 121 #[.slice (some ⟨g, 0, none⟩) xs.length cap, .func (.func f) #[] #[]] w fun e w' => ∃ n, e = .returned (.slice (some ⟨g, 0, none⟩) n cap) ∧
      Kd.R KI 3 w' w0.heap.size (fun _ => True) (.slice (some ⟨g, 0, none⟩) n cap) (xs.filter fun x => !p x) ∧ Below w0.heap.size w0 w' := by
  obtain ⟨_, hcap, hC⟩ := Kd.R_reads' HO
  have HI := Aside0.mk (IndexFunc_i64 (some ⟨g, 0, none⟩) cap xs f hf #[] p w hC (fun x _ W _ => hp x W))
  have HP := Aside0.mk hp
  have HO := Aside0.mk HO
  have HB := Aside0.mk HB
  clear hC hp
  cases hall : xs.all (fun x => !p x)
  · obtain ⟨i0, hi0, he, hfl⟩ := idxFrom_some p xs 0 hall
    have HE : Aside0 (idxBy p xs = (i0 : Int)) := ⟨by unfold idxBy; rw [he]; simp⟩
    have HF := Aside0.mk hfl
    rw [HE.out] at HI
    clear he hall hfl HE
    have t1 : ((i0 : Int) == -1) = false := beq_false_of_ne (by omega)
    go_enter Tryz.func121, Tryz.ntmps121
    go_wp2_with fail
    refine HI.out.mono ?_
    rintro e w1 ⟨rfl, hb⟩
    have HO1 := Aside0.mk (Kd.R_below HO.out hb)
    have HB1 := Aside0.mk (below_step HB.out hb)
    clear hb HI HO HB
    go_wp2_with fail
    go_loopg [5, 6, 7] (xs.length - i0 - 1) (fun kq v5 v6 v7 wr => ∃ (i j : Nat) (ys : List Int), v5 = .int .i64 (i : Int) ∧ v6 = .int .i64 (j : Int) ∧ i < j ∧ j ≤ xs.length ∧ Aside0 (kq + j = xs.length) ∧ Aside0 (ys.length = xs.length ∧ ys.take i = (xs.take j).filter (fun x => !p x) ∧ ys.drop j = xs.drop j) ∧ Aside0 (Kd.R KI 3 wr w0.heap.size (fun _ => True) (.slice (some ⟨g, 0, none⟩) xs.length cap) ys) ∧ Aside0 (Below w0.heap.size w0 wr))
    case atStart => exact ⟨i0, i0 + 1, xs, rfl, by go_num, by omega, hi0, ⟨by omega⟩, ⟨rfl, HF.out.symm, rfl⟩, HO1, HB1⟩
    case round =>
      clear HO1 HB1 HF
      obtain ⟨i, j, ys, rfl, rfl, hij, hj, HK, HY, HO, HB⟩ := hrel
      have hyl := HY.out.1
      by_cases hlt : j < xs.length
      · have HO' : Kd.R KI 3 wr w0.heap.size (fun _ => True) (.slice (some ⟨g, 0, none⟩) ys.length cap) ys := by rw [hyl]; exact HO.out
        obtain ⟨hc1, hz1⟩ := Kd.R_cell (0 : Int) HO' (j : Int) (by omega) (by omega)
        rw [Int.toNat_natCast] at hc1 hz1
        have hel : rdOf 0 ys (j : Int) = xs[j] := by
          have h1 : ys[j]'(by omega) = xs[j] := by
            have h2 := HY.out.2.2
            rw [List.drop_eq_getElem_cons (by omega : j < ys.length), List.drop_eq_getElem_cons hlt] at h2
            exact (List.cons.inj h2).1
          simp only [rdOf, Int.toNat_natCast, List.getD_eq_getElem?_getD, List.getElem?_eq_getElem (show j < ys.length by omega), Option.getD_some, h1]
        rw [hel] at hc1
        have HX : Aside0 ((xs.take (j + 1)).filter (fun x => !p x) = ys.take i ++ [xs[j]].filter (fun x => !p x)) := ⟨by rw [List.take_succ_eq_append_getElem hlt, List.filter_append, HY.out.2.1]⟩
        have HD : Aside0 (ys.drop (j + 1) = xs.drop (j + 1)) := ⟨by have h2 := congrArg (List.drop 1) HY.out.2.2; rw [List.drop_drop, List.drop_drop] at h2; exact h2⟩
        generalize hx : xs[j] = x at *
        clear hel hx
        clear HO'
        go_wp2_with fail
        refine (HP.out x wr).mono ?_
        rintro e w2 ⟨rfl, hb⟩
        have HO2 := Aside0.mk (Kd.R_below HO.out hb)
        have HB2 := Aside0.mk (below_step HB.out hb)
        clear hb HO HB hc1 hz1
        have HO' : Kd.R KI 3 w2 w0.heap.size (fun _ => True) (.slice (some ⟨g, 0, none⟩) ys.length cap) ys := by rw [hyl]; exact HO2.out
        obtain ⟨hi1, hi2⟩ := Kd.R_cell (0 : Int) HO' (i : Int) (by omega) (by omega)
        rw [Int.toNat_natCast] at hi1 hi2
        clear HO'
        cases hpx : p x
        · have HF1 : Aside0 ((xs.take (j + 1)).filter (fun x => !p x) = ys.take i ++ [x]) := ⟨by rw [HX.out]; simp [hpx]⟩
          clear HX
          have HO3 := Aside0.mk (Kd.R_putn HO2.out (i : Int) x)
          have HB3 := Aside0.mk (below_set (j := i) (v := .int .i64 x) HB2.out hg)
          clear HO2 HB2
          have e1 : wrap64 ((i : Int) + 1) = ((i + 1 : Nat) : Int) := by unfold wrap64; omega
          have e2 : wrap64 ((j : Int) + 1) = ((j + 1 : Nat) : Int) := by unfold wrap64; omega
          go_wp2
          obtain ⟨k, rfl⟩ : ∃ k, gk = k + 1 := ⟨gk - 1, by have := HK.out; omega⟩
          go_roundg k
          case measure => omega
          case rel => exact ⟨i + 1, j + 1, ys.set i x, by go_num, by go_num, by omega, by omega, ⟨by have := HK.out; omega⟩, ⟨by rw [List.length_set]; exact hyl, by
            rw [HF1.out, List.take_succ_eq_append_getElem (by rw [List.length_set]; omega), List.getElem_set_self, List.take_set_of_le (Nat.le_refl _)], by
            rw [List.drop_set_of_lt (by omega)]; exact HD.out⟩, ⟨by have h := HO3.out; rw [Int.toNat_natCast] at h; exact h⟩, HB3⟩
        · have HF1 : Aside0 ((xs.take (j + 1)).filter (fun x => !p x) = ys.take i) := ⟨by rw [HX.out]; simp [hpx]⟩
          clear HX
          go_wp2
          obtain ⟨k, rfl⟩ : ∃ k, gk = k + 1 := ⟨gk - 1, by have := HK.out; omega⟩
          go_roundg k
          case measure => omega
          case rel => exact ⟨i, j + 1, ys, rfl, by go_num, by omega, by omega, ⟨by have := HK.out; omega⟩, ⟨hyl, HF1.out.symm, HD.out⟩, HO2, HB2⟩
      · obtain rfl : j = xs.length := by omega
        have hcl : ∀ ty, (Builtin.clear_ #[31] ty #[.slice (some ⟨g, 0 + i, none⟩) (xs.length - i) (cap - i)]).run Tryz.prog wr = .ok (.tuple #[]) (wr.setCells g (0 + i) (List.replicate (xs.length - i) (.int .i64 0))) := by
          intro ty
          have HO' : Kd.R KI 3 wr w0.heap.size (fun _ => True) (.slice (some ⟨g, 0, none⟩) ys.length cap) ys := by rw [hyl]; exact HO.out
          have hcc : ∀ q, q < xs.length - i → wr.cell? ⟨g, 0 + i + q, none⟩ = some (.int .i64 (rdOf 0 ys ((i + q : Nat) : Int))) ∧ wr.frozen? ⟨g, 0 + i + q, none⟩ = false := by
            intro q hq
            have h := Kd.R_cell (0 : Int) HO' ((i + q : Nat) : Int) (by omega) (by omega)
            rw [Int.toNat_natCast] at h
            rw [Nat.zero_add]
            exact h
          exact Lib.run_clear_slice wr 31 3 ty (.int .i64 0) Tryz.underlying31 (fun _ => by kernel_rfl) rfl rfl g (0 + i) (xs.length - i) (cap - i) (by omega) (fun q hq => by rw [(hcc q hq).1]; rfl) (fun q hq => (hcc q hq).2)
        simp only [Nat.zero_add] at hcl
        obtain ⟨zs, hz1, hz2, hz3⟩ := R_clear (w := w) (xs.length - i) i wr _ ys HO.out (by omega)
        have HZ := Aside0.mk hz1
        have HBZ := Aside0.mk (below_clear hg (List.replicate (xs.length - i) (.int .i64 0)) i wr HB.out)
        have HZ3 : Aside0 (zs.take i = xs.filter (fun x => !p x)) := ⟨by rw [hz3, HY.out.2.1, List.take_length]⟩
        have HZL : Aside0 (i ≤ zs.length) := ⟨by rw [hz2]; omega⟩
        clear hz1 hz2 hz3
        go_wp2
        go_ret
        exact ⟨i, rfl, by rw [← HZ3.out]; exact Kd.R_take HZ.out HZL.out, HBZ.out⟩
  · have HE : Aside0 (idxBy p xs = -1) := ⟨idxFrom_none p xs 0 hall⟩
    have HF : Aside0 (xs.filter (fun x => !p x) = xs) := ⟨List.filter_eq_self.2 (List.all_eq_true.1 hall)⟩
    rw [HE.out] at HI
    clear hall HE
    go_enter Tryz.func121, Tryz.ntmps121
    go_wp2_with fail
    refine HI.out.mono ?_
    rintro e w1 ⟨rfl, hb⟩
    have HO1 := Aside0.mk (Kd.R_below HO.out hb)
    have HB1 := Aside0.mk (below_step HB.out hb)
    clear hb
    go_wp2
    go_ret
    exact ⟨_, rfl, by rw [HF.out]; exact HO1.out, HB1.out⟩
theorem lit5 {W : World} {B : Nat} (hB : B ≤ W.heap.size) (a b c d e : Int) : Kd.R KI 3 (W.alloc (.cells #[.int .i64 a, .int .i64 b, .int .i64 c, .int .i64 d, .int .i64 e] 3)) B (fun _ => True) (.slice (some ⟨W.heap.size, 0, none⟩) 5 5) [a, b, c, d, e] :=
  Kd.R_of_own (xs := [a, b, c, d, e]) ⟨rfl, .inr ⟨W.heap.size, 5, _, rfl, hB, blk_new W _, Nat.le_refl _, by decide, rfl, rfl⟩⟩ (fun _ _ => trivial)
def neg1 (x : Int) : Bool := decide (x < 0)
def fieldsL (c a r l t : Int) : List Int := [c, a, r, l, t].filter fun x => !neg1 x
set_option maxHeartbeats 1600000 in
set_option maxRecDepth 100000 in
theorem imports_fields_at (c a r l t : Int) (A1 A2 : Option Addr) (n1 c1 n2 c2 : Nat) (sp : Int) (w : World) :
    Calls Tryz.prog 75 #[.agg #[.int .i64 c, .int .i64 a, .int .i64 r, .int .i64 l, .int .i64 t, .slice A1 n1 c1, .slice A2 n2 c2, .int .u8 sp]] w fun e w' => ∃ v, e = .returned v ∧
      Kd.R KI 3 w' w.heap.size (fun _ => True) v (fieldsL c a r l t) ∧ Below w.heap.size w w' := by
  have hu33 := Tryz.underlying33
  go_enter Tryz.func75, Tryz.ntmps75
  go_wp2_with fail
  have HO := lit5 (W := w.alloc (.cells #[.int .i64 c, .int .i64 a, .int .i64 r, .int .i64 l, .int .i64 t, .slice A1 n1 c1, .slice A2 n2 c2, .int .u8 sp] 33)) (below_size (below_alloc (Below.refl w.heap.size w) _)) c a r l t
  have hsz : (w.alloc (.cells #[.int .i64 c, .int .i64 a, .int .i64 r, .int .i64 l, .int .i64 t, .slice A1 n1 c1, .slice A2 n2 c2, .int .u8 sp] 33)).heap.size = w.heap.size + 1 := Array.size_push ..
  rw [hsz] at HO
  refine (DeleteFunc_i64 122 (fun args w => by go_simp) neg1 (w.heap.size + 1) 5 [c, a, r, l, t] w _ HO (below_alloc (below_alloc (Below.refl w.heap.size w) _) _) (Nat.le_succ _) (show 5 ≤ 1099511627776 by decide) (fun x W => (imports_fields_1.calls x (neg1 x) W rfl).mono (by rintro e W' ⟨rfl, h⟩; exact ⟨rfl, h.below⟩))).mono ?_
  rintro e w1 ⟨n, rfl, h1, h2⟩
  have H1 := Aside0.mk h1
  have H2 := Aside0.mk h2
  clear h1 h2 HO hsz
  go_wp2
  go_ret
  exact ⟨_, rfl, H1.out, H2.out⟩
end Go.Proofs.YtghjhampigbbkaaGreatDoor.PA
end
section
namespace Go.Proofs.YtghjhampigbbkaaGreatDoor.PA
open Go.RowKit Go.Proofs.YtghjhampigbbkaaGreatDoorW.PrintWords Go.Proofs.YtghjhampigbbkaaGreatDoorW.PrintLast Go.Proofs.YtghjhampigbbkaaGreatDoorW.PrintMore
def cellAt (row : List ByteArray) (k : Int) : ByteArray := rdOf ByteArray.empty row k
def hdrData (row : List ByteArray) : List Int → List Int → Int × Int × Int
  | _, [] => (0, 0, 0)
  | seen, k :: ks => if (row.length : Int) ≤ k then (1, k + 1, 10) else if isNameB (cellAt row k) = false then (1, k + 1, 8)
    else if seen.any (fun j => (cellAt row j).toList == (cellAt row k).toList) then (1, k + 1, 9) else hdrData row (seen ++ [k]) ks
def hdrF (row : List ByteArray) (c a r l t : Int) (D : List Int) : Int × Int × Int :=
  match (fieldsL c a r l t).find? (fun k => decide ((row.length : Int) ≤ k)) with
  | some k => (1, k + 1, 10)
  | none => hdrData row [] D
def colsOk (c a r l t : Int) (D : List Int) : Bool := [c, a, r, l, t].all (fun x => decide (x ≤ 1099511627776)) && D.all fun x => decide (0 ≤ x) && decide (x ≤ 1099511627776)
def imports_header.f (l0 : List ByteArray) (c a r l t : Int) (D _K : List Int) (_sp : Int) : Option (Int × Int × Int) := if colsOk c a r l t D = true then some (hdrF l0 c a r l t D) else none
set_option maxHeartbeats 1600000 in
set_option maxRecDepth 100000 in
theorem header_1 (b2 b9 : Nat) (A0 : Option Addr) (c0 : Nat) (l0 : List ByteArray) (j k : Int) (w : World) (h2 : w.cell? ⟨b2, 0, none⟩ = some (.slice A0 l0.length c0)) (h9 : w.cell? ⟨b9, 0, none⟩ = some (.int .i64 k))
    (hr : Kd.C Kd.string w A0 l0.length l0) (hj : 0 ≤ j ∧ j < l0.length) (hk : 0 ≤ k ∧ k < l0.length) :
    Calls Tryz.prog 96 #[.int .i64 j, .pointer (some ⟨b2, 0, none⟩), .pointer (some ⟨b9, 0, none⟩)] w fun e w' => e = .returned (.bool ((cellAt l0 j).toList == (cellAt l0 k).toList)) ∧ Below w.heap.size w w' := by
  obtain ⟨ad, e1, hx⟩ := Kd.at_string hr j hj.1 hj.2
  obtain ⟨ad2, e2, hy⟩ := Kd.at_string hr k hk.1 hk.2
  cases e1
  cases e2
  have HB := Aside0.mk (Below.refl w.heap.size w)
  obtain ⟨p1, q1⟩ := hj
  obtain ⟨p2, q2⟩ := hk
  replace p1 := eq_true p1
  replace q1 := eq_true q1
  replace p2 := eq_true p2
  replace q2 := eq_true q2
  go_enter Tryz.func96, Tryz.ntmps96
  go_wp2
  go_quiet (fail)
  go_wp2
  go_ret
  exact ⟨rfl, pw_below_drewN HB.out _⟩
theorem three_new {w w1 : World} {o1 o2 o3 : Obj} (hb : Below (((w.alloc o1).alloc o2).alloc o3).heap.size (((w.alloc o1).alloc o2).alloc o3) w1) :
    w1.heap[w.heap.size]? = some o1 ∧ w1.heap[w.heap.size + 1]? = some o2 ∧ w1.heap[w.heap.size + 2]? = some o3 ∧ Below w.heap.size w w1 := by
  have h2 : ((w.alloc o1).alloc o2).heap.size = w.heap.size + 2 := (size_alloc _ _).trans (congrArg (· + 1) (size_alloc _ _))
  exact ⟨blk_below (blk_alloc (blk_alloc (blk_new w o1) o2) o3) hb, blk_below (blk_alloc (size_alloc w o1 ▸ blk_new (w.alloc o1) o2) o3) hb, blk_below (h2 ▸ blk_new ((w.alloc o1).alloc o2) o3) hb,
    below_step (below_alloc (below_alloc (below_alloc (Below.refl _ _) _) _) _) hb⟩
theorem ret_ct2 {fn : Func} {q u : Tmp} {R : Ending → World → Prop} {a : Act} {w : World} {g : Nat} {x y : Value} (h : fn.results = #[.cell q 40, .tmp u])
    (hp : a.tmps.getD q undef = .pointer (some ⟨g, 0, none⟩)) (hg : w.heap[g]? = some (.cells #[x, y] 40 (0, 0))) (hd : a.defers = [])
    (hR : R (.returned (.tuple #[.agg #[x, y], a.tmps.getD u undef])) w) : bodyPost Tryz.prog fn R .ret a w :=
  bodyPost_ret (results_ct h _ _ g 40 #[x, y] (0, 0) _ hp hg Tryz.underlying40 rfl (by kernel_rfl)) hd hR
theorem find_drop {xs : List Int} {p : Int → Bool} {i : Nat} (h : i < xs.length) : (xs.drop i).find? p = if p xs[i] then some xs[i] else (xs.drop (i + 1)).find? p := by
  rw [List.drop_eq_getElem_cons h, List.find?_cons]
  cases p xs[i] <;> rfl
structure HInv (w : World) (A0 : Option Addr) (c0 n : Nat) (m : Array Value) (W : World) : Prop where
  k2 : W.heap[w.heap.size]? = some (.cells #[.slice A0 n c0] 51 (0, 0))
  k3 : W.heap[w.heap.size + 1]? = some (.cells m 33 (0, 0))
  k4 : W.heap[w.heap.size + 2]? = some (.cells #[.int .i64 0, .int .i64 0] 40 (0, 0))
  b0 : Below w.heap.size w W
theorem HInv.below {w : World} {A0 : Option Addr} {c0 n : Nat} {m : Array Value} {W W1 : World} (h : HInv w A0 c0 n m W) (hb : Below W.heap.size W W1) : HInv w A0 c0 n m W1 :=
  ⟨blk_below h.k2 hb, blk_below h.k3 hb, blk_below h.k4 hb, below_step h.b0 hb⟩
structure JInv (w : World) (A0 : Option Addr) (c0 n : Nat) (m : Array Value) (g9 g10 : Nat) (x : Int) (W : World) : Prop where
  h : HInv w A0 c0 n m W
  k9 : W.heap[g9]? = some (.cells #[.int .i64 x] 3 (0, 0))
  k10 : W.heap[g10]? = some (.cells #[.int .i64 1, .int .i64 (x + 1)] 40 (0, 0))
theorem JInv.below {w : World} {A0 : Option Addr} {c0 n : Nat} {m : Array Value} {g9 g10 : Nat} {x : Int} {W W1 : World} (h : JInv w A0 c0 n m g9 g10 x W) (hb : Below W.heap.size W W1) : JInv w A0 c0 n m g9 g10 x W1 :=
  ⟨h.h.below hb, blk_below h.k9 hb, blk_below h.k10 hb⟩
set_option maxHeartbeats 3200000 in
set_option maxRecDepth 100000 in
theorem imports_header.calls (A0 : Option Addr) (c0 : Nat) (l0 : List ByteArray) (a1_0 a1_1 a1_2 a1_3 a1_4 : Int) (A1_5 : Option Addr) (c1_5 : Nat) (l1_5 : List Int) (A1_6 : Option Addr) (c1_6 : Nat) (l1_6 : List Int) (a1_7 : Int) (r1 r2 r3 : Int) (w : World)
    (hr0 : Kd.C Kd.string w A0 l0.length l0) (_hc0 : l0.length ≤ c0) (hr1_5 : Kd.C (Kd.int .i64) w A1_5 l1_5.length l1_5) (hc1_5 : l1_5.length ≤ c1_5) (_hr1_6 : Kd.C (Kd.int .i64) w A1_6 l1_6.length l1_6) (_hc1_6 : l1_6.length ≤ c1_6)
    (h : imports_header.f l0 a1_0 a1_1 a1_2 a1_3 a1_4 l1_5 l1_6 a1_7 = some (r1, r2, r3)) :
    Calls Tryz.prog 53 #[.slice A0 l0.length c0, .agg #[.int .i64 a1_0, .int .i64 a1_1, .int .i64 a1_2, .int .i64 a1_3, .int .i64 a1_4, .slice A1_5 l1_5.length c1_5, .slice A1_6 l1_6.length c1_6, .int .u8 a1_7]] w fun e w' =>
      e = .returned (.tuple #[.agg #[.int .i64 r1, .int .i64 r2], .int .i64 r3]) ∧ Below w.heap.size w w' := by
  have hu33 := Tryz.underlying33
  have hu40 := Tryz.underlying40
  unfold imports_header.f at h
  by_cases hok : colsOk a1_0 a1_1 a1_2 a1_3 a1_4 l1_5 = true
  case neg => rw [if_neg hok] at h; cases h
  rw [if_pos hok] at h
  have HU := Aside0.mk (Option.some.inj h)
  clear h
  have HR := Aside0.mk hr0
  have HD := Aside0.mk hr1_5
  have hok1 : ∀ x ∈ fieldsL a1_0 a1_1 a1_2 a1_3 a1_4, 0 ≤ x ∧ x ≤ 1099511627776 := by
    intro x hx
    unfold fieldsL at hx
    rw [List.mem_filter] at hx
    unfold colsOk at hok
    rw [Bool.and_eq_true] at hok
    have h1 := List.all_eq_true.1 hok.1 x hx.1
    have h2 := hx.2
    unfold neg1 at h2
    simp only [decide_eq_true_eq, Bool.not_eq_true', decide_eq_false_iff_not] at h1 h2
    omega
  have hok2 : ∀ x ∈ l1_5, 0 ≤ x ∧ x ≤ 1099511627776 := by
    intro x hx
    unfold colsOk at hok
    rw [Bool.and_eq_true] at hok
    have h1 := List.all_eq_true.1 hok.2 x hx
    simpa using h1
  have HK1 := Aside0.mk hok1
  have HK2 := Aside0.mk hok2
  unfold hdrF at HU
  generalize hfl : fieldsL a1_0 a1_1 a1_2 a1_3 a1_4 = fl at *
  have HFL := Aside0.mk hfl
  have hrn : l0.length ≤ 9223372036854775807 := hr0.2.1
  have hdn : l1_5.length ≤ 9223372036854775807 := hr1_5.2.1
  clear hok hok1 hok2 hfl hr0 hr1_5
  go_enter Tryz.func53, Tryz.ntmps53
  go_wp2_with fail
  refine (imports_fields_at a1_0 a1_1 a1_2 a1_3 a1_4 A1_5 A1_6 _ c1_5 _ c1_6 a1_7 _).mono ?_
  rintro e w4 ⟨v, rfl, hv, hb⟩
  rw [HFL.out] at hv
  obtain ⟨k2, k3, k4, hB⟩ := three_new hb
  have HI : Aside0 (HInv w A0 c0 l0.length #[.int .i64 a1_0, .int .i64 a1_1, .int .i64 a1_2, .int .i64 a1_3, .int .i64 a1_4, .slice A1_5 l1_5.length c1_5, .slice A1_6 l1_6.length c1_6, .int .u8 a1_7] w4) := ⟨⟨k2, k3, k4, hB⟩⟩
  obtain ⟨Af, cf, rfl, hcf, hvc⟩ := Kd.R_reads hv
  have HV := Aside0.mk hvc
  have hfn : fl.length ≤ 9223372036854775807 := hvc.2.1
  clear hv hvc k2 k3 k4 hB hb
  go_wp2_with fail
  go_loopg [7, 14] fl.length (fun kq v7 v14 wr => ∃ i : Nat, v14 = .int .i64 (i : Int) ∧ i ≤ fl.length ∧ Aside0 (kq + i = fl.length) ∧ Aside0 ((fl.drop i).find? (fun k => decide ((l0.length : Int) ≤ k)) = fl.find? (fun k => decide ((l0.length : Int) ≤ k))) ∧ wr = w4)
  case atStart => exact ⟨0, rfl, Nat.zero_le _, ⟨by omega⟩, ⟨rfl⟩, rfl⟩
  case round =>
    obtain ⟨i, rfl, hi, HK, HF, rfl⟩ := hrel
    have hk2 := HI.out.k2
    have hc2 := blk_cell hk2 0
    have hk4 := HI.out.k4
    obtain ⟨d0, d1, f0, f1⟩ := cells2 hk4
    clear hk2 hk4
    by_cases hlt : i < fl.length
    · obtain ⟨ad, e1, hx⟩ := Kd.at_int HV.out (i : Int) (by omega) (by omega)
      cases e1
      rw [Int.toNat_natCast] at hx
      have hel : rd fl (i : Int) = fl[i] := by simp [rd, hlt]
      rw [hel] at hx
      have HF2 := Aside0.mk (find_drop (p := fun k => decide ((l0.length : Int) ≤ k)) hlt)
      have hbd := HK1.out fl[i] (List.getElem_mem hlt)
      generalize fl[i] = x at *
      clear hel
      by_cases hge : (l0.length : Int) ≤ x
      · have HE : Aside0 (fl.find? (fun k => decide ((l0.length : Int) ≤ k)) = some x) := ⟨by rw [← HF.out, HF2.out, decide_eq_true hge]; rfl⟩
        rw [HE.out] at HU
        have e1 : wrap64 (x + 1) = x + 1 := by unfold wrap64; omega
        go_wp2
        refine ret_ct2 rfl rfl (put2 HI.out.k4 _ _) rfl ?_
        cases HU.out
        exact ⟨rfl, below2 HI.out.b0 (by omega) _ _⟩
      · have HE : Aside0 ((fl.drop (i + 1)).find? (fun k => decide ((l0.length : Int) ≤ k)) = fl.find? (fun k => decide ((l0.length : Int) ≤ k))) := ⟨by rw [← HF.out, HF2.out, decide_eq_false hge]; rfl⟩
        clear HF HF2
        go_wp2
        obtain ⟨k, rfl⟩ : ∃ k, gk = k + 1 := ⟨gk - 1, by have := HK.out; omega⟩
        go_roundg k
        case measure => omega
        case rel => exact ⟨i + 1, by go_num, by omega, ⟨by have := HK.out; omega⟩, HE, rfl⟩
    · have HE : Aside0 (fl.find? (fun k => decide ((l0.length : Int) ≤ k)) = none) := ⟨by rw [← HF.out, List.drop_of_length_le (by omega)]; rfl⟩
      rw [HE.out] at HU
      dsimp only at HU
      have hk3 := blk_cell HI.out.k3 5
      clear HF HE HK HV HFL HK1
      go_wp2_with fail
      clear d0 d1 f0 f1 hc2 hk3 hlt
      go_loopg [8, 9, 10, 29] l1_5.length (fun kq v8 v9 v10 v29 W => ∃ i : Nat, v29 = .int .i64 (i : Int) ∧ i ≤ l1_5.length ∧ Aside0 (kq + i = l1_5.length) ∧ Aside0 (hdrData l0 (l1_5.take i) (l1_5.drop i) = hdrData l0 [] l1_5) ∧ Aside0 (∀ x ∈ l1_5.take i, x < (l0.length : Int)) ∧ Aside0 (HInv w A0 c0 l0.length #[.int .i64 a1_0, .int .i64 a1_1, .int .i64 a1_2, .int .i64 a1_3, .int .i64 a1_4, .slice A1_5 l1_5.length c1_5, .slice A1_6 l1_6.length c1_6, .int .u8 a1_7] W))
      case atStart => exact ⟨0, rfl, Nat.zero_le _, ⟨by omega⟩, ⟨rfl⟩, ⟨fun x hx => by simp at hx⟩, HI⟩
      case round =>
        clear HI
        obtain ⟨i, rfl, hi, HK, HF, HS, HI⟩ := hrel
        by_cases hlt : i < l1_5.length
        · have hdr : l1_5.drop i = l1_5[i] :: l1_5.drop (i + 1) := List.drop_eq_getElem_cons hlt
          have htk := List.take_succ_eq_append_getElem hlt
          obtain ⟨ad, e1, hx⟩ := Kd.at_int (Kd.C_below HD.out HI.out.b0) (i : Int) (by omega) (by omega)
          cases e1
          rw [Int.toNat_natCast] at hx
          have hel : rd l1_5 (i : Int) = l1_5[i] := by simp [rd, hlt]
          rw [hel] at hx
          rw [hdr] at HF
          have hbd := HK2.out l1_5[i] (List.getElem_mem hlt)
          generalize l1_5[i] = x at *
          have HTK := Aside0.mk htk
          clear hel hdr htk
          have e1 : wrap64 (x + 1) = x + 1 := by unfold wrap64; omega
          go_upto_region 11 with (first | ((with_reducible refine gate_dst (N := 9) rfl ?_); refine box_event ?hg (N := 9) ?hd (cs := #[.int .i64 0]) (t := 3) ?hr ?_; (case hd => rfl); (case hg => rfl); (case hr => first | (go_simp; done) | (go_simp; rfl)); intro g9 hg9 w5 hbox hb; have G9 := Aside0.mk (Nat.le_of_eq hg9.symm); have L9 := Aside0.mk (blk_lt hbox); have K9 := Aside0.mk hbox; have B5 := Aside0.mk hb; clear hg9 hb; have hc9 := blk_cell K9.out 0; have hf9 := blk_frozen K9.out 0; clear hbox) | ((with_reducible refine gate_dst (N := 10) rfl ?_); refine box_event ?hg (N := 10) ?hd (cs := #[.int .i64 0, .int .i64 0]) (t := 40) ?hr ?_; (case hd => rfl); (case hg => rfl); (case hr => first | (go_simp; done) | (go_simp; rfl)); intro g10 hg10 w6 hbox hb; have G10 := Aside0.mk hg10; have K10 := Aside0.mk hbox; have B6 := Aside0.mk hb; clear hg10 hb; obtain ⟨hc10, hc11, hf10, hf11⟩ := cells2 K10.out; clear hbox))
          have hJ : JInv w A0 c0 l0.length #[.int .i64 a1_0, .int .i64 a1_1, .int .i64 a1_2, .int .i64 a1_3, .int .i64 a1_4, .slice (some ad) l1_5.length c1_5, .slice A1_6 l1_6.length c1_6, .int .u8 a1_7] g9 g10 x ((w6.setCell ⟨g10, 0, none⟩ (.int .i64 1)).setCell ⟨g10, 1, none⟩ (.int .i64 (x + 1))) := by
            have h5 : Below wr.heap.size wr (w5.setCell ⟨g9, 0, none⟩ (.int .i64 x)) := below_set B5.out G9.out
            have h6 := below_step h5 B6.out
            have hg : wr.heap.size ≤ g10 := by rw [G10.out]; exact h5.size
            have hs : (w5.setCell ⟨g9, 0, none⟩ (.int .i64 x)).heap.size = w5.heap.size := by simp [World.setCell]
            have hne : g9 ≠ g10 := by have := L9.out; rw [G10.out, hs]; omega
            exact ⟨HI.out.below (below2 h6 hg _ _), blk_far (blk_far (blk_below (blk_put K9.out 0 _ rfl) B6.out) (p := ⟨g10, 0, none⟩) hne _) (p := ⟨g10, 1, none⟩) hne _, put2 K10.out _ _⟩
          have HJ := Aside0.mk hJ
          clear hJ hc9 hf9 hc10 hc11 hf10 hf11 hx
          clear G9 L9 K9 B5 G10 K10 B6
          generalize (w6.setCell ⟨g10, 0, none⟩ (.int .i64 1)).setCell ⟨g10, 1, none⟩ (.int .i64 (x + 1)) = W7 at HJ ⊢
          have hc9 := blk_cell HJ.out.k9 0
          have hc2 := blk_cell HJ.out.h.k2 0
          obtain ⟨t0, t1, _, _⟩ := cells2 HJ.out.k10
          obtain ⟨d0, d1, f0, f1⟩ := cells2 HJ.out.h.k4
          by_cases hge : (l0.length : Int) ≤ x
          · have HE : Aside0 (hdrData l0 [] l1_5 = (1, x + 1, 10)) := ⟨by rw [← HF.out, hdrData, if_pos hge]⟩
            rw [HE.out] at HU
            go_wp2
            refine ret_ct2 rfl rfl (put2 HJ.out.h.k4 _ _) rfl ?_
            cases HU.out
            exact ⟨rfl, below2 HJ.out.h.b0 (by omega) _ _⟩
          · obtain ⟨ad0, e2, hy⟩ := Kd.at_string (Kd.C_below HR.out HJ.out.h.b0) x hbd.1 (by omega)
            cases e2
            have hnm : rdOf ByteArray.empty l0 x = cellAt l0 x := rfl
            rw [hnm] at hy
            go_wp2_with fail
            refine (name_call (cellAt l0 x) _).mono ?_
            rintro e w8 ⟨rfl, ⟨n8, rfl⟩⟩
            cases hn : isNameB (cellAt l0 x)
            · have HE : Aside0 (hdrData l0 [] l1_5 = (1, x + 1, 8)) := ⟨by rw [← HF.out, hdrData, if_neg (by omega), if_pos hn]⟩
              rw [HE.out] at HU
              go_wp2
              refine ret_ct2 rfl rfl (put2 HJ.out.h.k4 _ _) rfl ?_
              cases HU.out
              exact ⟨rfl, below2 (pw_below_drewN HJ.out.h.b0 _) (by omega) _ _⟩
            · have HE0 : Aside0 (hdrData l0 [] l1_5 = if (l1_5.take i).any (fun j => (cellAt l0 j).toList == (cellAt l0 x).toList) then (1, x + 1, 9) else hdrData l0 (l1_5.take i ++ [x]) (l1_5.drop (i + 1))) := ⟨by rw [← HF.out, hdrData, if_neg (by omega), hn]; rfl⟩
              have hk35 := blk_cell HJ.out.h.k3 5
              have hic : i ≤ c1_5 := by omega
              have HCF := Aside0.mk fun n => ContainsFunc_i64 (some ad) c1_5 (l1_5.take i) 96 (fun args w => by go_simp) #[.pointer (some ⟨w.heap.size, 0, none⟩), .pointer (some ⟨g9, 0, none⟩)] (fun j => (cellAt l0 j).toList == (cellAt l0 x).toList) (W7.drewN n) (Kd.C_below (Kd.C_take HD.out (by omega)) (pw_below_drewN HJ.out.h.b0 n)) (by
                intro j hj W hb
                have hJ2 := (JInv.below (W1 := W7.drewN n) HJ.out (pw_below_drewN (Below.refl _ _) n)).below hb
                have h1 := HS.out j hj
                have h2 := (HK2.out j (List.mem_of_mem_take hj)).1
                exact header_1 w.heap.size g9 (some ad0) c0 l0 j x W (blk_cell hJ2.h.k2 0) (blk_cell hJ2.k9 0) (Kd.C_below HR.out hJ2.h.b0) ⟨h2, h1⟩ ⟨hbd.1, by omega⟩)
              rw [show (l1_5.take i).length = i by rw [List.length_take]; omega] at HCF
              go_wp2_with fail
              refine (HCF.out _).mono ?_
              rintro e w9 ⟨rfl, hb⟩
              have HJ9 := Aside0.mk ((JInv.below (W1 := W7.drewN n8) HJ.out (pw_below_drewN (Below.refl _ _) n8)).below hb)
              clear hb HCF hc9 hc2 t0 t1 d0 d1 f0 f1 hk35 hy
              cases ha : (l1_5.take i).any (fun j => (cellAt l0 j).toList == (cellAt l0 x).toList)
              · have HE : Aside0 (hdrData l0 (l1_5.take (i + 1)) (l1_5.drop (i + 1)) = hdrData l0 [] l1_5) := ⟨by rw [HE0.out, ha, HTK.out]; rfl⟩
                have HS2 : Aside0 (∀ y ∈ l1_5.take (i + 1), y < (l0.length : Int)) := ⟨fun y hy => by
                  rw [HTK.out, List.mem_append] at hy
                  rcases hy with h | h
                  · exact HS.out y h
                  · rw [List.mem_singleton.1 h]; omega⟩
                clear HE0 HF HS
                go_wp2
                obtain ⟨k, rfl⟩ : ∃ k, gk = k + 1 := ⟨gk - 1, by have := HK.out; omega⟩
                go_roundg k
                case measure => omega
                case rel => exact ⟨i + 1, by go_num, by omega, ⟨by have := HK.out; omega⟩, HE, HS2, ⟨HJ9.out.h⟩⟩
              · have HE : Aside0 (hdrData l0 [] l1_5 = (1, x + 1, 9)) := ⟨by rw [HE0.out, ha]; rfl⟩
                rw [HE.out] at HU
                obtain ⟨t0, t1, _, _⟩ := cells2 HJ9.out.k10
                obtain ⟨d0, d1, f0, f1⟩ := cells2 HJ9.out.h.k4
                go_wp2
                refine ret_ct2 rfl rfl (put2 HJ9.out.h.k4 _ _) rfl ?_
                cases HU.out
                exact ⟨rfl, below2 HJ9.out.h.b0 (by omega) _ _⟩
        · have HE : Aside0 (hdrData l0 [] l1_5 = (0, 0, 0)) := ⟨by rw [← HF.out, List.drop_of_length_le (by omega)]; rfl⟩
          rw [HE.out] at HU
          obtain ⟨d0, d1, f0, f1⟩ := cells2 HI.out.k4
          go_wp2
          refine ret_ct2 rfl rfl (put2 HI.out.k4 _ _) rfl ?_
          cases HU.out
          exact ⟨rfl, below2 HI.out.b0 (by omega) _ _⟩
end Go.Proofs.YtghjhampigbbkaaGreatDoor.PA
end

/- Texts of this claim, merged by a program: XEvent, XImpP, XImport. -/
import Derived.ArgAppend
import Derived.Below
import Derived.BigQuiet
import Derived.Deep.AppendLies
import Derived.Deep.CutBlock
import Derived.Deep.DeepCutAuto
import Derived.Deep.Draws
import Derived.Deep.LoopGhost
import Derived.Deep.OwnRows
import Derived.Deep.QuietTactic
import Derived.Deep.RegionHeld3
import Derived.Ground.Names2Prog
import Derived.Ground.SlgnProg
import Derived.KernelRfl
import Derived.Laws.BitsLemmas
import Derived.Laws.BytesArg
import Derived.Laws.Cover1
import Derived.Laws.Externs
import Derived.Laws.IdiomCopy
import Derived.Laws.MakeOwn
import Derived.Laws.OwnMore
import Derived.Laws.Rows
import Derived.Laws.Slices
import Derived.Laws.Small
import Derived.Laws.Strings
import Derived.Laws.StructEq
import Derived.Lib.AppendIntMem
import Derived.Lib.AppendStr
import Derived.Lib.Builder
import Derived.Lib.ConvBytes
import Derived.Lib.ItoaMem
import Derived.Lib.MakeNoZero
import Derived.Lib.SliceRun
import Derived.Lib.Slices
import Derived.Lib.Strings
import Derived.Lib.UnsafeStr
import Derived.Lib.Walk
import Derived.Maps.AppendAt
import Derived.OrdersHeld
import Derived.OwnWalk
import Derived.RowKit
import Derived.RowKit3
import Derived.Shelf.Abstract
import Derived.Shelf.SlSortCmp.QuietGrown
import Derived.Shelf.Slices.Cells
import Derived.Shelf.Slices.Clone
import Derived.Shelf.Slices.CompactS
import Derived.Shelf.Slices.In.SortNone
import Derived.Shelf.Slices.SearchI
import Derived.Shelf.Slices.Turned
import Derived.Shelf.SlicesE.Clone
import Derived.Shelf.Small.Bits
import Derived.Shelf.Small.Strs
import Derived.Shelf.Small.Wraps
import Derived.Shelf.Sort.Plain
import Derived.Shelf.Strconv.Atoi
import Derived.Shelf.Strconv.AtoiAll
import Derived.Shelf.Strconv.AtoiErrFast
import Derived.Shelf.Strconv.AtoiFail
import Derived.Shelf.Strconv.AtoiInnerAll
import Derived.Shelf.Strconv.AtoiLong
import Derived.Shelf.Strconv.Clone
import Derived.Shelf.Strconv.ErrVarAll
import Derived.Shelf.Strconv.Itoa0
import Derived.Shelf.Strconv.Itoa1
import Derived.Shelf.Strconv.Itoa2
import Derived.Shelf.Strconv.Itoa3
import Derived.Shelf.Strconv.Lower
import Derived.Shelf.Strconv.ParseInt10
import Derived.Shelf.Strconv.ParseIntEmpty
import Derived.Shelf.Strconv.ParseUint10
import Derived.Shelf.Strconv.ParseUint10Any
import Derived.Shelf.Strconv.ParseUint10Empty
import Derived.Shelf.Strconv.RangeError
import Derived.Shelf.Strconv.SyntaxError
import Derived.Shelf.Strconv.ToError
import Derived.Shelf.Strconv.ToErrorRange
import Derived.Shelf.Strings.Builder1
import Derived.Shelf.Strings.Builder2
import Derived.Shelf.Strings.Builder2Cap
import Derived.Shelf.Strings.BuilderCap
import Derived.Shelf.Strings.BuilderF
import Derived.Shelf.Strings.BuilderK
import Derived.Shelf.Strings.Count
import Derived.Shelf.Strings.Prefix
import Derived.Shelf.Strings.Replace
import Derived.Shelf.Strings.RuneCount
import Derived.Shelf.Strings.Search1
import Derived.Shelf.Strings.Search2
import Derived.Shelf.Strings.Search3
import Derived.Shelf.Strings.Shaped
import Derived.Shelf.Strings.Split
import Derived.Shelf.Strings.SplitShaped
import Derived.Shelf.Unicode.Decode
import Derived.Shelf.Unicode.DecodeAny
import Derived.Shelf.Unicode.DecodeSlow
import Derived.Shelf.Utf8.RuneCount
import Derived.Tactics
import Derived.Test.YtghjhampigbbkaaGreatDoorProg
import Derived.WalkKit
import Derived.WideLaws
import Derived.Test.YtghjhampigbbkaaGreatDoorKW1
import Derived.Test.YtghjhampigbbkaaGreatDoorKW3
import Derived.Test.YtghjhampigbbkaaGreatDoorKW4
import Derived.Test.YtghjhampigbbkaaGreatDoorKW5
import Derived.Test.YtghjhampigbbkaaGreatDoorKW6
import Derived.Test.YtghjhampigbbkaaGreatDoorKW7
import Derived.Test.YtghjhampigbbkaaGreatDoorKW8
import Derived.Test.YtghjhampigbbkaaGreatDoorKW9
import Derived.Test.YtghjhampigbbkaaGreatDoorKW10
import Derived.Test.YtghjhampigbbkaaGreatDoorKW11
import Derived.Test.YtghjhampigbbkaaGreatDoorKW13
import Derived.Test.YtghjhampigbbkaaGreatDoorKW14
import Derived.Test.YtghjhampigbbkaaGreatDoorKW15
import Derived.Test.YtghjhampigbbkaaGreatDoorKW16
import Derived.Test.YtghjhampigbbkaaGreatDoorKW17
import Derived.Test.YtghjhampigbbkaaGreatDoorKW18
import Derived.Test.YtghjhampigbbkaaGreatDoorKW19
set_option linter.unusedVariables false
set_option linter.unusedSimpArgs false
section
namespace Go.Proofs.YtghjhampigbbkaaGreatDoor.PA
open Go.RowKit Go.Sort Go.Proofs.YtghjhampigbbkaaGreatDoorW.PrintWords Go.Proofs.YtghjhampigbbkaaGreatDoorW.PrintLast Go.Proofs.YtghjhampigbbkaaGreatDoorW.PrintMore
def mapCells (c a r l t : Int) (A5 : Option Addr) (n5 c5 : Nat) (A6 : Option Addr) (n6 c6 : Nat) (sp : Int) : Array Value := #[.int .i64 c, .int .i64 a, .int .i64 r, .int .i64 l, .int .i64 t, .slice A5 n5 c5, .slice A6 n6 c6, .int .u8 sp]
structure VInv (w : World) (m ev : Array Value) (W : World) : Prop where
  k0 : W.heap[w.heap.size]? = some (.cells m 33 (0, 0))
  k1 : W.heap[w.heap.size + 1]? = some (.cells #[.string ⟨#[]⟩, .string ⟨#[]⟩, .string ⟨#[]⟩, .int .i64 0, .int .i64 0, .slice none 0 0] 69 (0, 0))
  k2 : W.heap[w.heap.size + 2]? = some (.cells ev 69 (0, 0))
  b0 : Below w.heap.size w W
theorem VInv.below {w : World} {m ev : Array Value} {W W1 : World} (h : VInv w m ev W) (hb : Below W.heap.size W W1) : VInv w m ev W1 :=
  ⟨blk_below h.k0 hb, blk_below h.k1 hb, blk_below h.k2 hb, below_step h.b0 hb⟩
theorem VInv.set {w : World} {m ev ev' : Array Value} {W : World} (h : VInv w m ev W) (i : Nat) (v : Value) (e : ev.setIfInBounds i v = ev') : VInv w m ev' (W.setCell ⟨w.heap.size + 2, i, none⟩ v) :=
  ⟨blk_far h.k0 (p := ⟨w.heap.size + 2, i, none⟩) (show w.heap.size ≠ w.heap.size + 2 by omega) v, blk_far h.k1 (p := ⟨w.heap.size + 2, i, none⟩) (show w.heap.size + 1 ≠ w.heap.size + 2 by omega) v, blk_put h.k2 i v e, below_set h.b0 (by omega)⟩
theorem VInv.keep {w : World} {m ev : Array Value} {W W1 : World} {g : Nat} {cs : Array Value} (h : VInv w m ev W) (hg : W.heap[g]? = some (.cells cs 123 (0, 0))) (hk : KeepBut W W1 g none) (hb : Below w.heap.size w W1) : VInv w m ev W1 :=
  ⟨(hk.2 _ (blk_lt h.k0) (blk_ne h.k0 hg (by decide)) (by simp)).trans h.k0, (hk.2 _ (blk_lt h.k1) (blk_ne h.k1 hg (by decide)) (by simp)).trans h.k1, (hk.2 _ (blk_lt h.k2) (blk_ne h.k2 hg (by decide)) (by simp)).trans h.k2, hb⟩
theorem cells6 {w : World} {g : Nat} {t : TypeId} {a b c d e f : Value} (h : w.heap[g]? = some (.cells #[a, b, c, d, e, f] t (0, 0))) :
    w.cell? ⟨g, 0, none⟩ = some a ∧ w.cell? ⟨g, 1, none⟩ = some b ∧ w.cell? ⟨g, 2, none⟩ = some c ∧ w.cell? ⟨g, 3, none⟩ = some d ∧ w.cell? ⟨g, 4, none⟩ = some e ∧ w.cell? ⟨g, 5, none⟩ = some f :=
  ⟨blk_cell h 0, blk_cell h 1, blk_cell h 2, blk_cell h 3, blk_cell h 4, blk_cell h 5⟩
theorem froz6 {w : World} {g : Nat} {t : TypeId} {cs : Array Value} (h : w.heap[g]? = some (.cells cs t (0, 0))) :
    w.frozen? ⟨g, 0, none⟩ = false ∧ w.frozen? ⟨g, 1, none⟩ = false ∧ w.frozen? ⟨g, 2, none⟩ = false ∧ w.frozen? ⟨g, 3, none⟩ = false ∧ w.frozen? ⟨g, 4, none⟩ = false ∧ w.frozen? ⟨g, 5, none⟩ = false :=
  ⟨blk_frozen h 0, blk_frozen h 1, blk_frozen h 2, blk_frozen h 3, blk_frozen h 4, blk_frozen h 5⟩
def set6 (w : World) (g : Nat) (a b c d e f : Value) : World := (((((w.setCell ⟨g, 0, none⟩ a).setCell ⟨g, 1, none⟩ b).setCell ⟨g, 2, none⟩ c).setCell ⟨g, 3, none⟩ d).setCell ⟨g, 4, none⟩ e).setCell ⟨g, 5, none⟩ f
theorem put6 {w : World} {g : Nat} {t : TypeId} {x0 x1 x2 x3 x4 x5 : Value} (h : w.heap[g]? = some (.cells #[x0, x1, x2, x3, x4, x5] t (0, 0))) (a b c d e f : Value) : (set6 w g a b c d e f).heap[g]? = some (.cells #[a, b, c, d, e, f] t (0, 0)) :=
  blk_put (blk_put (blk_put (blk_put (blk_put (blk_put h 0 _ rfl) 1 _ rfl) 2 _ rfl) 3 _ rfl) 4 _ rfl) 5 _ rfl
theorem below6 {w W : World} {g : Nat} (h : Below w.heap.size w W) (hg : w.heap.size ≤ g) (a b c d e f : Value) : Below w.heap.size w (set6 W g a b c d e f) := below_set (below_set (below_set (below_set (below_set (below_set h hg) hg) hg) hg) hg) hg
theorem ret_c6tt {fn : Func} {q u v : Tmp} {R : Ending → World → Prop} {a : Act} {w : World} {g : Nat} {x0 x1 x2 x3 x4 x5 : Value} (h : fn.results = #[.cell q 69, .tmp u, .tmp v])
    (hp : a.tmps.getD q undef = .pointer (some ⟨g, 0, none⟩)) (hg : w.heap[g]? = some (.cells #[x0, x1, x2, x3, x4, x5] 69 (0, 0))) (hd : a.defers = [])
    (hR : R (.returned (.tuple #[.agg #[x0, x1, x2, x3, x4, x5], a.tmps.getD u undef, a.tmps.getD v undef])) w) : bodyPost Tryz.prog fn R .ret a w :=
  bodyPost_ret (results_ctt h _ _ g 69 #[x0, x1, x2, x3, x4, x5] (0, 0) _ hp hg Tryz.underlying69 rfl (by kernel_rfl)) hd hR
def evPost (w : World) (R : Except (Int × Int) S69) (e : Ending) (w' : World) : Prop :=
  match R with
  | .error (col, er) => (∃ x0 x1 x2 x3 x4 A n cc, e = .returned (.tuple #[.agg #[.string x0, .string x1, .string x2, .int .i64 x3, .int .i64 x4, .slice A n cc], .int .i64 col, .int .i64 er]) ∧ Below w.heap.size w w')
  | .ok ev => (∃ v, e = .returned (.tuple #[.agg #[.string ev.f0, .string ev.f1, .string ev.f2, .int .i64 ev.f3, .int .i64 ev.f4, v], .int .i64 0, .int .i64 0]) ∧ Kd.R k123 123 w' w.heap.size (fun _ => True) v ev.f5 ∧ Below w.heap.size w w')
def resBad (row : List ByteArray) (r : Int) : Bool := decide (0 ≤ r) && (!((cellAt row r).toList == []) && !isNameB (cellAt row r))
def resOf (row : List ByteArray) (r : Int) : ByteArray := if 0 ≤ r then cellAt row r else ⟨#[]⟩
def lifeIx (s : ByteArray) : Int :=
  let x := s.toList
  if x = [115, 99, 104, 101, 100, 117, 108, 101] then 0 else if x = [115, 116, 97, 114, 116] then 1 else if x = [115, 117, 115, 112, 101, 110, 100] then 2
  else if x = [114, 101, 115, 117, 109, 101] then 3 else if x = [99, 111, 109, 112, 108, 101, 116, 101] then 4 else if x = [97, 98, 111, 114, 116] then 5 else -1
def wordsL : List ByteArray := [(⟨#[115, 99, 104, 101, 100, 117, 108, 101]⟩ : ByteArray), (⟨#[115, 116, 97, 114, 116]⟩ : ByteArray), (⟨#[115, 117, 115, 112, 101, 110, 100]⟩ : ByteArray), (⟨#[114, 101, 115, 117, 109, 101]⟩ : ByteArray), (⟨#[99, 111, 109, 112, 108, 101, 116, 101]⟩ : ByteArray), (⟨#[97, 98, 111, 114, 116]⟩ : ByteArray)]
theorem lifeIx_f (s : ByteArray) : slices_Index_string_string.f 10 wordsL s = some (lifeIx s) := by
  have hw : ∀ i : Int, 0 ≤ i ∧ i ≤ 6 → wrap64 (i + 1) = i + 1 := fun i h => by unfold wrap64; omega
  unfold slices_Index_string_string.f lifeIx
  simp only [slices_Index_string_string.l0, wordsL, rdOf, List.length_cons, List.length_nil]
  simp [ByteArray.toList_eq, wrap64]
  repeat' split
  all_goals first | rfl | (simp_all; done)
theorem lifeIx_le (s : ByteArray) : lifeIx s ≤ 5 := by
  unfold lifeIx
  dsimp only
  repeat' split
  all_goals omega
def lifeBad (row : List ByteArray) (l : Int) : Bool := decide (0 ≤ l) && decide (lifeIx (cellAt row l) < 0)
def lifeOf (row : List ByteArray) (l : Int) : Int := if 0 ≤ l then 1 + lifeIx (cellAt row l) else 5
def datR (s : ByteArray) (q : Int) : Int × Int × ByteArray × Int := (imports_datum.f s q).getD (0, 0, ⟨#[]⟩, 11)
def datL (row head : List ByteArray) : List S123 → List Int → List Int → Except (Int × Int) (List S123)
  | acc, k :: ks, q :: qs => if (cellAt row k).toList = [] then datL row head acc ks qs
    else if (datR (cellAt row k) q).2.2.2 = 0 then datL row head (acc ++ [⟨cellAt head k, ⟨(datR (cellAt row k) q).1, (datR (cellAt row k) q).2.1, (datR (cellAt row k) q).2.2.1⟩⟩]) ks qs
    else .error (k, (datR (cellAt row k) q).2.2.2)
  | acc, _, _ => .ok acc
def evF4 (row head : List ByteArray) (c a r l t : Int) (D K : List Int) : Except (Int × Int) S69 :=
  match datL row head [] D K with
  | .error x => .error x
  | .ok fs => .ok ⟨cellAt row c, cellAt row a, resOf row r, lifeOf row l, (natF (cellAt row t)).1, insOut ltF z123 0 (fs.length - 1) 1 fs⟩
def evF3 (row head : List ByteArray) (c a r l t : Int) (D K : List Int) : Except (Int × Int) S69 :=
  if (natF (cellAt row t)).2 = 0 then evF4 row head c a r l t D K else .error (t, (natF (cellAt row t)).2)
def evF2 (row head : List ByteArray) (c a r l t : Int) (D K : List Int) : Except (Int × Int) S69 :=
  if lifeBad row l = true then .error (l, 20) else evF3 row head c a r l t D K
def evF (row head : List ByteArray) (c a r l t : Int) (D K : List Int) : Except (Int × Int) S69 :=
  if isNameB (cellAt row c) = false then .error (c, 8) else if isNameB (cellAt row a) = false then .error (a, 8)
  else if resBad row r = true then .error (r, 8) else evF2 row head c a r l t D K
set_option maxHeartbeats 3200000 in
set_option maxRecDepth 100000 in
theorem event_at (A0 : Option Addr) (c0 : Nat) (row : List ByteArray) (A1 : Option Addr) (c1 : Nat) (head : List ByteArray) (c a r l t : Int) (A5 : Option Addr) (c5 : Nat) (D : List Int) (A6 : Option Addr) (c6 : Nat) (K : List Int) (sp : Int) (w : World) (hLd : Laid w)
    (hr0 : Kd.C Kd.string w A0 row.length row) (hr1 : Kd.C Kd.string w A1 head.length head) (hr5 : Kd.C (Kd.int .i64) w A5 D.length D) (hr6 : Kd.C (Kd.int .i64) w A6 K.length K)
    (hc : 0 ≤ c ∧ c < row.length) (ha : 0 ≤ a ∧ a < row.length) (hrr : r < row.length) (hl : l < row.length) (ht : 0 ≤ t ∧ t < row.length) (hKD : K.length = D.length) (hD : ∀ x ∈ D, 0 ≤ x ∧ x < row.length) (hhl : head.length = row.length) (hd12 : D.length ≤ 12) (hcz : D.length = 0) :
    Calls Tryz.prog 54 #[.slice A0 row.length c0, .slice A1 head.length c1, .agg #[.int .i64 c, .int .i64 a, .int .i64 r, .int .i64 l, .int .i64 t, .slice A5 D.length c5, .slice A6 K.length c6, .int .u8 sp]] w (evPost w (evF row head c a r l t D K)) := by
  have hu33 := Tryz.underlying33
  have hu69 := Tryz.underlying69
  have HR := Aside0.mk hr0
  have HKD := Aside0.mk hKD
  have HHL := Aside0.mk hhl
  have HR1 := Aside0.mk hr1
  have HR5 := Aside0.mk hr5
  have HR6 := Aside0.mk hr6
  have HDD := Aside0.mk hD
  have HLd := Aside0.mk hLd
  have HCZ := Aside0.mk hcz
  clear hKD hhl hr0 hr1 hr5 hr6 hD hLd hcz
  have p1 := eq_true hc.1
  have p2 := eq_true hc.2
  have p3 := eq_true ha.1
  have p4 := eq_true ha.2
  go_enter Tryz.func54, Tryz.ntmps54
  go_upto_region 1 with fail
  have hW : ∀ o1 o2, w.heap.size + 2 = ((w.alloc o1).alloc o2).heap.size ∧ ((w.alloc o1).alloc o2).heap[w.heap.size]? = some o1 ∧ ((w.alloc o1).alloc o2).heap[w.heap.size + 1]? = some o2 ∧ Below w.heap.size w ((w.alloc o1).alloc o2) := fun o1 o2 =>
    have h := two_new (Below.refl _ ((w.alloc o1).alloc o2))
    ⟨by rw [size_alloc, size_alloc], h.1, h.2.1, h.2.2⟩
  have h0 := hW (.cells #[.int .i64 c, .int .i64 a, .int .i64 r, .int .i64 l, .int .i64 t, .slice A5 D.length c5, .slice A6 K.length c6, .int .u8 sp] 33) (.cells #[.string ⟨#[]⟩, .string ⟨#[]⟩, .string ⟨#[]⟩, .int .i64 0, .int .i64 0, .slice none 0 0] 69)
  clear hW
  generalize (w.alloc (.cells #[.int .i64 c, .int .i64 a, .int .i64 r, .int .i64 l, .int .i64 t, .slice A5 D.length c5, .slice A6 K.length c6, .int .u8 sp] 33)).alloc (.cells #[.string ⟨#[]⟩, .string ⟨#[]⟩, .string ⟨#[]⟩, .int .i64 0, .int .i64 0, .slice none 0 0] 69) = W1 at h0 ⊢
  have H0 := Aside0.mk h0
  clear h0
  obtain ⟨ad, e1, hx⟩ := Kd.at_string (Kd.C_below HR.out H0.out.2.2.2) c hc.1 hc.2
  cases e1
  obtain ⟨ad2, e1, hy⟩ := Kd.at_string (Kd.C_below HR.out H0.out.2.2.2) a ha.1 ha.2
  cases e1
  have q0 : W1.cell? ⟨w.heap.size, 0, none⟩ = some (.int .i64 c) := blk_cell H0.out.2.1 0
  have q1 : W1.cell? ⟨w.heap.size, 1, none⟩ = some (.int .i64 a) := blk_cell H0.out.2.1 1
  have hA := fun {a : Addr} {v : Value} (h : W1.cell? a = some v) => pw_cell_below (below_alloc (Below.refl W1.heap.size W1) (.cells #[.string ⟨#[]⟩, .string ⟨#[]⟩, .string ⟨#[]⟩, .int .i64 0, .int .i64 0, .slice none 0 0] 69)) h
  have hx2 := hA hx
  have hy2 := hA hy
  have q02 := hA q0
  have q12 := hA q1
  have hsz : W1.heap.size = w.heap.size + 2 := H0.out.1.symm
  clear hA
  go_region
  have hcc : rdOf ByteArray.empty row c = cellAt row c := rfl
  have hca : rdOf ByteArray.empty row a = cellAt row a := rfl
  rw [hcc, hca]
  have hV : VInv w (mapCells c a r l t A5 D.length c5 A6 K.length c6 sp) #[.string (cellAt row c), .string (cellAt row a), .string ⟨#[]⟩, .int .i64 5, .int .i64 0, .slice none 0 0] (W1.alloc (.cells #[.string (cellAt row c), .string (cellAt row a), .string ⟨#[]⟩, .int .i64 5, .int .i64 0, .slice none 0 0] 69)).drew := by
    have hb := below_alloc (Below.refl W1.heap.size W1) (.cells #[.string (cellAt row c), .string (cellAt row a), .string ⟨#[]⟩, .int .i64 5, .int .i64 0, .slice none 0 0] 69)
    have h2 := blk_new W1 (.cells #[.string (cellAt row c), .string (cellAt row a), .string ⟨#[]⟩, .int .i64 5, .int .i64 0, .slice none 0 0] 69)
    rw [hsz] at h2
    exact ⟨blk_drew (blk_below H0.out.2.1 hb), blk_drew (blk_below H0.out.2.2.1 hb), blk_drew h2, below_drew (below_step H0.out.2.2.2 hb)⟩
  generalize (W1.alloc (.cells #[.string (cellAt row c), .string (cellAt row a), .string ⟨#[]⟩, .int .i64 5, .int .i64 0, .slice none 0 0] 69)).drew = W2 at hV ⊢
  have HV := Aside0.mk hV
  clear hV hx hy q0 q1 hx2 hy2 q02 q12 hsz H0 hcc hca p1 p2 p3 p4
  obtain ⟨v0, v1, v2, v3, v4, v5⟩ := cells6 HV.out.k2
  go_wp2_with fail
  refine (name_call (cellAt row c) _).mono ?_
  rintro e w3 ⟨rfl, ⟨n3, rfl⟩⟩
  cases hn1 : isNameB (cellAt row c)
  · have HE : Aside0 (evF row head c a r l t D K = .error (c, 8)) := ⟨by unfold evF; rw [if_pos hn1]⟩
    obtain ⟨z0, z1, z2, z3, z4, z5⟩ := cells6 HV.out.k1
    obtain ⟨f0, f1, f2, f3, f4, f5⟩ := froz6 HV.out.k1
    obtain ⟨v0, v1, v2, v3, v4, v5⟩ := cells6 HV.out.k2
    have q0 : W2.cell? ⟨w.heap.size, 0, none⟩ = some (.int .i64 c) := blk_cell HV.out.k0 0
    go_wp2_with fail
    go_region
    all_goals
      go_wp2
      refine ret_c6tt rfl rfl (put6 (HV.out.below (pw_below_drewN (Below.refl _ _) _)).k1 _ _ _ _ _ _) rfl ?_
      rw [HE.out]
      exact ⟨_, _, _, _, _, _, _, _, rfl, below6 (HV.out.below (pw_below_drewN (Below.refl _ _) _)).b0 (by omega) _ _ _ _ _ _⟩
  go_wp2_with fail
  refine (name_call (cellAt row a) _).mono ?_
  rintro e w4 ⟨rfl, ⟨n4, rfl⟩⟩
  cases hn2 : isNameB (cellAt row a)
  · have HE : Aside0 (evF row head c a r l t D K = .error (a, 8)) := ⟨by unfold evF; rw [if_neg (by rw [hn1]; decide), if_pos hn2]⟩
    obtain ⟨z0, z1, z2, z3, z4, z5⟩ := cells6 HV.out.k1
    obtain ⟨f0, f1, f2, f3, f4, f5⟩ := froz6 HV.out.k1
    obtain ⟨v0, v1, v2, v3, v4, v5⟩ := cells6 HV.out.k2
    have q0 : W2.cell? ⟨w.heap.size, 1, none⟩ = some (.int .i64 a) := blk_cell HV.out.k0 1
    go_wp2_with fail
    go_region
    all_goals
      go_wp2
      refine ret_c6tt rfl rfl (put6 (HV.out.below (pw_below_drewN (Below.refl _ _) _)).k1 _ _ _ _ _ _) rfl ?_
      rw [HE.out]
      exact ⟨_, _, _, _, _, _, _, _, rfl, below6 (HV.out.below (pw_below_drewN (Below.refl _ _) _)).b0 (by omega) _ _ _ _ _ _⟩
  have HE1 : Aside0 (evF row head c a r l t D K = if resBad row r = true then .error (r, 8) else evF2 row head c a r l t D K) := ⟨by unfold evF; rw [if_neg (by rw [hn1]; decide), if_neg (by rw [hn2]; decide)]⟩
  clear hn1 hn2 v0 v1 v2 v3 v4 v5
  have q2 : W2.cell? ⟨w.heap.size, 2, none⟩ = some (.int .i64 r) := blk_cell HV.out.k0 2
  go_upto_if 46 with fail
  go_cut [] (fun wx => Aside0 (resBad row r = false) ∧ Aside0 (VInv w (mapCells c a r l t A5 D.length c5 A6 K.length c6 sp) #[.string (cellAt row c), .string (cellAt row a), .string (resOf row r), .int .i64 5, .int .i64 0, .slice none 0 0] wx))
  case first =>
    by_cases hrz : 0 ≤ r
    · obtain ⟨ad9, e9, hx⟩ := Kd.at_string (Kd.C_below HR.out HV.out.b0) r hrz hrr
      cases e9
      have hnm : rdOf ByteArray.empty row r = cellAt row r := rfl
      rw [hnm] at hx
      have hres : resOf row r = cellAt row r := if_pos hrz
      obtain ⟨v0, v1, v2, v3, v4, v5⟩ := cells6 HV.out.k2
      have fz := blk_frozen HV.out.k2 2
      have HV5 := Aside0.mk fun n => (VInv.below (W1 := W2.drewN n) HV.out (pw_below_drewN (Below.refl _ _) n)).set 2 (.string (cellAt row r)) rfl
      go_upto_region 8 with fail
      have HV6 := Aside0.mk (HV5.out (n3 + n4))
      generalize (W2.drewN (n3 + n4)).setCell ⟨w.heap.size + 2, 2, none⟩ (.string (cellAt row r)) = W5 at HV6 ⊢
      clear HV5 v0 v1 v2 v3 v4 v5 fz q2 hx
      obtain ⟨v0, v1, v2, v3, v4, v5⟩ := cells6 HV6.out.k2
      by_cases hem : (cellAt row r).toList = []
      · have t1 : ((cellAt row r).toList == []) = true := by rw [hem]; rfl
        have hok : resBad row r = false := by unfold resBad; rw [t1]; simp
        go_wp2
        go_meet
        case rel => exact ⟨⟨hok⟩, ⟨by rw [hres]; exact HV6.out⟩⟩
      · have t1 : ((cellAt row r).toList == []) = false := beq_false_of_ne hem
        go_wp2_with fail
        refine (name_call (cellAt row r) _).mono ?_
        rintro e w6 ⟨rfl, ⟨n6, rfl⟩⟩
        cases hn3 : isNameB (cellAt row r)
        · have HE : Aside0 (evF row head c a r l t D K = .error (r, 8)) := ⟨by rw [HE1.out, if_pos (by unfold resBad; rw [t1, hn3, decide_eq_true hrz]; rfl)]⟩
          obtain ⟨z0, z1, z2, z3, z4, z5⟩ := cells6 HV6.out.k1
          obtain ⟨f0, f1, f2, f3, f4, f5⟩ := froz6 HV6.out.k1
          obtain ⟨v0, v1, v2, v3, v4, v5⟩ := cells6 HV6.out.k2
          have q0 : W5.cell? ⟨w.heap.size, 2, none⟩ = some (.int .i64 r) := blk_cell HV6.out.k0 2
          go_wp2_with fail
          go_region
          all_goals
            go_wp2
            refine ret_c6tt rfl rfl (put6 (HV6.out.below (pw_below_drewN (Below.refl _ _) _)).k1 _ _ _ _ _ _) rfl ?_
            rw [HE.out]
            exact ⟨_, _, _, _, _, _, _, _, rfl, below6 (HV6.out.below (pw_below_drewN (Below.refl _ _) _)).b0 (by omega) _ _ _ _ _ _⟩
        · have hok : resBad row r = false := by unfold resBad; rw [hn3]; simp
          go_wp2
          go_meet
          case rel => exact ⟨⟨hok⟩, ⟨by rw [hres]; exact HV6.out.below (pw_below_drewN (Below.refl _ _) _)⟩⟩
    · have hres : resOf row r = ⟨#[]⟩ := if_neg hrz
      have hok : resBad row r = false := by unfold resBad; rw [decide_eq_false hrz]; rfl
      go_wp2
      go_meet
      case rel => exact ⟨⟨hok⟩, ⟨by rw [hres]; exact HV.out.below (pw_below_drewN (Below.refl _ _) _)⟩⟩
  case rest =>
    obtain ⟨hok3, HV7⟩ := hcut
    have HE2 : Aside0 (evF row head c a r l t D K = evF2 row head c a r l t D K) := ⟨by rw [HE1.out, if_neg (by rw [hok3.out]; decide)]⟩
    clear HE1 hok3 q2 HV
    have q3 : wc.cell? ⟨w.heap.size, 3, none⟩ = some (.int .i64 l) := blk_cell HV7.out.k0 3
    go_upto_if 67 with fail
    go_cut [] (fun wx => Aside0 (lifeBad row l = false) ∧ Aside0 (VInv w (mapCells c a r l t A5 D.length c5 A6 K.length c6 sp) #[.string (cellAt row c), .string (cellAt row a), .string (resOf row r), .int .i64 (lifeOf row l), .int .i64 0, .slice none 0 0] wx))
    case first =>
      by_cases hlz : 0 ≤ l
      · obtain ⟨ad9, e9, hx⟩ := Kd.at_string (Kd.C_below HR.out HV7.out.b0) l hlz hl
        cases e9
        have hnm : rdOf ByteArray.empty row l = cellAt row l := rfl
        rw [hnm] at hx
        go_upto_region 11 with fail
        go_cut [10] (fun v10 wx => v10 = .int .i64 (lifeIx (cellAt row l)) ∧ Aside0 (VInv w (mapCells c a r l t A5 D.length c5 A6 K.length c6 sp) #[.string (cellAt row c), .string (cellAt row a), .string (resOf row r), .int .i64 5, .int .i64 0, .slice none 0 0] wx))
        case first =>
          go_region_with (first | (go_at_call 98; refine (imports_words.calls wordsL _ rfl).mono ?_; rintro e w8 ⟨v8, rfl, ho, hb⟩; obtain ⟨A8, c8, rfl, hc8, hC8⟩ := Kd.R_reads ho; have hx8 := pw_cell_below hb hx; have q38 := pw_cell_below hb q3; clear ho) | (go_at_call 97; refine (slices_Index_string_string.calls 10 _ _ wordsL (cellAt row l) _ _ hC8 hc8 (lifeIx_f _)).mono ?_; rintro e w9 ⟨rfl, ⟨n9, rfl⟩⟩))
          all_goals
            go_wp2_with fail
            go_meet
            case rel => exact ⟨rfl, ⟨((HV7.out.below (W1 := wc.drew) (below_drew (Below.refl _ _))).below hb).below (pw_below_drewN (Below.refl _ _) _)⟩⟩
        case rest =>
          obtain ⟨rfl, HV9⟩ := hcut
          rename World => wd
          clear hx q3 hnm
          by_cases hneg : lifeIx (cellAt row l) < 0
          · have HE : Aside0 (evF row head c a r l t D K = .error (l, 20)) := ⟨by rw [HE2.out]; unfold evF2; rw [if_pos (by unfold lifeBad; rw [decide_eq_true hlz, decide_eq_true hneg]; rfl)]⟩
            obtain ⟨z0, z1, z2, z3, z4, z5⟩ := cells6 HV9.out.k1
            obtain ⟨f0, f1, f2, f3, f4, f5⟩ := froz6 HV9.out.k1
            obtain ⟨v0, v1, v2, v3, v4, v5⟩ := cells6 HV9.out.k2
            have q0 : wd.cell? ⟨w.heap.size, 3, none⟩ = some (.int .i64 l) := blk_cell HV9.out.k0 3
            go_wp2_with fail
            go_region
            all_goals
              go_wp2
              refine ret_c6tt rfl rfl (blk_drew (put6 HV9.out.k1 _ _ _ _ _ _)) rfl ?_
              rw [HE.out]
              exact ⟨_, _, _, _, _, _, _, _, rfl, below_drew (below6 HV9.out.b0 (by omega) _ _ _ _ _ _)⟩
          · have hok : lifeBad row l = false := by unfold lifeBad; rw [decide_eq_false hneg, Bool.and_false]
            have hlo : lifeOf row l = 1 + lifeIx (cellAt row l) := if_pos hlz
            have hub : lifeIx (cellAt row l) ≤ 5 := lifeIx_le _
            have hwr : wrap64 (1 + lifeIx (cellAt row l)) = 1 + lifeIx (cellAt row l) := by unfold wrap64; omega
            have fz := blk_frozen HV9.out.k2 3
            obtain ⟨v0, v1, v2, v3, v4, v5⟩ := cells6 HV9.out.k2
            have HV10 := Aside0.mk (HV9.out.set 3 (.int .i64 (1 + lifeIx (cellAt row l))) rfl)
            go_wp2_with fail
            go_meet
            case rel => exact ⟨⟨hok⟩, ⟨by rw [hlo]; exact HV10.out⟩⟩
      · have hok : lifeBad row l = false := by unfold lifeBad; rw [decide_eq_false hlz]; rfl
        have hlo : lifeOf row l = 5 := if_neg hlz
        go_wp2
        go_meet
        case rel => exact ⟨⟨hok⟩, ⟨by rw [hlo]; exact HV7.out⟩⟩
    case rest =>
      obtain ⟨hok4, HV11⟩ := hcut
      rename World => we
      have HE3 : Aside0 (evF row head c a r l t D K = evF3 row head c a r l t D K) := ⟨by rw [HE2.out]; unfold evF2; rw [if_neg (by rw [hok4.out]; decide)]⟩
      clear HE2 hok4 q3 HV7
      have q4 : we.cell? ⟨w.heap.size, 4, none⟩ = some (.int .i64 t) := blk_cell HV11.out.k0 4
      obtain ⟨ad9, e9, hx⟩ := Kd.at_string (Kd.C_below HR.out HV11.out.b0) t ht.1 ht.2
      cases e9
      have hnm : rdOf ByteArray.empty row t = cellAt row t := rfl
      rw [hnm] at hx
      have p1 := eq_true ht.1
      have p2 := eq_true ht.2
      go_wp2_with fail
      refine (imports_natural.calls (cellAt row t) (natF (cellAt row t)).1 (natF (cellAt row t)).2 _ (HLd.out.below HV11.out.b0) rfl).mono ?_
      rintro e w12 ⟨rfl, hb⟩
      have HV12 := Aside0.mk (HV11.out.below hb)
      clear hb hx q4 hnm p1 p2 HV11
      by_cases hne : (natF (cellAt row t)).2 = 0
      · have t1 : ((natF (cellAt row t)).2 != 0) = false := by rw [hne]; rfl
        have HE4 : Aside0 (evF row head c a r l t D K = evF4 row head c a r l t D K) := ⟨by rw [HE3.out]; unfold evF3; rw [if_pos hne]⟩
        have fz := blk_frozen HV12.out.k2 4
        obtain ⟨v0, v1, v2, v3, v4, v5⟩ := cells6 HV12.out.k2
        have HV13 := Aside0.mk (HV12.out.set 4 (.int .i64 (natF (cellAt row t)).1) rfl)
        clear HE3
        go_upto_region 19 with fail
        clear HV12 v0 v1 v2 v3 v4 v5 fz hne t1
        generalize w12.setCell ⟨w.heap.size + 2, 4, none⟩ (.int .i64 (natF (cellAt row t)).1) = wf at HV13 ⊢
        have q5 : wf.cell? ⟨w.heap.size, 5, none⟩ = some (.slice A5 D.length c5) := blk_cell HV13.out.k0 5
        have hdn : D.length ≤ 9223372036854775807 := HR5.out.2.1
        go_wp2_with fail
        clear q5
        go_loopg [13, 14, 15, 16, 103] D.length (fun kq v13 v14 v15 v16 v103 W => ∃ (i : Nat) (acc : List S123) (v : Value), v103 = .int .i64 (i : Int) ∧ i ≤ D.length ∧ Aside0 (kq + i = D.length) ∧ Aside0 (acc.length ≤ i) ∧ Aside0 (datL row head acc (D.drop i) (K.drop i) = datL row head [] D K) ∧ Aside0 (VInv w (mapCells c a r l t A5 D.length c5 A6 K.length c6 sp) #[.string (cellAt row c), .string (cellAt row a), .string (resOf row r), .int .i64 (lifeOf row l), .int .i64 (natF (cellAt row t)).1, v] W) ∧ Aside0 (Kd.R k123 123 W w.heap.size (fun _ => True) v acc))
        case atStart => exact ⟨0, [], .slice none 0 0, rfl, Nat.zero_le _, ⟨by omega⟩, ⟨Nat.zero_le _⟩, ⟨rfl⟩, HV13, ⟨Kd.R_nil _ _ _ _ _⟩⟩
        case round =>
          clear HV13
          obtain ⟨i, acc, v, rfl, hi, HK, HA, HDL, HV, HO⟩ := hrel
          obtain ⟨Av, cv, rfl⟩ := Kd.R_slice HO.out
          by_cases hlt : i < D.length
          · exact absurd hlt (by have := HCZ.out; omega)
          · have HE : Aside0 (datL row head [] D K = .ok acc) := ⟨by rw [← HDL.out, List.drop_of_length_le (by omega)]; rfl⟩
            obtain ⟨v0, v1, v2, v3, v4, v5⟩ := cells6 HV.out.k2
            have HL12 : Aside0 (acc.length ≤ 12) := ⟨by have := HA.out; omega⟩
            clear HDL HA
            cases acc with
            | nil =>
              have HE5 : Aside0 (evF row head c a r l t D K = .ok ⟨cellAt row c, cellAt row a, resOf row r, lifeOf row l, (natF (cellAt row t)).1, []⟩) := ⟨by rw [HE4.out]; unfold evF4; rw [HE.out]; rfl⟩
              obtain ⟨z0, z1, z2, z3, z4, z5⟩ := cells6 HV.out.k1
              obtain ⟨f0, f1, f2, f3, f4, f5⟩ := froz6 HV.out.k1
              go_wp2_with fail
              refine (SortFunc_nilF Av cv _).mono ?_
              rintro e w20 ⟨rfl, rfl⟩
              go_wp2
              refine ret_c6tt rfl rfl (put6 HV.out.k1 _ _ _ _ _ _) rfl ?_
              rw [HE5.out]
              exact ⟨_, rfl, RF_set6 HO.out HV.out.k1 _ _ _ _ _ _, below6 HV.out.b0 (by omega) _ _ _ _ _ _⟩
            | cons y ys =>
              generalize hac : y :: ys = acc at *
              have hne0 : 0 < acc.length := by rw [← hac]; simp
              clear hac
              obtain ⟨g0, cap0, he0, _⟩ := Kd.R_form HO.out hne0
              cases he0
              obtain ⟨g1, tail, hg1, _, hb1, _, hcp, hmx, htl, hblk⟩ := R_blkF HO.out
              cases hg1
              have HB1 := Aside0.mk hblk
              have HSF := Aside0.mk (SortFunc_F g0 cv z123 acc tail w wr hblk HV.out.b0 hb1 (by have := HL12.out; omega))
              have HLN := Aside0.mk (insOut_length ltF z123 0 (acc.length - 1) 1 acc)
              have HE5 : Aside0 (evF row head c a r l t D K = .ok ⟨cellAt row c, cellAt row a, resOf row r, lifeOf row l, (natF (cellAt row t)).1, insOut ltF z123 0 (acc.length - 1) 1 acc⟩) := ⟨by rw [HE4.out]; unfold evF4; rw [HE.out]⟩
              generalize insOut ltF z123 0 (acc.length - 1) 1 acc = srt at HSF HE5 HLN
              clear hblk
              go_wp2_with fail
              refine HSF.out.mono ?_
              rintro e w20 ⟨rfl, h1, h2, h3⟩
              have HV20 := Aside0.mk (HV.out.keep HB1.out h3 h2)
              have hRs := blk_RF h1 hb1 (by rw [HLN.out]; exact hcp) hmx (by rw [HLN.out]; exact htl)
              rw [HLN.out] at hRs
              have HRS := Aside0.mk hRs
              clear h1 h2 h3 hRs HV v0 v1 v2 v3 v4 v5 HSF
              obtain ⟨v0, v1, v2, v3, v4, v5⟩ := cells6 HV20.out.k2
              obtain ⟨z0, z1, z2, z3, z4, z5⟩ := cells6 HV20.out.k1
              obtain ⟨f0, f1, f2, f3, f4, f5⟩ := froz6 HV20.out.k1
              go_wp2
              refine ret_c6tt rfl rfl (put6 HV20.out.k1 _ _ _ _ _ _) rfl ?_
              rw [HE5.out]
              exact ⟨_, rfl, RF_set6 HRS.out HV20.out.k1 _ _ _ _ _ _, below6 HV20.out.b0 (by omega) _ _ _ _ _ _⟩
      · have t1 : ((natF (cellAt row t)).2 != 0) = true := bne_iff_ne.2 hne
        have HE : Aside0 (evF row head c a r l t D K = .error (t, (natF (cellAt row t)).2)) := ⟨by rw [HE3.out]; unfold evF3; rw [if_neg hne]⟩
        obtain ⟨z0, z1, z2, z3, z4, z5⟩ := cells6 HV12.out.k1
        obtain ⟨f0, f1, f2, f3, f4, f5⟩ := froz6 HV12.out.k1
        obtain ⟨v0, v1, v2, v3, v4, v5⟩ := cells6 HV12.out.k2
        have q0 : w12.cell? ⟨w.heap.size, 4, none⟩ = some (.int .i64 t) := blk_cell HV12.out.k0 4
        go_wp2_with fail
        go_region
        all_goals
          go_wp2
          refine ret_c6tt rfl rfl (blk_drew (put6 HV12.out.k1 _ _ _ _ _ _)) rfl ?_
          rw [HE.out]
          exact ⟨_, _, _, _, _, _, _, _, rfl, below_drew (below6 HV12.out.b0 (by omega) _ _ _ _ _ _)⟩
end Go.Proofs.YtghjhampigbbkaaGreatDoor.PA
end
section
namespace Go.Proofs.YtghjhampigbbkaaGreatDoor.PA
open Go.RowKit Go.Sort Go.Proofs.YtghjhampigbbkaaGreatDoorW.PrintWords Go.Proofs.YtghjhampigbbkaaGreatDoorW.PrintLast Go.Proofs.YtghjhampigbbkaaGreatDoorW.PrintMore
theorem tabL_len (sp : Int) : ∀ (n : Nat) (acc : List (List ByteArray)) (l : List UInt8), acc.length ≤ 2001 → (tabL sp n acc l).1.length ≤ 2001 := by
  intro n
  induction n with
  | zero => intro acc l _; unfold tabL; simp
  | succ n ih =>
    intro acc l h
    unfold tabL
    split
    · exact h
    · split
      · simp
      · split
        · exact ih _ _ (by rw [List.length_append]; simp; omega)
        · simp
theorem cellsF_len (s : ByteArray) (sp : Int) : (cellsF s sp).1.length ≤ 2001 := by
  unfold cellsF
  split
  · simp
  · split
    · simp
    · unfold tabR
      split
      · exact tabL_len sp _ [] _ (by simp)
      · simp
theorem hdrData_ok (row : List ByteArray) : ∀ (D seen : List Int), (hdrData row seen D).2.2 = 0 → ∀ x ∈ D, x < row.length := by
  intro D
  induction D with
  | nil => intro seen _ x hx; cases hx
  | cons k ks ih =>
    intro seen h x hx
    unfold hdrData at h
    split at h
    · cases h
    · split at h
      · cases h
      · split at h
        · cases h
        · rcases List.mem_cons.1 hx with rfl | hx
          · omega
          · exact ih _ h x hx
theorem hdrF_ok {row : List ByteArray} {c a r l t : Int} {D : List Int} (h : (hdrF row c a r l t D).2.2 = 0) :
    c < row.length ∧ a < row.length ∧ r < row.length ∧ l < row.length ∧ t < row.length ∧ ∀ x ∈ D, x < row.length := by
  unfold hdrF at h
  split at h
  · cases h
  · rename_i hf
    have hn := List.find?_eq_none.1 hf
    have hk : ∀ k, k ∈ [c, a, r, l, t] → k < row.length := by
      intro k hk
      by_cases h0 : k < 0
      · omega
      · have hm : k ∈ fieldsL c a r l t := by
          unfold fieldsL
          refine List.mem_filter.2 ⟨hk, ?_⟩
          simp only [neg1]
          simpa using h0
        have := hn k hm
        simp only [decide_eq_true_iff] at this
        omega
    exact ⟨hk c (by simp), hk a (by simp), hk r (by simp), hk l (by simp), hk t (by simp), hdrData_ok row D [] h⟩
theorem resBad_ge {row : List ByteArray} {r : Int} (h : resBad row r = true) : 0 ≤ r := by
  unfold resBad at h
  rw [Bool.and_eq_true] at h
  exact of_decide_eq_true h.1
theorem lifeBad_ge {row : List ByteArray} {r : Int} (h : lifeBad row r = true) : 0 ≤ r := by
  unfold lifeBad at h
  rw [Bool.and_eq_true] at h
  exact of_decide_eq_true h.1
theorem datL_err (row head : List ByteArray) : ∀ (D K : List Int) (acc : List S123) (x : Int × Int), datL row head acc D K = .error x → x.2 ≠ 0 ∧ x.1 ∈ D := by
  intro D
  induction D with
  | nil => intro K acc x h; unfold datL at h; cases h
  | cons k ks ih =>
    intro K acc x h
    cases K with
    | nil => unfold datL at h; cases h
    | cons q qs =>
      unfold datL at h
      split at h
      · have := ih _ _ _ h; exact ⟨this.1, List.mem_cons_of_mem _ this.2⟩
      · split at h
        · have := ih _ _ _ h; exact ⟨this.1, List.mem_cons_of_mem _ this.2⟩
        · rename_i hne; cases h; exact ⟨hne, List.mem_cons_self ..⟩
theorem evF_err {row head : List ByteArray} {c a r l t : Int} {D K : List Int} {x : Int × Int} (h : evF row head c a r l t D K = .error x) : x.2 ≠ 0 ∧ x.1 ∈ [c, a, r, l, t] ++ D ∧ (0 ≤ c → 0 ≤ a → 0 ≤ t → (∀ d ∈ D, 0 ≤ d) → 0 ≤ x.1) := by
  unfold evF at h
  split at h
  · cases h; exact ⟨by simp, by simp, fun h _ _ _ => h⟩
  · split at h
    · cases h; exact ⟨by simp, by simp, fun _ h _ _ => h⟩
    · split at h
      · rename_i hb; cases h; exact ⟨by simp, by simp, fun _ _ _ _ => resBad_ge hb⟩
      · unfold evF2 at h
        split at h
        · rename_i hb; cases h; exact ⟨by simp, by simp, fun _ _ _ _ => lifeBad_ge hb⟩
        · unfold evF3 at h
          split at h
          · unfold evF4 at h
            split at h
            · rename_i y hy
              cases h
              have := datL_err _ _ _ _ _ _ hy
              exact ⟨this.1, List.mem_append_right _ this.2, fun _ _ _ h => h _ this.2⟩
            · cases h
          · rename_i hne; cases h; exact ⟨hne, by simp, fun _ _ h _ => h⟩
def EvOut (R : Except (Int × Int) S69) (W : World) (base : Nat) (x0 x1 x2 : ByteArray) (x3 x4 : Int) (v : Value) (col er : Int) : Prop :=
  match R with
  | .error y => col = y.1 ∧ er = y.2
  | .ok ev => x0 = ev.f0 ∧ x1 = ev.f1 ∧ x2 = ev.f2 ∧ x3 = ev.f3 ∧ x4 = ev.f4 ∧ col = 0 ∧ er = 0 ∧ Kd.R k123 123 W base (fun k => ∃ cells, W.heap[k]? = some (.cells cells 123 (0, 0))) v ev.f5
theorem R_ty {W : World} {base B : Nat} {v : Value} {xs : List S123} (h : Kd.R k123 123 W B (fun _ => True) v xs) (hB : base ≤ B) : Kd.R k123 123 W base (fun k => ∃ cells, W.heap[k]? = some (.cells cells 123 (0, 0))) v xs :=
  Kd.R_mono (Kd.R_bound (Kd.R_lower h hB)) (fun k hk => by
    obtain ⟨_, _, _, q, hq, cells, hc⟩ := hk
    have e : q = 123 := by simpa [k123, Kd.iso, Kd.pair, Kd.string, Kd.scalar, k121, Kd.int] using hq
    rw [e] at hc
    exact ⟨cells, hc⟩)
theorem evPost_any {w : World} {R : Except (Int × Int) S69} {e : Ending} {w' : World} {base : Nat} (hB : base ≤ w.heap.size) (h : evPost w R e w') :
    ∃ x0 x1 x2 x3 x4 A n cc col er, e = .returned (.tuple #[.agg #[.string x0, .string x1, .string x2, .int .i64 x3, .int .i64 x4, .slice A n cc], .int .i64 col, .int .i64 er]) ∧ EvOut R w' base x0 x1 x2 x3 x4 (.slice A n cc) col er ∧ Below w.heap.size w w' := by
  cases R with
  | error y =>
    obtain ⟨x0, x1, x2, x3, x4, A, n, cc, rfl, hb⟩ := h
    exact ⟨x0, x1, x2, x3, x4, A, n, cc, _, _, rfl, ⟨rfl, rfl⟩, hb⟩
  | ok ev =>
    obtain ⟨v, rfl, hv, hb⟩ := h
    obtain ⟨A, cc, rfl⟩ := Kd.R_slice hv
    exact ⟨_, _, _, _, _, A, _, cc, _, _, rfl, ⟨rfl, rfl, rfl, rfl, rfl, rfl, rfl, R_ty hv hB⟩, hb⟩
theorem evPost_any2 {w0 wr w : World} {R : Except (Int × Int) S69} {e : Ending} {w' : World} (hZ : w0.heap.size ≤ wr.heap.size) (h : evPost w R e w') (hw : wr.heap.size ≤ w.heap.size) :
    ∃ x0 x1 x2 x3 x4 A n cc col er, e = .returned (.tuple #[.agg #[.string x0, .string x1, .string x2, .int .i64 x3, .int .i64 x4, .slice A n cc], .int .i64 col, .int .i64 er]) ∧ EvOut R w' w0.heap.size x0 x1 x2 x3 x4 (.slice A n cc) col er ∧ Below w.heap.size w w' := evPost_any (Nat.le_trans hZ hw) h
theorem EvOut.below {R : Except (Int × Int) S69} {W W1 : World} {base : Nat} {x0 x1 x2 : ByteArray} {x3 x4 : Int} {v : Value} {col er : Int} (h : EvOut R W base x0 x1 x2 x3 x4 v col er) (hb : Below W.heap.size W W1) : EvOut R W1 base x0 x1 x2 x3 x4 v col er := by
  cases R with
  | error y =>
    have h' : col = y.1 ∧ er = y.2 := h
    exact h'
  | ok ev =>
    obtain ⟨h0, h1, h2, h3, h4, h5, h6, h7⟩ := h
    exact ⟨h0, h1, h2, h3, h4, h5, h6, Kd.R_mono (Kd.R_below (Kd.R_bound h7) hb) (fun k hk => by
      obtain ⟨⟨cells, hc⟩, _, hlt, _⟩ := hk
      exact ⟨cells, (hb.block k hlt).trans hc⟩)⟩
theorem EvOut_set6 {R : Except (Int × Int) S69} {W : World} {base g : Nat} {x0 x1 x2 : ByteArray} {x3 x4 : Int} {v : Value} {col er : Int} {cs : Array Value} (h : EvOut R W base x0 x1 x2 x3 x4 v col er) (hg : W.heap[g]? = some (.cells cs 69 (0, 0))) (a b c d e f : Value) : EvOut R (set6 W g a b c d e f) base x0 x1 x2 x3 x4 v col er := by
  cases R with
  | error y =>
    have h' : col = y.1 ∧ er = y.2 := h
    exact h'
  | ok ev =>
    obtain ⟨h0, h1, h2, h3, h4, h5, h6, h7⟩ := h
    refine ⟨h0, h1, h2, h3, h4, h5, h6, ?_⟩
    have hk : ∀ k, k ≠ g → (PA.set6 W g a b c d e f).heap[k]? = W.heap[k]? := fun k hk => by
      unfold PA.set6
      rw [Below.heap_setCell _ _ _ _ hk, Below.heap_setCell _ _ _ _ hk, Below.heap_setCell _ _ _ _ hk, Below.heap_setCell _ _ _ _ hk, Below.heap_setCell _ _ _ _ hk, Below.heap_setCell _ _ _ _ hk]
    have hne : ∀ k, (∃ cells, W.heap[k]? = some (.cells cells 123 (0, 0))) → k ≠ g := fun k ⟨cells, hc⟩ e => by
      rw [e, hg] at hc
      cases hc
    exact Kd.R_mono (Kd.R_step h7 (fun k ho _ => hk k (hne k ho))) (fun k ho => by
      obtain ⟨cells, hc⟩ := ho
      exact ⟨cells, (hk k (hne k ⟨cells, hc⟩)).trans hc⟩)
theorem colsOk_le {c a r l t : Int} {D : List Int} (h : colsOk c a r l t D = true) {x : Int} (hx : x ∈ [c, a, r, l, t] ++ D) : x ≤ 1099511627776 := by
  unfold colsOk at h
  rw [Bool.and_eq_true, List.all_eq_true, List.all_eq_true] at h
  rcases List.mem_append.1 hx with hx | hx
  · exact of_decide_eq_true (h.1 x hx)
  · have := h.2 x hx
    rw [Bool.and_eq_true] at this
    exact of_decide_eq_true this.2
theorem colsOk_D {c a r l t : Int} {D : List Int} (h : colsOk c a r l t D = true) {x : Int} (hx : x ∈ D) : 0 ≤ x := by
  unfold colsOk at h
  rw [Bool.and_eq_true, List.all_eq_true, List.all_eq_true] at h
  have := h.2 x hx
  rw [Bool.and_eq_true] at this
  exact of_decide_eq_true this.1
theorem k69_types {q : Nat} (h : q ∈ 69 :: k69.E) : q = 69 ∨ q = 123 := by
  simpa [k69, k123, k121, Kd.iso, Kd.pair, Kd.string, Kd.scalar, Kd.int, Kd.slice] using h
theorem R69_set {W : World} {base g ty : Nat} {v : Value} {xs : List S69} {cs : Array Value} (h : Kd.R k69 69 W base (fun _ => True) v xs) (hg : W.heap[g]? = some (.cells cs ty (0, 0))) (h1 : ty ≠ 69) (h2 : ty ≠ 123) (j : Nat) (u : Value) :
    Kd.R k69 69 (W.setCell ⟨g, j, none⟩ u) base (fun _ => True) v xs :=
  Kd.R_mono (Kd.R_set h hg (fun q hq e => by rcases k69_types hq with rfl | rfl; exact h1 e.symm; exact h2 e.symm) j u) (fun _ _ => trivial)
theorem app_ev {ops : Array Oper} {rest : List Oper} {o : Oper} {a : Act} {Q : Exit → Act → World → Prop} {w W : World} (A B : Tmp) (hgd : o.guard = none)
    (ho : o.op = .call { callee := .builtin .append, args := #[.tmp A, .tmp B], argTypes := #[36, 36] }) (v vd : Value) (acc : List S69) (ev : S69)
    (hs : a.eval (.tmp A) = v) (hx : a.eval (.tmp B) = .slice (some ⟨W.heap.size, 0, none⟩) 1 1)
    (HO : Kd.R k69 69 W w.heap.size (fun _ => True) v acc) (HD : Kd.R k123 123 W w.heap.size (fun k => ∃ cells, W.heap[k]? = some (.cells cells 123 (0, 0))) vd ev.f5) (HB : Below w.heap.size w W) (hl : acc.length < 1099511627776)
    (h : ∀ v1 w1, Kd.R k69 69 w1 w.heap.size (fun _ => True) v1 (acc ++ [ev]) → Below w.heap.size w w1 → W.grownBy w1 v.ownBlock → wpList Tryz.prog ops Q rest (a.put o.dst v1) w1) :
    wpList Tryz.prog ops Q (o :: rest) a (W.alloc (.cells #[.string ev.f0, .string ev.f1, .string ev.f2, .int .i64 ev.f3, .int .i64 ev.f4, vd] 69)) :=
  Kd.R_append k69 (w0 := w) w.heap.size hgd (.tmp A) (.tmp B) 36 69 _ _ ho Tryz.underlying36 info69 rfl (by decide) (by decide) v acc ev
    [.string ev.f0, .string ev.f1, .string ev.f2, .int .i64 ev.f3, .int .i64 ev.f4, vd] (fun _ => True) (fun k => ∃ cells, W.heap[k]? = some (.cells cells 123 (0, 0))) hs hx (k69_mkM _ _ _ ev HD)
    (fun k ⟨cells, hk⟩ => ⟨trivial, fun e => by
      obtain ⟨c2, e2⟩ := Kd.R_typed HO k e.symm
      rw [hk] at e2
      cases e2⟩) (fun _ _ => trivial) HO HB HB.size (by omega) (fun v1 w1 h1 h2 h3 _ => h v1 w1 h1 h2 h3)
end Go.Proofs.YtghjhampigbbkaaGreatDoor.PA
end
section
namespace Go.Proofs.YtghjhampigbbkaaGreatDoor.PA
open Go.RowKit Go.Sort Go.Proofs.YtghjhampigbbkaaGreatDoorW.PrintWords Go.Proofs.YtghjhampigbbkaaGreatDoorW.PrintLast Go.Proofs.YtghjhampigbbkaaGreatDoorW.PrintMore
def SortsE (n : Nat) : Prop := ∀ (g cap : Nat) (z : EvC) (ds0 : List EvC) (tail : List Value) (w0 w : World), BlkE g ds0 tail w → Below w0.heap.size w0 w → w0.heap.size ≤ g → ds0.length = n →
  Calls Tryz.prog 55 #[.slice (some ⟨g, 0, none⟩) ds0.length cap, .func (.func 56) #[] #[]] w fun e w' => e = .returned (.tuple #[]) ∧ BlkE g (insOut ltE z 0 (ds0.length - 1) 1 ds0) tail w' ∧ Below w0.heap.size w0 w' ∧ KeepBut w w' g none
def impL (head : List ByteArray) (c a r l t : Int) (D K : List Int) : Nat → List S69 → List (List ByteArray) → Except (Int × Int × Int) (List S69)
  | _, acc, [] => .ok acc
  | i, acc, row :: rs => if row.length = head.length then
      (match evF row head c a r l t D K with
      | .error x => .error ((i : Int) + 2, x.1 + 1, x.2)
      | .ok ev => impL head c a r l t D K (i + 1) (acc ++ [ev]) rs) else .error ((i : Int) + 2, 1, 29)
def impR : Except (Int × Int × Int) (List S69) → List S69 × Int × Int × Int
  | .error x => ([], x)
  | .ok evs => (sortE evs, 0, 0, 0)
def impH (c a r l t : Int) (D K : List Int) : List (List ByteArray) → List S69 × Int × Int × Int
  | [] => ([], 0, 0, 4)
  | head :: rest => if (hdrF head c a r l t D).2.2 = 0 then impR (impL head c a r l t D K 0 [] rest) else ([], hdrF head c a r l t D)
def importF (vm : Bool) (s : ByteArray) (c a r l t : Int) (D K : List Int) (sp : Int) : List S69 × Int × Int × Int :=
  if vm = false then ([], 0, 0, 1) else if (cellsF s sp).2.2.2 = 0 then impH c a r l t D K (cellsF s sp).1 else ([], (cellsF s sp).2)
structure MapOK (c a r l t : Int) (D K : List Int) : Prop where
  c0 : 0 ≤ c
  a0 : 0 ≤ a
  t0 : 0 ≤ t
  ok : colsOk c a r l t D = true
  d12 : D.length ≤ 12
  kd : K.length = D.length
  dz : D.length = 0
def impPost (w : World) (R : List S69 × Int × Int × Int) (e : Ending) (w' : World) : Prop :=
  ∃ v, e = .returned (.tuple #[.agg #[v], .agg #[.int .i64 R.2.1, .int .i64 R.2.2.1], .int .i64 R.2.2.2]) ∧ Kd.R k69 69 w' w.heap.size (fun _ => True) v R.1 ∧ Below w.heap.size w w'
theorem impPost_err {w W : World} {x y z : Int} (hb : Below w.heap.size w W) : impPost w ([], x, y, z) (.returned (.tuple #[.agg #[.slice none 0 0], .agg #[.int .i64 x, .int .i64 y], .int .i64 z])) W :=
  ⟨_, rfl, Kd.R_nil _ _ _ _ _, hb⟩
structure PInv (w : World) (m : Array Value) (W : World) : Prop where
  k0 : W.heap[w.heap.size]? = some (.cells m 33 (0, 0))
  k1 : W.heap[w.heap.size + 1]? = some (.cells #[.slice none 0 0] 38 (0, 0))
  k2 : W.heap[w.heap.size + 2]? = some (.cells #[.int .i64 0, .int .i64 0] 40 (0, 0))
  b0 : Below w.heap.size w W
theorem PInv.below {w : World} {m : Array Value} {W W1 : World} (h : PInv w m W) (hb : Below W.heap.size W W1) : PInv w m W1 :=
  ⟨blk_below h.k0 hb, blk_below h.k1 hb, blk_below h.k2 hb, below_step h.b0 hb⟩
theorem cells8 {w : World} {g : Nat} {ty : TypeId} {a b c d e f x y : Value} (h : w.heap[g]? = some (.cells #[a, b, c, d, e, f, x, y] ty (0, 0))) :
    w.cell? ⟨g, 0, none⟩ = some a ∧ w.cell? ⟨g, 1, none⟩ = some b ∧ w.cell? ⟨g, 2, none⟩ = some c ∧ w.cell? ⟨g, 3, none⟩ = some d ∧ w.cell? ⟨g, 4, none⟩ = some e ∧ w.cell? ⟨g, 5, none⟩ = some f ∧ w.cell? ⟨g, 6, none⟩ = some x ∧ w.cell? ⟨g, 7, none⟩ = some y :=
  ⟨blk_cell h 0, blk_cell h 1, blk_cell h 2, blk_cell h 3, blk_cell h 4, blk_cell h 5, blk_cell h 6, blk_cell h 7⟩
def fin3 (w W : World) (v x y : Value) : World := set2 (W.setCell ⟨w.heap.size + 1, 0, none⟩ v) (w.heap.size + 2) x y
theorem below_fin {w W : World} (h : Below w.heap.size w W) (v x y : Value) : Below w.heap.size w (fin3 w W v x y) := below2 (below_set h (by show w.heap.size ≤ w.heap.size + 1; omega)) (by omega) x y
theorem ret_imp {fn : Func} {R : Ending → World → Prop} {a : Act} {w W : World} {m : Array Value} (h : fn.results = #[.cell 4 38, .cell 5 40, .tmp 6])
    (h4 : a.tmps.getD 4 undef = .pointer (some ⟨w.heap.size + 1, 0, none⟩)) (h5 : a.tmps.getD 5 undef = .pointer (some ⟨w.heap.size + 2, 0, none⟩)) (hd : a.defers = []) (hP : PInv w m W) (v x y : Value) {z : Value} (h6 : a.tmps.getD 6 undef = z)
    (hR : R (.returned (.tuple #[.agg #[v], .agg #[x, y], z])) (fin3 w W v x y)) : bodyPost Tryz.prog fn R .ret a (fin3 w W v x y) := by
  have k1 : (W.setCell ⟨w.heap.size + 1, 0, none⟩ v).heap[w.heap.size + 1]? = some (.cells #[v] 38 (0, 0)) := blk_put hP.k1 0 v rfl
  have k2 : (W.setCell ⟨w.heap.size + 1, 0, none⟩ v).heap[w.heap.size + 2]? = some (.cells #[.int .i64 0, .int .i64 0] 40 (0, 0)) := blk_far hP.k2 (p := ⟨w.heap.size + 1, 0, none⟩) (show w.heap.size + 2 ≠ w.heap.size + 1 by omega) v
  have j1 : (fin3 w W v x y).heap[w.heap.size + 1]? = some (.cells #[v] 38 (0, 0)) := blk_far (blk_far k1 (p := ⟨w.heap.size + 2, 0, none⟩) (show w.heap.size + 1 ≠ w.heap.size + 2 by omega) x) (p := ⟨w.heap.size + 2, 1, none⟩) (show w.heap.size + 1 ≠ w.heap.size + 2 by omega) y
  have j2 : (fin3 w W v x y).heap[w.heap.size + 2]? = some (.cells #[x, y] 40 (0, 0)) := put2 k2 x y
  refine bodyPost_ret (results_list (rs := [.cell 4 38, .cell 5 40, .tmp 6]) h (by simp) (.cell _ 38 #[v] (0, 0) _ h4 j1 Tryz.underlying38 rfl (by kernel_rfl) (.cell _ 40 #[x, y] (0, 0) _ h5 j2 Tryz.underlying40 rfl (by kernel_rfl) (.tmp .nil)))) hd ?_
  rw [h6]
  exact hR
theorem R_fin3 {w W : World} {m : Array Value} {base : Nat} {v0 : Value} {xs : List S69} (hP : PInv w m W) (h : Kd.R k69 69 W base (fun _ => True) v0 xs) (v x y : Value) : Kd.R k69 69 (fin3 w W v x y) base (fun _ => True) v0 xs := by
  have k2 : (W.setCell ⟨w.heap.size + 1, 0, none⟩ v).heap[w.heap.size + 2]? = some (.cells #[.int .i64 0, .int .i64 0] 40 (0, 0)) := blk_far hP.k2 (p := ⟨w.heap.size + 1, 0, none⟩) (show w.heap.size + 2 ≠ w.heap.size + 1 by omega) v
  exact R69_set (R69_set (R69_set h hP.k1 (by decide) (by decide) 0 v) k2 (by decide) (by decide) 0 x) (blk_set k2 0 x) (by decide) (by decide) 1 y
set_option maxHeartbeats 16000000 in
set_option maxRecDepth 100000 in
theorem Import_at (s : ByteArray) (c a r l t : Int) (A5 : Option Addr) (c5 : Nat) (D : List Int) (A6 : Option Addr) (c6 : Nat) (K : List Int) (sp : Int) (w : World) (hLd : Laid w)
    (hr5 : Kd.C (Kd.int .i64) w A5 D.length D) (hc5 : D.length ≤ c5) (hr6 : Kd.C (Kd.int .i64) w A6 K.length K) (hc6 : K.length ≤ c6)
    (kv : Nat) (vm : Bool) (hvm : imports_ValidMapping.f kv c a r l t D K sp = some vm) (hok : vm = true → MapOK c a r l t D K) (hS : ∀ n, n + 1 = (cellsF s sp).1.length → SortsE n) :
    Calls Tryz.prog 16 #[.string s, .agg #[.int .i64 c, .int .i64 a, .int .i64 r, .int .i64 l, .int .i64 t, .slice A5 D.length c5, .slice A6 K.length c6, .int .u8 sp]] w (impPost w (importF vm s c a r l t D K sp)) := by
  have hu33 := Tryz.underlying33
  have hu38 := Tryz.underlying38
  have hu40 := Tryz.underlying40
  have hu69 := Tryz.underlying69
  have HR5 := Aside0.mk hr5
  have HR6 := Aside0.mk hr6
  have HLd := Aside0.mk hLd
  have HOK := Aside0.mk hok
  have HS := Aside0.mk hS
  have HVM := Aside0.mk (fun W hb => imports_ValidMapping.calls kv c a r l t A5 c5 D A6 c6 K sp vm W (Kd.C_below hr5 hb) hc5 (Kd.C_below hr6 hb) hc6 hvm)
  have HC5 := Aside0.mk hc5
  have HC6 := Aside0.mk hc6
  clear hr5 hr6 hLd hok hvm hc5 hc6 hS
  go_enter Tryz.func16, Tryz.ntmps16
  go_upto_region 1 with fail
  have h0 : PInv w (mapCells c a r l t A5 D.length c5 A6 K.length c6 sp) (((w.alloc (.cells (mapCells c a r l t A5 D.length c5 A6 K.length c6 sp) 33)).alloc (.cells #[.slice none 0 0] 38)).alloc (.cells #[.int .i64 0, .int .i64 0] 40)) := by
    obtain ⟨k2, k3, k4, hB⟩ := three_new (Below.refl _ (((w.alloc (.cells (mapCells c a r l t A5 D.length c5 A6 K.length c6 sp) 33)).alloc (.cells #[.slice none 0 0] 38)).alloc (.cells #[.int .i64 0, .int .i64 0] 40)))
    exact ⟨k2, k3, k4, hB⟩
  unfold mapCells at h0
  generalize ((w.alloc (.cells #[.int .i64 c, .int .i64 a, .int .i64 r, .int .i64 l, .int .i64 t, .slice A5 D.length c5, .slice A6 K.length c6, .int .u8 sp] 33)).alloc (.cells #[.slice none 0 0] 38)).alloc (.cells #[.int .i64 0, .int .i64 0] 40) = W1 at h0 ⊢
  have HP := Aside0.mk h0
  clear h0
  obtain ⟨q0, q1, q2, q3, q4, q5, q6, q7⟩ := cells8 HP.out.k0
  go_wp2_with fail
  refine (HVM.out _ HP.out.b0).mono ?_
  rintro e w2 ⟨rfl, hb⟩
  have HP2 := Aside0.mk (HP.out.below hb)
  clear hb HVM HP q0 q1 q2 q3 q4 q5 q6 q7
  cases vm
  · obtain ⟨d0, d1, f0, f1⟩ := cells2 HP2.out.k2
    have d2 := blk_cell HP2.out.k1 0
    have f2 := blk_frozen HP2.out.k1 0
    go_wp2_with fail
    refine ret_imp rfl rfl rfl rfl HP2.out _ _ _ rfl ?_
    exact impPost_err (below_fin HP2.out.b0 _ _ _)
  · obtain ⟨kc, ka, kt, kok, kd12, kkd, kdz⟩ := HOK.out rfl
    have HMO := Aside0.mk (HOK.out rfl)
    clear HOK kok kkd kdz
    have q7 := blk_cell HP2.out.k0 7
    have hcz : ∃ R, R = cellsF s sp ∧ imports_Cells.f s sp = some R := ⟨_, rfl, rfl⟩
    obtain ⟨⟨rows, p1, p2, er⟩, hR, hcf⟩ := hcz
    have HCF := Aside0.mk (fun W => imports_Cells.calls s sp rows p1 p2 er W hcf)
    have HIF : Aside0 (importF true s c a r l t D K sp = if er = 0 then impH c a r l t D K rows else ([], p1, p2, er)) := ⟨by unfold importF; rw [← hR]; rfl⟩
    rw [← hR] at HS
    have hrw : rows.length ≤ 2001 := by have h := cellsF_len s sp; rw [← hR] at h; exact h
    have HRW0 := Aside0.mk hrw
    clear hrw
    clear hR hcf
    go_wp2_with fail
    refine (HCF.out _).mono ?_
    rintro e w3 ⟨v7, rfl, hs7, hb⟩
    obtain ⟨A7, c7, rfl, hc7, hC7⟩ := Kd.S_reads hs7
    have HC3 := Aside0.mk hC7
    have HP3 := Aside0.mk (HP2.out.below hb)
    clear hs7 hC7 hb HP2 q7 HCF
    have hwx : ∀ o, Below w3.heap.size w3 (w3.alloc o) := fun o => below_alloc (Below.refl _ _) o
    go_upto_region 4 with fail
    have hg8 := blk_new w3 (.cells #[.int .i64 p1, .int .i64 p2] 40)
    have hb8 := below_alloc (Below.refl w3.heap.size w3) (.cells #[.int .i64 p1, .int .i64 p2] 40)
    generalize w3.alloc (.cells #[.int .i64 p1, .int .i64 p2] 40) = w4 at hg8 hb8 ⊢
    have HP4 := Aside0.mk (HP3.out.below hb8)
    have HC4 := Aside0.mk (Kd.C_below HC3.out hb8)
    have hlt8 : w.heap.size + 2 < w3.heap.size := blk_lt HP3.out.k2
    generalize w3.heap.size = g8 at hg8 hlt8 ⊢
    have HG8 := Aside0.mk hg8
    clear hg8 hb8 hwx HP3 HC3
    by_cases her : er = 0
    rotate_left
    · have t1 : (er != 0) = true := bne_iff_ne.2 her
      rw [if_neg her] at HIF
      clear her
      obtain ⟨d0, d1, f0, f1⟩ := cells2 HP4.out.k2
      have d2 := blk_cell HP4.out.k1 0
      have f2 := blk_frozen HP4.out.k1 0
      obtain ⟨e0, e1, _, _⟩ := cells2 HG8.out
      have n1 : ¬ g8 = w.heap.size + 1 := by omega
      have n2 : ¬ g8 = w.heap.size + 1 + 1 := by omega
      have n3 : ¬ w.heap.size + 1 = g8 := by omega
      have n4 : ¬ w.heap.size + 1 + 1 = g8 := by omega
      go_wp2_with fail
      go_region
      all_goals
        go_wp2
        refine ret_imp (W := w4.drew) rfl rfl rfl rfl (HP4.out.below (below_drew (Below.refl _ _))) _ _ _ rfl ?_
        rw [HIF.out]
        exact impPost_err (below_fin (HP4.out.below (below_drew (Below.refl _ _))).b0 _ _ _)
    · have t1 : (er != 0) = false := by rw [her]; rfl
      rw [if_pos her] at HIF
      clear her
      by_cases hz : rows.length = 0
      · have HIF2 : Aside0 (importF true s c a r l t D K sp = ([], 0, 0, 4)) := ⟨by rw [HIF.out, List.length_eq_zero_iff.1 hz]; rfl⟩
        have t2 : ((rows.length : Int) == 0) = true := by rw [hz]; rfl
        clear hz
        obtain ⟨d0, d1, f0, f1⟩ := cells2 HP4.out.k2
        have d2 := blk_cell HP4.out.k1 0
        have f2 := blk_frozen HP4.out.k1 0
        go_wp2_with fail
        refine ret_imp rfl rfl rfl rfl HP4.out _ _ _ rfl ?_
        rw [HIF2.out]
        exact impPost_err (below_fin HP4.out.b0 _ _ _)
      · have t2 : ((rows.length : Int) == 0) = false := beq_false_of_ne (by omega)
        have pz0 : (0 : Int) < (rows.length : Int) := by omega
        have pz1 : 0 < rows.length := by omega
        have hlt4 : w.heap.size + 2 < w4.heap.size := blk_lt HP4.out.k2
        obtain ⟨ad, A8, c8, e8, hx8, hl8, hC8⟩ := at_L1 HC4.out 0 (by omega) (by omega)
        cases e8
        obtain ⟨head, rest, hrr⟩ : ∃ head rest, rows = head :: rest := by
          cases rows with
          | nil => exact absurd rfl hz
          | cons x xs => exact ⟨x, xs, rfl⟩
        have e8 : rd_L1 rows 0 = head := by rw [hrr]; rfl
        rw [e8] at hx8 hl8 hC8
        have HRR := Aside0.mk hrr
        have HX8 : Aside0 (w4.cell? ad = some (.slice A8 head.length c8)) := ⟨by rw [← Addr.add_zero' ad]; exact hx8⟩
        have HL8 := Aside0.mk hl8
        have HC8 := Aside0.mk hC8
        clear e8 hx8 hl8 hC8 hrr hz
        obtain ⟨hd, hhd⟩ : ∃ h, h = hdrF head c a r l t D := ⟨_, rfl⟩
        obtain ⟨h1, h2, h3⟩ := hd
        have HHD := Aside0.mk (fun W hb => imports_header.calls A8 c8 head c a r l t A5 c5 D A6 c6 K sp h1 h2 h3 W (Kd.C_below HC8.out hb) HL8.out (Kd.C_below HR5.out (below_step HP4.out.b0 hb)) HC5.out (Kd.C_below HR6.out (below_step HP4.out.b0 hb)) HC6.out (by unfold imports_header.f; rw [if_pos HMO.out.ok, ← hhd]))
        have HIF2 : Aside0 (importF true s c a r l t D K sp = if h3 = 0 then impR (impL head c a r l t D K 0 [] rest) else ([], h1, h2, h3)) := ⟨by rw [HIF.out, HRR.out]; unfold impH; dsimp only; rw [← hhd]⟩
        have HHQ := Aside0.mk hhd
        clear hhd HIF
        go_upto_region 8 with fail
        have hx8 := HX8.out
        have hb4 := below_alloc (Below.refl w4.heap.size w4) (.cells #[.int .i64 0, .int .i64 0] 40)
        have hx9 := pw_cell_below hb4 hx8
        obtain ⟨r0, r1, r2, r3, r4, r5, r6, r7⟩ := cells8 (HP4.out.below hb4).k0
        clear hb4
        obtain ⟨q0, q1, q2, q3, q4, q5, q6, q7⟩ := cells8 HP4.out.k0
        go_cut [10, 11] (fun v10 v11 wx => ∃ g10, w.heap.size + 2 < g10 ∧ v10 = .pointer (some ⟨g10, 0, none⟩) ∧ v11 = .int .i64 h3 ∧ Aside0 (wx.heap[g10]? = some (.cells #[.int .i64 h1, .int .i64 h2] 40 (0, 0))) ∧ Aside0 (Below w4.heap.size w4 wx))
        case first =>
          go_region_with (go_at_call 53; refine (HHD.out _ ?hb).mono ?_; (case hb => repeat (first | exact Below.refl _ _ | apply below_alloc | apply below_drew)); rintro e w5 ⟨rfl, hb⟩; (first | (have hbx := blk_below (blk_new w4 (.cells #[.int .i64 0, .int .i64 0] 40)) hb; have hbc := cells2 hbx; obtain ⟨x0, x1, y0, y1⟩ := hbc) | (have hbx := blk_below (blk_drew (blk_new w4 (.cells #[.int .i64 0, .int .i64 0] 40))) hb; have hbc := cells2 hbx; obtain ⟨x0, x1, y0, y1⟩ := hbc) | skip))
          all_goals
            go_wp2_with fail
            go_meet
            case rel => first
              | exact ⟨_, Nat.lt_of_lt_of_le hlt4 hb.size, rfl, rfl, ⟨blk_new _ _⟩, ⟨below_alloc (below_step (below_drew (Below.refl _ _)) hb) _⟩⟩
              | exact ⟨_, hlt4, rfl, rfl, ⟨put2 hbx _ _⟩, ⟨below2 (below_step (below_drew (below_alloc (Below.refl _ _) _)) hb) (Nat.le_refl _) _ _⟩⟩
        case rest =>
          obtain ⟨g10, hg10, rfl, rfl, HK10, HB5⟩ := hcut
          rename World => w5
          have HP5 := Aside0.mk (HP4.out.below HB5.out)
          have HC9 := Aside0.mk (Kd.C_below HC4.out HB5.out)
          have hx8 := pw_cell_below HB5.out HX8.out
          by_cases hh3 : h3 = 0
          rotate_left
          · have t3 : (h3 != 0) = true := bne_iff_ne.2 hh3
            rw [if_neg hh3] at HIF2
            clear hh3
            obtain ⟨d0, d1, f0, f1⟩ := cells2 HP5.out.k2
            have d2 := blk_cell HP5.out.k1 0
            have f2 := blk_frozen HP5.out.k1 0
            obtain ⟨e0, e1, _, _⟩ := cells2 HK10.out
            have n1 : ¬ g10 = w.heap.size + 1 := by omega
            have n2 : ¬ g10 = w.heap.size + 1 + 1 := by omega
            have n3 : ¬ w.heap.size + 1 = g10 := by omega
            have n4 : ¬ w.heap.size + 1 + 1 = g10 := by omega
            go_wp2_with fail
            go_region
            all_goals
              go_wp2
              refine ret_imp (W := w5.drew) rfl rfl rfl rfl (HP5.out.below (below_drew (Below.refl _ _))) _ _ _ rfl ?_
              rw [HIF2.out]
              exact impPost_err (below_fin (HP5.out.below (below_drew (Below.refl _ _))).b0 _ _ _)
          · have t3 : (h3 != 0) = false := by rw [hh3]; rfl
            rw [if_pos hh3] at HIF2
            have HH3 := Aside0.mk hh3
            clear hh3
            obtain ⟨i0, hi0, _, hsz0, _⟩ := info_parts info51
            have hcut := cut_from (P := Tryz.prog) 22 51 .i64 Tryz.underlying22 hi0 1 hsz0 (some ad) rows.length c7 1 (by decide) (by omega)
            have hr := Kd.C_drop (m := 1) (c := c7) HC9.out (by omega) hc7
            have hrd : rows.drop 1 = rest := by rw [HRR.out]; rfl
            have hrl : rows.length - (1 : Int).toNat = rest.length := by rw [HRR.out]; rfl
            obtain ⟨A9, hA9⟩ : ∃ A1, A1 = (if c7 = (1 : Int).toNat then (some ad) else ((some ad) : Option Addr).map (·.add ((1 : Int).toNat * 1))) := ⟨_, rfl⟩
            obtain ⟨c9, hc9⟩ : ∃ c1, c1 = c7 - (1 : Int).toNat := ⟨_, rfl⟩
            rw [← hA9, ← hc9, hrl] at hcut
            rw [hrd] at hr
            replace hr : Kd.C (Kd.slice 9 Kd.string) w5 A9 rest.length rest := by rw [hA9]; exact hr
            have HCR := Aside0.mk hr
            have hrm : rest.length ≤ 2000 := by have h := HRW0.out; rw [HRR.out, List.length_cons] at h; omega
            clear hA9 hc9 hrl hrd hr
            go_upto_region 12 with fail
            have hg12 := blk_new w5 (.cells #[.slice none 0 0] 38)
            have hb12 := below_alloc (Below.refl w5.heap.size w5) (.cells #[.slice none 0 0] 38)
            have hlt5 : w.heap.size + 2 < w5.heap.size := blk_lt HP5.out.k2
            generalize w5.alloc (.cells #[.slice none 0 0] 38) = w6 at hg12 hb12 ⊢
            have HX5 := Aside0.mk hx8
            have HL5 := Aside0.mk (HLd.out.below HP5.out.b0)
            have HCH := Aside0.mk (Kd.C_below HC8.out HB5.out)
            have HG12 := Aside0.mk hg12
            have HB12 := Aside0.mk hb12
            clear hg12 hb12 hx8 HC9 HP4 HC4 HX8 HC8 HHD HLd HB5
            go_upto_region 13 with fail
            go_loopg [57] rest.length (fun kq v57 wr => ∃ (i : Nat) (acc : List S69) (v : Value), v57 = .int .i64 i ∧ i ≤ rest.length ∧ Aside0 (kq + i = rest.length) ∧ Aside0 (acc.length = i) ∧ Aside0 (impL head c a r l t D K i acc (rest.drop i) = impL head c a r l t D K 0 [] rest) ∧ Aside0 (Below w5.heap.size w5 wr) ∧ Aside0 (wr.heap[w5.heap.size]? = some (.cells #[v] 38 (0, 0))) ∧ Aside0 (Kd.R k69 69 wr w5.heap.size (fun _ => True) v acc))
            case atStart => exact ⟨0, [], _, rfl, Nat.zero_le _, ⟨by simp⟩, ⟨rfl⟩, ⟨rfl⟩, HB12, HG12, ⟨Kd.R_nil _ _ _ _ _⟩⟩
            case round =>
              obtain ⟨i, acc, v, rfl, hi, HK, HAL, HIL, HB, HG, HO⟩ := hrel
              obtain ⟨k, rfl⟩ | hk0 : (∃ k, gk = k + 1) ∨ gk = 0 := by cases gk with | zero => exact .inr rfl | succ k => exact .inl ⟨k, rfl⟩
              · have hlt : i < rest.length := by have := HK.out; omega
                have HP := Aside0.mk (HP5.out.below HB.out)
                have hx := pw_cell_below HB.out HX5.out
                obtain ⟨ad2, A10, c10, e10, hy, hly, hCy⟩ := at_L1 (Kd.C_below HCR.out HB.out) (i : Int) (by omega) (by omega)
                cases e10
                have hel : rd_L1 rest (i : Int) = rest[i] := by show rest.getD (i : Int).toNat [] = rest[i]; simp [hlt]
                rw [hel, Int.toNat_natCast] at hy
                rw [hel] at hly hCy
                have HIS := Aside0.mk (show impL head c a r l t D K i acc (rest.drop i) = impL head c a r l t D K i acc (rest[i] :: rest.drop (i + 1)) by rw [List.drop_eq_getElem_cons hlt])
                rw [HIL.out] at HIS
                clear hel
                generalize rest[i] = row at hy hly hCy HIS
                have HLY := Aside0.mk hly
                have HCY := Aside0.mk hCy
                clear hly hCy HIL
                by_cases hrow : row.length = head.length
                rotate_left
                · have t4 : ((row.length : Int) != (head.length : Int)) = true := bne_iff_ne.2 (by omega)
                  have HE : Aside0 (impL head c a r l t D K 0 [] rest = .error ((i : Int) + 2, 1, 29)) := ⟨by rw [HIS.out]; unfold impL; rw [if_neg hrow]⟩
                  rw [HE.out] at HIF2
                  obtain ⟨d0, d1, f0, f1⟩ := cells2 HP.out.k2
                  have d2 := blk_cell HP.out.k1 0
                  have f2 := blk_frozen HP.out.k1 0
                  clear hrow
                  go_wp2
                  refine ret_imp rfl rfl rfl rfl HP.out _ _ _ rfl ?_
                  rw [HIF2.out]
                  exact impPost_err (below_fin HP.out.b0 _ _ _)
                · have t4 : ((row.length : Int) != (head.length : Int)) = false := by rw [hrow]; simp
                  have HRW := Aside0.mk hrow
                  clear hrow
                  have HFO := Aside0.mk (hdrF_ok (row := head) (c := c) (a := a) (r := r) (l := l) (t := t) (D := D) (by rw [← HHQ.out]; exact HH3.out))
                  have HEV := Aside0.mk (fun W hb => event_at A10 c10 row A8 c8 head c a r l t A5 c5 D A6 c6 K sp W (HL5.out.below (below_step HB.out hb)) (Kd.C_below HCY.out hb) (Kd.C_below HCH.out (below_step HB.out hb)) (Kd.C_below HR5.out (below_step HP.out.b0 hb)) (Kd.C_below HR6.out (below_step HP.out.b0 hb))
                    ⟨kc, by rw [HRW.out]; exact HFO.out.1⟩ ⟨ka, by rw [HRW.out]; exact HFO.out.2.1⟩ (by rw [HRW.out]; exact HFO.out.2.2.1) (by rw [HRW.out]; exact HFO.out.2.2.2.1) ⟨kt, by rw [HRW.out]; exact HFO.out.2.2.2.2.1⟩ HMO.out.kd (fun x hx => ⟨colsOk_D HMO.out.ok hx, by rw [HRW.out]; exact HFO.out.2.2.2.2.2 x hx⟩) HRW.out.symm kd12 HMO.out.dz)
                  have HIS2 : Aside0 (impL head c a r l t D K 0 [] rest = (match evF row head c a r l t D K with
                    | .error x => .error ((i : Int) + 2, x.1 + 1, x.2)
                    | .ok ev => impL head c a r l t D K (i + 1) (acc ++ [ev]) (rest.drop (i + 1)))) := ⟨by rw [HIS.out]; conv => lhs; unfold impL; rw [if_pos HRW.out]⟩
                  have HEE := Aside0.mk (fun x hx => evF_err (row := row) (head := head) (c := c) (a := a) (r := r) (l := l) (t := t) (D := D) (K := K) (x := x) hx)
                  have HPZ := Aside0.mk HB.out.size
                  clear HIS
                  generalize evF row head c a r l t D K = ER at HEV HIS2 HEE
                  go_upto_region 17 with fail
                  obtain ⟨q0, q1, q2, q3, q4, q5, q6, q7⟩ := cells8 HP.out.k0
                  have hb4 := below_alloc (Below.refl wr.heap.size wr) (.cells #[.string ⟨#[]⟩, .string ⟨#[]⟩, .string ⟨#[]⟩, .int .i64 0, .int .i64 0, .slice none 0 0] 69)
                  have hx9 := pw_cell_below hb4 hx
                  obtain ⟨r0, r1, r2, r3, r4, r5, r6, r7⟩ := cells8 (HP.out.below hb4).k0
                  clear hb4
                  go_cut [15, 16, 17] (fun v15 v16 v17 wx => ∃ g15 x0 x1 x2 x3 x4 A n cc col er2, v15 = .pointer (some ⟨g15, 0, none⟩) ∧ v16 = .int .i64 col ∧ v17 = .int .i64 er2 ∧ Aside0 (wr.heap.size ≤ g15) ∧ Aside0 (wx.heap[g15]? = some (.cells #[.string x0, .string x1, .string x2, .int .i64 x3, .int .i64 x4, .slice A n cc] 69 (0, 0))) ∧ Aside0 (EvOut ER wx w5.heap.size x0 x1 x2 x3 x4 (.slice A n cc) col er2) ∧ Aside0 (Below wr.heap.size wr wx))
                  case first =>
                    go_region_with (go_at_call 54; refine (HEV.out _ ?hb).mono ?_; (case hb => repeat (first | exact Below.refl _ _ | apply below_alloc | apply below_drew)); intro e w7 hpost; obtain ⟨x0, x1, x2, x3, x4, xa, xn, xc, col, er2, rfl, heo, hb⟩ := evPost_any2 HPZ.out hpost (by first | exact Nat.le_refl _ | exact (below_drew (below_alloc (Below.refl _ _) _)).size); clear hpost; (first | (have hbx := blk_below (blk_drew (blk_new wr (.cells #[.string ⟨#[]⟩, .string ⟨#[]⟩, .string ⟨#[]⟩, .int .i64 0, .int .i64 0, .slice none 0 0] 69))) hb; obtain ⟨y0, y1, y2, y3, y4, y5⟩ := cells6 hbx; obtain ⟨f0, f1, f2, f3, f4, f5⟩ := froz6 hbx) | skip))
                    all_goals
                      go_wp2_with fail
                      go_meet
                      case rel => first
                        | exact ⟨_, _, _, _, _, _, _, _, _, _, _, rfl, rfl, rfl, ⟨hb.size⟩, ⟨blk_new _ _⟩, ⟨heo.below (below_alloc (Below.refl _ _) _)⟩, ⟨below_alloc (below_step (below_drew (Below.refl _ _)) hb) _⟩⟩
                        | exact ⟨_, _, _, _, _, _, _, _, _, _, _, rfl, rfl, rfl, ⟨Nat.le_refl _⟩, ⟨put6 hbx _ _ _ _ _ _⟩, ⟨EvOut_set6 heo hbx _ _ _ _ _ _⟩, ⟨below6 (below_step (below_drew (below_alloc (Below.refl _ _) _)) hb) (Nat.le_refl _) _ _ _ _ _ _⟩⟩
                  case rest =>
                    obtain ⟨g15, x0, x1, x2, x3, x4, xa, xn, xc, col, er2, rfl, rfl, rfl, HG15, HB15, HEO, HB8⟩ := hcut
                    rename World => w8
                    have HP8 := Aside0.mk (HP.out.below HB8.out)
                    clear q0 q1 q2 q3 q4 q5 q6 q7 hx9 r0 r1 r2 r3 r4 r5 r6 r7 hx hy
                    cases ER with
                    | error x =>
                      obtain ⟨hne, hmem, hge⟩ := HEE.out x rfl
                      have hge := hge kc ka kt (fun d hd => colsOk_D HMO.out.ok hd)
                      have hcm : x.1 ≤ 1099511627776 := colsOk_le HMO.out.ok hmem
                      obtain ⟨he1, he2⟩ : col = x.1 ∧ er2 = x.2 := HEO.out
                      rw [← he1] at hge hcm
                      rw [← he2] at hne
                      have HIF3 : Aside0 (importF true s c a r l t D K sp = ([], (i : Int) + 2, col + 1, er2)) := ⟨by rw [HIF2.out, HIS2.out, he1, he2]; rfl⟩
                      clear he1 he2 hmem HEO HIS2 HEE HEV
                      have t5 : (er2 != 0) = true := bne_iff_ne.2 hne
                      obtain ⟨d0, d1, f0, f1⟩ := cells2 HP8.out.k2
                      have d2 := blk_cell HP8.out.k1 0
                      have f2 := blk_frozen HP8.out.k1 0
                      clear hne
                      go_wp2_with fail
                      refine ret_imp rfl rfl rfl rfl HP8.out _ _ _ rfl ?_
                      rw [HIF3.out]
                      exact impPost_err (below_fin HP8.out.b0 _ _ _)
                    | ok ev =>
                      obtain ⟨rfl, rfl, rfl, rfl, rfl, rfl, rfl, hvd⟩ := HEO.out
                      have HVD := Aside0.mk hvd
                      clear HEO hvd HEE HEV
                      obtain ⟨b0, b1, b2, b3, b4, b5⟩ := cells6 HB15.out
                      have HGX := Aside0.mk (blk_below HG.out HB8.out)
                      have HOX := Aside0.mk (Kd.R_below HO.out HB8.out)
                      have HBX := Aside0.mk (below_step HB.out HB8.out)
                      have d3 := blk_cell HGX.out 0
                      have f3 := blk_frozen HGX.out 0
                      obtain ⟨Av, cv, rfl⟩ := Kd.R_slice HO.out
                      go_wp2_with ((with_reducible refine gate_builtin (b := .append) (xs := #[.tmp 93, .tmp 95]) rfl ?_); at_builtin; refine app_ev 93 95 rfl rfl _ (.slice xa xn xc) acc ev rfl rfl HOX.out HVD.out HBX.out (by have := HAL.out; omega) ?_; intro v1 w9 ho1 hb1 hg1; obtain ⟨A1, c1, rfl⟩ := Kd.R_slice ho1; have HO1 := Aside0.mk ho1; have HB1 := Aside0.mk hb1; have HG1 := Aside0.mk (blk_grown HGX.out hg1 (Kd.R_ne HOX.out HGX.out (by decide))); clear ho1 hb1 hg1; have d4 := blk_cell HG1.out 0; have f4 := blk_frozen HG1.out 0)
                      have hln : (acc ++ [ev]).length = acc.length + 1 := by simp
                      have ho2 := HO1.out
                      rw [hln] at ho2
                      have HO2 := Aside0.mk ho2
                      have HLN := Aside0.mk hln
                      clear hln ho2
                      go_roundg k
                      case measure => omega
                      case rel => exact ⟨i + 1, acc ++ [ev], .slice A1 (acc.length + 1) c1, by go_num, by omega, ⟨by have := HK.out; omega⟩, ⟨by rw [HLN.out, HAL.out]⟩, ⟨HIS2.out.symm⟩, ⟨below_set HB1.out (Nat.le_refl _)⟩, ⟨blk_put HG1.out 0 _ rfl⟩, ⟨R69_set HO2.out HG1.out (by decide) (by decide) _ _⟩⟩
              · have hlt : ¬ i < rest.length := by have := HK.out; omega
                have HE : Aside0 (importF true s c a r l t D K sp = (sortE acc, 0, 0, 0)) := ⟨by rw [HIF2.out, ← HIL.out, List.drop_of_length_le (by omega)]; rfl⟩
                have HSL : Aside0 (SortsE acc.length) := ⟨HS.out _ (by rw [HAL.out]; have := HK.out; have h := congrArg List.length HRR.out; rw [List.length_cons] at h; show i + 1 = rows.length; omega)⟩
                clear HIL HIF2 HK
                have HP := Aside0.mk (HP5.out.below HB.out)
                obtain ⟨Av, cv, rfl⟩ := Kd.R_slice HO.out
                have d3 := blk_cell HG.out 0
                cases acc with
                | nil =>
                  obtain ⟨d0, d1, f0, f1⟩ := cells2 HP.out.k2
                  have d2 := blk_cell HP.out.k1 0
                  have f2 := blk_frozen HP.out.k1 0
                  go_wp2_with fail
                  refine (SortStable_nilE Av cv _).mono ?_
                  rintro e w20 ⟨rfl, rfl⟩
                  go_wp2_with fail
                  refine ret_imp rfl rfl rfl rfl HP.out _ _ _ rfl ?_
                  rw [HE.out]
                  exact ⟨_, rfl, R_fin3 HP.out (Kd.R_lower HO.out HP5.out.b0.size) _ _ _, below_fin HP.out.b0 _ _ _⟩
                | cons y ys =>
                  generalize hac : y :: ys = acc at *
                  have hne0 : 0 < acc.length := by rw [← hac]; simp
                  clear hac
                  obtain ⟨g0, cap0, he0, _⟩ := Kd.R_form HO.out hne0
                  cases he0
                  obtain ⟨g1, tail, ps, hg1, _, hb1, _, hcp, hmx, htl, hps, hblk⟩ := R_blkE HO.out
                  cases hg1
                  have HPS := Aside0.mk hps
                  have HLP : Aside0 (ps.length = acc.length) := ⟨by rw [hps, List.length_map]⟩
                  have HB1 := Aside0.mk hblk
                  have hsc := HSL.out g0 cv zEC (ps.map (·.1.1)) tail w5 wr hblk HB.out hb1 (by rw [List.length_map, HLP.out])
                  rw [List.length_map, HLP.out] at hsc
                  have HSC := Aside0.mk hsc
                  clear hps hblk hsc hne0
                  go_wp2_with fail
                  refine HSC.out.mono ?_
                  rintro e w20 ⟨rfl, h1, h2, h3⟩
                  have hne1 : w5.heap.size ≠ g0 := blk_ne HG.out (show wr.heap[g0]? = some (.cells (flatE (ps.map (·.1.1)) ++ tail).toArray 69 (0, 0)) from HB1.out) (by decide)
                  have HG20 : Aside0 (w20.heap[w5.heap.size]? = some (.cells #[.slice (some ⟨g0, 0, none⟩) acc.length cv] 38 (0, 0))) := ⟨(h3.2 _ (blk_lt HG.out) hne1 (by simp)).trans HG.out⟩
                  have HP20 := Aside0.mk (HP5.out.below h2)
                  have HRS : Aside0 (Kd.R k69 69 w20 w5.heap.size (fun _ => True) (.slice (some ⟨g0, 0, none⟩) acc.length cv) (sortE acc)) := ⟨by
                    have h := sorted_RE (cap := cv) (ps.map fun p => (⟨p.1, EvR_mono p.2 (fun _ hk => hk.2)⟩ : {p : EvC × S69 // EvR wr w5.heap.size (fun k => k ≠ g0) p.1 p.2})) h3 (by
                      rw [List.length_map, HLP.out, List.map_map]
                      exact h1) hb1 (by rw [List.length_map, HLP.out]; exact hcp) hmx (by rw [List.length_map, HLP.out]; exact htl)
                    rw [List.length_map, HLP.out, List.map_map] at h
                    have e2 : ps.map ((fun x : {p : EvC × S69 // EvR wr w5.heap.size (fun k => k ≠ g0) p.1 p.2} => x.1.2) ∘ fun p => ⟨p.1, EvR_mono p.2 (fun _ hk => hk.2)⟩) = acc := HPS.out.symm
                    rw [e2] at h
                    exact h⟩
                  clear h1 h2 h3 hne1 HB1 HSC HG d3
                  have d3 := blk_cell HG20.out 0
                  obtain ⟨d0, d1, f0, f1⟩ := cells2 HP20.out.k2
                  have d2 := blk_cell HP20.out.k1 0
                  have f2 := blk_frozen HP20.out.k1 0
                  go_wp2_with fail
                  refine ret_imp rfl rfl rfl rfl HP20.out _ _ _ rfl ?_
                  rw [HE.out]
                  exact ⟨_, rfl, R_fin3 HP20.out (Kd.R_lower HRS.out HP5.out.b0.size) _ _ _, below_fin HP20.out.b0 _ _ _⟩
end Go.Proofs.YtghjhampigbbkaaGreatDoor.PA
end

import PyProof.Rows.All
import Wide.All
import OpenK.AllK
import Wide.FinOn
import Open.SpecLaws
import KE.OsGo
import HandS.ForSpec
import HandS.Comp
import HandS.Dict
import HandS.Iter
import HandS.Walk
import HandS.Style
import HandS.Wide
import HandS.WideBits
import KE.GoesEnum
import PySem.Challenge.RW_dotpages_s03_do_three
set_option Elab.async false
set_option linter.all false
set_option maxRecDepth 100000
set_option maxHeartbeats 4000000
namespace Dp
open Sh56

/-! ### rows as numbers, pages as lists of rows -/
def mask (w : Nat) : Nat := 2 ^ w - 1
def many (w : Nat) : Nat := (w + 31) / 32
def rowOf (ws : List Nat) : Nat := ws.foldr (fun word acc => acc * 2 ^ 32 + word) 0
def pageOf (w h : Nat) (ws : List Nat) : List Nat := (List.range h).map fun i => rowOf ((ws.drop (i * many w)).take (many w)) &&& mask w
def wordsOf (w : Nat) (rows : List Nat) : List Nat := rows.flatMap fun row => (List.range (many w)).map fun k => row >>> (32 * k) &&& (2 ^ 32 - 1)

structure Rep (w h : Nat) (rows : List Nat) (x : Sh56.Page) : Prop where
  len : rows.length = h
  bit : ∀ r c, (rows.getD r 0).testBit c = dot w h x.toArray c r

theorem testBit_mask (w c : Nat) : (mask w).testBit c = decide (c < w) := by
  unfold mask
  rw [Nat.testBit_two_pow_sub_one]

theorem flat_len {α : Type} (w : Nat) (f : Nat → Nat → α) : ∀ h, ((List.range h).flatMap fun r => (List.range w).map fun c => f c r).length = h * w
  | 0 => by simp
  | h + 1 => by
    rw [List.range_succ, List.flatMap_append, List.length_append, flat_len w f h, List.flatMap_singleton, List.length_map, List.length_range, Nat.succ_mul]
theorem flat_get {α : Type} {w : Nat} {f : Nat → Nat → α} {c : Nat} (hc : c < w) : ∀ {h r : Nat}, r < h → ((List.range h).flatMap fun r => (List.range w).map fun c => f c r)[r * w + c]? = some (f c r)
  | 0, r, hr => absurd hr (Nat.not_lt_zero r)
  | h + 1, r, hr => by
    rw [List.range_succ, List.flatMap_append, List.flatMap_singleton]
    by_cases e : r < h
    · rw [List.getElem?_append_left]
      · exact flat_get hc e
      · rw [flat_len]
        have : (r + 1) * w ≤ h * w := Nat.mul_le_mul_right w e
        rw [Nat.succ_mul] at this
        omega
    · have e : r = h := by omega
      subst e
      rw [List.getElem?_append_right (by rw [flat_len]; omega), flat_len, Nat.add_sub_cancel_left, List.getElem?_map, List.getElem?_range hc]
      rfl

theorem dot_each (w h : Nat) (f : Nat → Nat → Bool) (c r : Nat) : dot w h (each w h f).toArray c r = (decide (c < w) && (decide (r < h) && f c r)) := by
  unfold dot each
  by_cases hc : c < w
  · by_cases hr : r < h
    · rw [decide_eq_true hc, decide_eq_true hr, Bool.true_and, Bool.true_and, Bool.true_and, Bool.true_and]
      rw [Array.getD_eq_getD_getElem?, List.getElem?_toArray, flat_get hc hr]
      rfl
    · rw [decide_eq_false hr]
      simp
  · rw [decide_eq_false hc]
    simp

theorem each_len (w h : Nat) (f : Nat → Nat → Bool) : (each w h f).length = h * w := flat_len w f h

theorem Rep.each {w h : Nat} {rows : List Nat} {f : Nat → Nat → Bool} (hl : rows.length = h) (hb : ∀ r c, r < h → (rows.getD r 0).testBit c = (decide (c < w) && f c r)) : Rep w h rows (each w h f) := by
  refine ⟨hl, fun r c => ?_⟩
  rw [dot_each]
  by_cases hr : r < h
  · rw [hb r c hr, decide_eq_true hr, Bool.true_and]
  · have e : rows.getD r 0 = 0 := by
      rw [List.getD_eq_getElem?_getD, List.getElem?_eq_none (by omega)]
      rfl
    rw [e, Nat.zero_testBit, decide_eq_false hr]
    simp

theorem Rep.out {w h : Nat} {rows : List Nat} {x : Sh56.Page} (R : Rep w h rows x) {r c : Nat} (hc : w ≤ c) : (rows.getD r 0).testBit c = false := by
  rw [R.bit]
  unfold dot
  rw [decide_eq_false (by omega), Bool.false_and]
theorem Rep.lt {w h : Nat} {rows : List Nat} {x : Sh56.Page} (R : Rep w h rows x) (r : Nat) : rows.getD r 0 < 2 ^ w := Nat.lt_pow_two_of_testBit _ fun _ hc => R.out hc
theorem Rep.mem_lt {w h : Nat} {rows : List Nat} {x : Sh56.Page} (R : Rep w h rows x) {n : Nat} (hn : n ∈ rows) : n < 2 ^ w := by
  obtain ⟨i, hi, e⟩ := List.mem_iff_getElem.mp hn
  have := R.lt i
  rw [List.getD_eq_getElem?_getD, List.getElem?_eq_getElem hi, Option.getD_some, e] at this
  exact this

/-! ### words -/
theorem sum_bits (n : Nat) : ∀ m, ((List.range m).map fun j => if n.testBit j = true then 2 ^ j else 0).sum = n % 2 ^ m
  | 0 => by simp [Nat.mod_one]
  | m + 1 => by
    rw [List.range_succ, List.map_append, List.sum_append, sum_bits n m, Nat.mod_pow_succ]
    simp only [List.map_cons, List.map_nil, List.sum_cons, List.sum_nil, Nat.add_zero]
    rw [Nat.testBit_eq_decide_div_mod_eq]
    have h2 : n / 2 ^ m % 2 < 2 := Nat.mod_lt _ (by decide)
    by_cases e : n / 2 ^ m % 2 = 1
    · rw [e]
      simp
    · have e0 : n / 2 ^ m % 2 = 0 := by omega
      rw [e0]
      simp

theorem word_at (n k : Nat) (g : Nat → Bool) (h : ∀ j, j < 32 → g (32 * k + j) = n.testBit (32 * k + j)) : ((List.range 32).map fun j => if g (32 * k + j) = true then 2 ^ j else 0).sum = n >>> (32 * k) &&& (2 ^ 32 - 1) := by
  rw [Nat.and_two_pow_sub_one_eq_mod, ← sum_bits]
  refine congrArg List.sum (List.map_congr_left fun j hj => ?_)
  rw [h j (List.mem_range.mp hj), Nat.testBit_shiftRight]

theorem rows_range (rows : List Nat) : (List.range rows.length).map (fun r => rows.getD r 0) = rows := by
  refine List.ext_getElem? fun i => ?_
  rw [List.getElem?_map]
  by_cases h : i < rows.length
  · rw [List.getElem?_range h, Option.map_some, List.getD_eq_getElem?_getD, List.getElem?_eq_getElem h]
    rfl
  · rw [List.getElem?_eq_none (by rw [List.length_range]; omega), List.getElem?_eq_none (by omega)]
    rfl

theorem flat_congr {α β : Type} {f g : α → List β} : ∀ {l : List α}, (∀ x ∈ l, f x = g x) → l.flatMap f = l.flatMap g
  | [], _ => rfl
  | x :: r, h => by
    rw [List.flatMap_cons, List.flatMap_cons, h x List.mem_cons_self, flat_congr fun y hy => h y (List.mem_cons_of_mem _ hy)]
theorem Rep.words {w h : Nat} {rows : List Nat} {x : Sh56.Page} (R : Rep w h rows x) : Sh56.words w h x = wordsOf w rows := by
  unfold wordsOf Sh56.words
  rw [← rows_range rows, List.flatMap_map, R.len]
  refine flat_congr fun r _ => ?_
  show (List.range (wide w)).map _ = (List.range (wide w)).map _
  refine List.map_congr_left fun k _ => ?_
  exact word_at (rows.getD r 0) k (fun i => dot w h x.toArray i r) fun j _ => (R.bit r _).symm

theorem rowOf_bit : ∀ (ws : List Nat) (c : Nat), (∀ x ∈ ws, x < 2 ^ 32) → (rowOf ws).testBit c = (ws.getD (c / 32) 0).testBit (c % 32)
  | [], c, _ => by
    show Nat.testBit 0 c = Nat.testBit 0 (c % 32)
    rw [Nat.zero_testBit, Nat.zero_testBit]
  | x :: r, c, h => by
    show (rowOf r * 2 ^ 32 + x).testBit c = _
    rw [Nat.mul_comm, Nat.testBit_two_pow_mul_add _ (h x List.mem_cons_self)]
    by_cases hc : c < 32
    · rw [if_pos hc, Nat.div_eq_of_lt hc, Nat.mod_eq_of_lt hc]
      rfl
    · rw [if_neg hc, rowOf_bit r (c - 32) fun y hy => h y (List.mem_cons_of_mem _ hy)]
      rw [show c / 32 = (c - 32) / 32 + 1 by omega, show (c - 32) % 32 = c % 32 by omega]
      rfl

theorem beq_one_testBit (a i : Nat) : (a / 2 ^ i % 2 == 1) = a.testBit i := by
  rw [Nat.testBit_eq_decide_div_mod_eq]
  rfl

theorem Rep.page {w h : Nat} {ws : List Nat} (hw : ∀ x ∈ ws, x < 2 ^ 32) : Rep w h (pageOf w h ws) (Sh56.page w h ws) := by
  have e : Sh56.page w h ws = Sh56.each w h fun c r => ws.toArray.getD (r * wide w + c / 32) 0 / 2 ^ (c % 32) % 2 == 1 := rfl
  rw [e]
  refine Rep.each (by unfold pageOf; simp) fun r c hr => ?_
  unfold pageOf
  rw [List.getD_eq_getElem?_getD, List.getElem?_map, List.getElem?_range hr, Option.map_some, Option.getD_some, Nat.testBit_and, testBit_mask, Bool.and_comm]
  by_cases hc : c < w
  · rw [decide_eq_true hc, Bool.true_and, Bool.true_and, rowOf_bit _ _ fun y hy => hw y (List.mem_of_mem_drop (List.mem_of_mem_take hy)), beq_one_testBit]
    congr 1
    have hq : c / 32 < many w := by unfold many; omega
    rw [List.getD_eq_getElem?_getD, List.getElem?_take_of_lt hq, List.getElem?_drop, Array.getD_eq_getD_getElem?, List.getElem?_toArray]
    rfl
  · rw [decide_eq_false hc, Bool.false_and, Bool.false_and]
end Dp

namespace Dp
open Sh56
/-! ### a table of three -/
def btStep (t x y z m found k : Nat) : Nat :=
  if decide (t >>> k &&& 1 = 1) = true then found ||| ((if decide (0 < k &&& 4) = true then x else x ^^^ m) &&& (if decide (0 < k &&& 2) = true then y else y ^^^ m) &&& (if decide (0 < k &&& 1) = true then z else z ^^^ m)) else found
def btab (t x y z m n : Nat) : Nat := (List.range n).foldl (btStep t x y z m) 0
theorem btab_succ (t x y z m n : Nat) : btab t x y z m (n + 1) = btStep t x y z m (btab t x y z m n) n := by
  unfold btab
  rw [List.range_succ, List.foldl_append]
  rfl
theorem shr_and_one (t k : Nat) : (t >>> k &&& 1) = (if t.testBit k = true then 1 else 0) := by
  rw [Nat.and_one_is_mod, Nat.shiftRight_eq_div_pow, Nat.testBit_eq_decide_div_mod_eq]
  have h : t / 2 ^ k % 2 < 2 := Nat.mod_lt _ (by decide)
  by_cases e : t / 2 ^ k % 2 = 1
  · rw [e]
    simp
  · have e0 : t / 2 ^ k % 2 = 0 := by omega
    rw [e0]
    simp
theorem dec_shr (t k : Nat) : decide (t >>> k &&& 1 = 1) = t.testBit k := by
  rw [shr_and_one]
  cases t.testBit k <;> rfl
theorem ite_testBit {c : Prop} [Decidable c] (a b j : Nat) : (if c then a else b).testBit j = (if c then a.testBit j else b.testBit j) := by
  by_cases h : c
  · rw [if_pos h, if_pos h]
  · rw [if_neg h, if_neg h]
theorem btStep_bit (t x y z m found k j : Nat) : (btStep t x y z m found k).testBit j = (found.testBit j || (t.testBit k && ((if decide (0 < k &&& 4) = true then x.testBit j else x.testBit j ^^ m.testBit j) && (if decide (0 < k &&& 2) = true then y.testBit j else y.testBit j ^^ m.testBit j) && (if decide (0 < k &&& 1) = true then z.testBit j else z.testBit j ^^ m.testBit j)))) := by
  unfold btStep
  rw [dec_shr]
  cases t.testBit k
  · simp
  · rw [if_pos rfl, Nat.testBit_or, Nat.testBit_and, Nat.testBit_and, ite_testBit, ite_testBit, ite_testBit, Nat.testBit_xor, Nat.testBit_xor, Nat.testBit_xor]
    simp
theorem btab_all (t x y z m : Nat) : btab t x y z m 8 = btStep t x y z m (btStep t x y z m (btStep t x y z m (btStep t x y z m (btStep t x y z m (btStep t x y z m (btStep t x y z m (btStep t x y z m 0 0) 1) 2) 3) 4) 5) 6) 7 := rfl
theorem btab_in {t x y z m j : Nat} (hm : m.testBit j = true) : (btab t x y z m 8).testBit j = byTable t (x.testBit j) (y.testBit j) (z.testBit j) := by
  rw [btab_all]
  unfold byTable
  rw [beq_one_testBit]
  simp only [btStep_bit, hm]
  cases x.testBit j <;> cases y.testBit j <;> cases z.testBit j <;> simp
theorem btab_out {t x y z m j : Nat} (hm : m.testBit j = false) (hx : x.testBit j = false) (hy : y.testBit j = false) (hz : z.testBit j = false) : (btab t x y z m 8).testBit j = false := by
  rw [btab_all]
  simp only [btStep_bit, hm, hx, hy, hz]
  simp
theorem testBit_big {a w j : Nat} (h : a < 2 ^ w) (hj : w ≤ j) : a.testBit j = false := Nat.testBit_lt_two_pow (Nat.lt_of_lt_of_le h (Nat.pow_le_pow_right (by decide) hj))
theorem byTable_mod (t : Nat) (a b c : Bool) : byTable (t % 256) a b c = byTable t a b c := by
  unfold byTable
  rw [beq_one_testBit, beq_one_testBit, show (256 : Nat) = 2 ^ 8 from rfl, Nat.testBit_mod_two_pow]
  cases a <;> cases b <;> cases c <;> simp
theorem table1_is {t a b c : Nat} (ha : a < 2 ^ 32) (hb : b < 2 ^ 32) (hc : c < 2 ^ 32) :
    ((List.range 32).map fun j => if byTable (t % 256) (a / 2 ^ j % 2 == 1) (b / 2 ^ j % 2 == 1) (c / 2 ^ j % 2 == 1) = true then 2 ^ j else 0).sum = btab t a b c (2 ^ 32 - 1) 8 := by
  have hlt : btab t a b c (2 ^ 32 - 1) 8 < 2 ^ 32 := Nat.lt_pow_two_of_testBit _ fun j hj => btab_out (by rw [Nat.testBit_two_pow_sub_one]; exact decide_eq_false (by omega)) (testBit_big ha hj) (testBit_big hb hj) (testBit_big hc hj)
  have := sum_bits (btab t a b c (2 ^ 32 - 1) 8) 32
  rw [Nat.mod_eq_of_lt hlt] at this
  rw [← this]
  refine congrArg List.sum (List.map_congr_left fun j hj => ?_)
  rw [byTable_mod, beq_one_testBit, beq_one_testBit, beq_one_testBit, btab_in (by rw [Nat.testBit_two_pow_sub_one]; exact decide_eq_true (List.mem_range.mp hj))]
end Dp

namespace Dp
open Sh56
/-! ### small mirrors -/
def side (n : Nat) : Bool := decide (1 ≤ n) && decide (n ≤ 256)
def rowAt (ns : List Nat) (r : Int) : Nat := if (decide (0 ≤ r) && decide (r < (ns.length : Int))) = true then ns.getD r.toNat 0 else 0
theorem words_len (w : Nat) : ∀ ns : List Nat, (wordsOf w ns).length = ns.length * many w
  | [] => by simp [wordsOf]
  | n :: r => by
    have e : wordsOf w (n :: r) = ((List.range (many w)).map fun k => n >>> (32 * k) &&& (2 ^ 32 - 1)) ++ wordsOf w r := rfl
    rw [e, List.length_append, words_len w r, List.length_map, List.length_range, List.length_cons, Nat.succ_mul]
    omega
theorem take_succ_getD {ns : List Nat} {i : Nat} (h : i < ns.length) : ns.take (i + 1) = ns.take i ++ [ns.getD i 0] := by
  rw [List.take_add_one, List.getElem?_eq_getElem h, List.getD_eq_getElem?_getD, List.getElem?_eq_getElem h]
  rfl
theorem words_take {w : Nat} {ns : List Nat} {i : Nat} (h : i < ns.length) : wordsOf w (ns.take (i + 1)) = wordsOf w (ns.take i) ++ (List.range (many w)).map fun k => ns.getD i 0 >>> (32 * k) &&& (2 ^ 32 - 1) := by
  rw [take_succ_getD h]
  unfold wordsOf
  rw [List.flatMap_append, List.flatMap_singleton]
end Dp

namespace Dp
open Sh56
/-! ### the defs as plain functions of rows -/
def isDot (ns : List Nat) (c r : Nat) : Nat := ns.getD r 0 >>> c &&& 1
/-- how many bits are 1 -/
def pc : Nat → Nat
  | 0 => 0
  | n + 1 => (n + 1) % 2 + pc ((n + 1) / 2)
def byBits (bits : List Nat) : Nat := ((List.range bits.length).map fun c => bits.getD c 0 <<< c).sum
def shN (row : Nat) (b : Int) (m : Nat) : Nat := if decide (0 ≤ b) = true then row <<< b.toNat &&& m else row >>> (0 - b).toNat
def mvN (w : Nat) (ns : List Nat) (dx dy : Int) : List Nat := (List.range ns.length).map fun (r : Nat) => shN (rowAt ns ((r : Int) - dy)) dx (mask w)
def toN (w : Nat) (ns : List Nat) : List Nat := ns.map fun row => row ^^^ mask w
def anyN (rows : List Nat) : Nat := rows.foldl (· ||| ·) 0
def thW (w : Nat) (ns : List Nat) (dx : Nat) : List Nat := ns.map fun row => anyN ((List.range (2 * dx + 1)).map fun (i : Nat) => shN row ((i : Int) - (dx : Int)) (mask w))
def thkN (w : Nat) (ns : List Nat) (dx dy : Nat) : List Nat := (List.range ns.length).map fun r => anyN (((thW w ns dx).drop (r - dy)).take (r + dy + 1 - (r - dy)))
def thnN (w : Nat) (ns : List Nat) (dx dy : Nat) : List Nat := toN w (thkN w (toN w ns) dx dy)
def quN (w : Nat) (ns : List Nat) : List Nat := (List.range w).map fun c => byBits ((List.range ns.length).map fun k => isDot ns c (ns.length - 1 - k))
def miN (w : Nat) (ns : List Nat) : List Nat := (List.range ns.length).map fun r => byBits ((List.range w).map fun c => isDot ns (w - 1 - c) r)
def foN (ns : List Nat) (c r : Nat) : Nat := [isDot ns (2 * c) (2 * r), isDot ns (2 * c + 1) (2 * r), isDot ns (2 * c) (2 * r + 1)].sum + isDot ns (2 * c + 1) (2 * r + 1)
def haN (w : Nat) (ns : List Nat) (k : Nat) : List Nat := (List.range (ns.length / 2)).map fun r => byBits ((List.range (w / 2)).map fun c => if decide (k ≤ foN ns c r) = true then 1 else 0)
def dbRow (w : Nat) (ns : List Nat) (r : Nat) : Nat := byBits ((List.range (2 * w)).map fun c => isDot ns (c / 2) r)
def dbN (w : Nat) (ns : List Nat) : List Nat := (List.range ns.length).flatMap fun r => [dbRow w ns r, dbRow w ns r]
def cutN (ns : List Nat) (first top wide high : Nat) : List Nat := ((ns.drop top).take high).map fun row => row >>> first &&& mask wide
def beN (w : Nat) (ns : List Nat) (dx dy : Int) : List Nat := mvN w ns (0 - dx) (0 - dy)
def niN (w : Nat) (ns : List Nat) : List (List Nat) := (List.range 9).map fun k => beN w ns (((k % 3 : Nat) : Int) - 1) (((k / 3 : Nat) : Int) - 1)
def clockL : List (Int × Int) := [(0, -1), (1, -1), (1, 0), (1, 1), (0, 1), (-1, 1), (-1, 0), (-1, -1)]
def eiN (w : Nat) (ns : List Nat) : List (List Nat) := clockL.map fun d => beN w ns d.1 d.2
def atN (pgs : List (List Nat)) (r : Nat) : List Nat := pgs.map fun ns => ns.getD r 0
def exStep (m : Nat) (found : List Nat) (row : Nat) : List Nat := (List.range found.length).map fun i => (found.getD i 0 &&& (row ^^^ m)) ||| ((0 :: found.dropLast).getD i 0 &&& row)
def exN (rows : List Nat) (m : Nat) : List Nat := rows.foldl (exStep m) (m :: List.replicate rows.length 0)
def ofN (counts : List Nat) (least most : Nat) : Nat := anyN ((counts.drop least).take (most + 1 - least))
def fiStep (black white m : Nat) (found k row : Nat) : Nat :=
  let f := if decide (black >>> k &&& 1 = 1) = true then found &&& row else found
  if decide (white >>> k &&& 1 = 1) = true then f &&& (row ^^^ m) else f
def fiRow (rows : List Nat) (black white m : Nat) (n : Nat) : Nat := (List.range n).foldl (fun f k => fiStep black white m f k (rows.getD k 0)) m
def fiN (w : Nat) (ns : List Nat) (black white : Nat) : List Nat := (List.range ns.length).map fun r => fiRow (atN (niN w ns) r) black white (mask w) (atN (niN w ns) r).length
def keN (w : Nat) (ns : List Nat) (k : Nat) : List Nat := (List.range ns.length).map fun r => ns.getD r 0 &&& ofN (exN (atN (eiN w ns) r) (mask w)) k 8
def foL (rows : List Nat) (m : Nat) : List Nat := (List.range rows.length).map fun i => (rows.getD i 0 ^^^ m) &&& (rows.drop 1 ++ rows.take 1).getD i 0
def hwN (rows some : List Nat) (m : Nat) : Nat := some.foldl (fun f k => f &&& rows.getD k 0) m ^^^ m
def goN (row : Nat) (rows first second : List Nat) (m : Nat) : Nat :=
  (row &&& ofN (exN rows m) 2 6) &&& (exN (foL rows m) m).getD 1 0 &&& hwN rows first m &&& hwN rows second m
def taN (w : Nat) (ns : List Nat) (first second : List Nat) : List Nat := (List.range ns.length).map fun r => ns.getD r 0 ^^^ goN (ns.getD r 0) (atN (eiN w ns) r) first second (mask w)
def roN (w : Nat) (ns : List Nat) : List Nat := taN w (taN w ns [0, 2, 4] [2, 4, 6]) [0, 2, 6] [0, 4, 6]
def allN (ns : List Nat) : Nat := (ns.map pc).sum

/-! ### how many bits -/
theorem pc_zero : pc 0 = 0 := by unfold pc; rfl
theorem pc_step {n : Nat} (h : 0 < n) : pc n = n % 2 + pc (n / 2) := by
  match n, h with
  | n + 1, _ =>
    rw [pc]
theorem pc_even (n : Nat) : pc (2 * n) = pc n := by
  by_cases h : n = 0
  · subst h
    rfl
  · rw [pc_step (by omega), show 2 * n % 2 = 0 by omega, show 2 * n / 2 = n by omega, Nat.zero_add]
theorem pc_odd (n : Nat) : pc (2 * n + 1) = pc n + 1 := by
  rw [pc_step (by omega), show (2 * n + 1) % 2 = 1 by omega, show (2 * n + 1) / 2 = n by omega, Nat.add_comm]
theorem and_pred_even {a : Nat} (h : 0 < a) : 2 * a &&& (2 * a - 1) = 2 * (a &&& (a - 1)) := by
  have e1 : (2 * a &&& (2 * a - 1)) / 2 = a &&& (a - 1) := by
    rw [Nat.and_div_two, show 2 * a / 2 = a by omega, show (2 * a - 1) / 2 = a - 1 by omega]
  have e2 : (2 * a &&& (2 * a - 1)) % 2 = 0 := by
    have := Nat.and_mod_two_pow (a := 2 * a) (b := 2 * a - 1) (n := 1)
    rw [Nat.pow_one] at this
    rw [this, show 2 * a % 2 = 0 by omega, Nat.zero_and]
  omega
theorem and_pred_odd (a : Nat) : (2 * a + 1) &&& (2 * a + 1 - 1) = 2 * a := by
  have e1 : ((2 * a + 1) &&& (2 * a + 1 - 1)) / 2 = a := by
    rw [Nat.and_div_two, show (2 * a + 1) / 2 = a by omega, show (2 * a + 1 - 1) / 2 = a by omega, Nat.and_self]
  have e2 : ((2 * a + 1) &&& (2 * a + 1 - 1)) % 2 = 0 := by
    have := Nat.and_mod_two_pow (a := 2 * a + 1) (b := 2 * a + 1 - 1) (n := 1)
    rw [Nat.pow_one] at this
    rw [this, show (2 * a + 1 - 1) % 2 = 0 by omega, Nat.and_zero]
  omega
theorem pc_pred : ∀ (n : Nat), 0 < n → pc n = pc (n &&& (n - 1)) + 1 := fun n => by
  induction n using Nat.strongRecOn with
  | ind n ih =>
    intro h
    by_cases e : n % 2 = 0
    · have e2 : n = 2 * (n / 2) := by omega
      rw [e2, and_pred_even (by omega), pc_even, pc_even]
      exact ih (n / 2) (by omega) (by omega)
    · have e2 : n = 2 * (n / 2) + 1 := by omega
      rw [e2, and_pred_odd, pc_odd, pc_even]
theorem pc_count : ∀ (w n : Nat), n < 2 ^ w → pc n = ((List.range w).filter fun c => n.testBit c).length
  | 0, n, h => by
    have e : n = 0 := by simpa using h
    subst e
    exact pc_zero
  | w + 1, n, h => by
    have ih := pc_count w (n / 2) (by
      rw [Nat.pow_succ] at h
      omega)
    rw [List.range_succ_eq_map, List.filter_cons, List.filter_map, List.length_eq_countP_add_countP (fun _ => true)]
    have e3 : (fun c => n.testBit c) ∘ Nat.succ = fun c => (n / 2).testBit c := by
      funext c
      show n.testBit (c + 1) = _
      rw [Nat.testBit_succ]
    rw [e3]
    by_cases e : n % 2 = 0
    · have t0 : n.testBit 0 = false := by
        rw [Nat.testBit_zero]
        exact decide_eq_false (by omega)
      have e2 : n = 2 * (n / 2) := by omega
      rw [t0, if_neg Bool.false_ne_true]
      have q : pc n = pc (n / 2) := by
        rw [e2, pc_even]
        congr 1
        omega
      rw [q, ih]
      simp
    · have t0 : n.testBit 0 = true := by
        rw [Nat.testBit_zero]
        exact decide_eq_true (by omega)
      have e2 : n = 2 * (n / 2) + 1 := by omega
      rw [t0, if_pos rfl]
      have q : pc n = pc (n / 2) + 1 := by
        rw [e2, pc_odd]
        congr 2
        omega
      rw [q, ih]
      simp

/-! ### bounds -/
def Bnd (ns : List Nat) : Prop := ∀ n ∈ ns, n < 2 ^ 600
theorem bnd_at {ns : List Nat} (h : Bnd ns) (i : Nat) : ns.getD i 0 < 2 ^ 600 := by
  rw [List.getD_eq_getElem?_getD]
  by_cases e : i < ns.length
  · rw [List.getElem?_eq_getElem e]
    exact h _ (List.getElem_mem e)
  · rw [List.getElem?_eq_none (by omega)]
    exact Nat.two_pow_pos _
theorem rowAt_lt {ns : List Nat} (h : Bnd ns) (r : Int) : rowAt ns r < 2 ^ 600 := by
  unfold rowAt
  by_cases c : (decide (0 ≤ r) && decide (r < (ns.length : Int))) = true
  · rw [if_pos c]
    exact bnd_at h _
  · rw [if_neg c]
    exact Nat.two_pow_pos _
theorem isDot_le (ns : List Nat) (c r : Nat) : isDot ns c r ≤ 1 := by
  unfold isDot
  rw [shr_and_one]
  split <;> omega
theorem mask_lt {w : Nat} (h : w ≤ 600) : mask w < 2 ^ 600 := by
  unfold mask
  have := Nat.pow_le_pow_right (n := 2) (by decide) h
  have := Nat.two_pow_pos w
  omega
end Dp
namespace Dp
theorem bnd_to {w : Nat} {ns : List Nat} (hw : w ≤ 600) (h : Bnd ns) : Bnd (toN w ns) := fun n hn => by
  obtain ⟨m, hm, rfl⟩ := List.mem_map.mp hn
  exact Nat.xor_lt_two_pow (h m hm) (mask_lt hw)
end Dp

namespace Dp
open Sh56
/-! ### the asked defs as plain functions -/
def sgN (n : Nat) : Int := if decide (4294967296 ≤ 2 * n) = true then (n : Int) - 4294967296 else (n : Int)
def zs (l : List Nat) : List Int := l.map fun (n : Nat) => (n : Int)
theorem zs_len (l : List Nat) : (zs l).length = l.length := List.length_map _
def bad (w h : Nat) : Bool := !(side w && side h)
theorem bad_no {w h : Nat} (hb : bad w h = false) : (1 ≤ w ∧ w ≤ 256) ∧ 1 ≤ h ∧ h ≤ 256 := by
  unfold bad side at hb
  simp only [Bool.not_eq_false', Bool.and_eq_true, decide_eq_true_eq] at hb
  exact hb
theorem many_le {w : Nat} (h : w ≤ 600) : many w ≤ 40 := by
  unfold many
  omega
def wrd (b : Bool) (w : Nat) (rows : List Nat) : List Int := if b = true then [-2] else 0 :: zs (wordsOf w rows)
theorem wrd_yes {b : Bool} {w : Nat} {rows : List Nat} (h : b = true) : wrd b w rows = [-2] := if_pos h
theorem wrd_no {b : Bool} {w : Nat} {rows : List Nat} (h : b = false) : wrd b w rows = 0 :: zs (wordsOf w rows) := if_neg (by rw [h]; exact Bool.false_ne_true)
def spreadN (w h : Nat) (ns : List Nat) : List Nat := (List.range h).flatMap fun r => (List.range w).map fun c => isDot ns c r
def spread_m (w h : Nat) (xs : List Nat) : List Int := if bad w h = true then [-2] else 0 :: zs (spreadN w h (pageOf w h xs))
def absI (z : Int) : Int := if z < 0 then -z else z
def move_bad (dx dy w h : Nat) : Bool := decide ((256 : Int) < absI (sgN dx)) || (decide ((256 : Int) < absI (sgN dy)) || bad w h)
def move_m (dx dy w h : Nat) (xs : List Nat) : List Int := wrd (move_bad dx dy w h) w (mvN w (pageOf w h xs) (sgN dx) (sgN dy))
def boxB (dx dy w h : Nat) : Bool := decide (dx ≤ 32) && (decide (dy ≤ 32) && (side w && side h))
def thicker_m (dx dy w h : Nat) (xs : List Nat) : List Int := wrd (!boxB dx dy w h) w (thkN w (pageOf w h xs) dx dy)
def thinner_m (dx dy w h : Nat) (xs : List Nat) : List Int := wrd (!boxB dx dy w h) w (thnN w (pageOf w h xs) dx dy)
def open_m (dx dy w h : Nat) (xs : List Nat) : List Int := wrd (!boxB dx dy w h) w (thkN w (thnN w (pageOf w h xs) dx dy) dx dy)
def close_m (dx dy w h : Nat) (xs : List Nat) : List Int := wrd (!boxB dx dy w h) w (thnN w (thkN w (pageOf w h xs) dx dy) dx dy)
def fit_bad (black white w h : Nat) : Bool := decide (511 < black) || (decide (511 < white) || bad w h)
def fit_m (black white w h : Nat) (xs : List Nat) : List Int := wrd (fit_bad black white w h) w (fiN w (pageOf w h xs) black white)
def keep_bad (k w h : Nat) : Bool := decide (9 < k) || bad w h
def keep_m (k w h : Nat) (xs : List Nat) : List Int := wrd (keep_bad k w h) w (keN w (pageOf w h xs) k)
def mirror_m (w h : Nat) (xs : List Nat) : List Int := wrd (bad w h) w (miN w (pageOf w h xs))
def half_bad (k w h : Nat) : Bool := (!(decide (1 ≤ k) && decide (k ≤ 4))) || bad w h
def half_m (k w h : Nat) (xs : List Nat) : List Int := wrd (half_bad k w h) (w / 2) (haN w (pageOf w h xs) k)
def double_m (w h : Nat) (xs : List Nat) : List Int := wrd (bad w h) (2 * w) (dbN w (pageOf w h xs))
def cut_bad (x0 y0 uu vv w h : Nat) : Bool := bad w h || ((!(decide (1 ≤ uu) && decide (uu ≤ w))) || ((!(decide (1 ≤ vv) && decide (vv ≤ h))) || (decide (w < x0 + uu) || decide (h < y0 + vv))))
def cut_m (x0 y0 uu vv w h : Nat) (xs : List Nat) : List Int := wrd (cut_bad x0 y0 uu vv w h) uu (cutN (pageOf w h xs) x0 y0 uu vv)
/-- q quarters: how wide, the rows -/
def tuN : Nat → Nat × List Nat → Nat × List Nat
  | 0, p => p
  | q + 1, p => let r := tuN q p
    (r.2.length, quN r.1 r.2)
def turn_bad (q w h : Nat) : Bool := decide (3 < q) || bad w h
def turn_m (q w h : Nat) (xs : List Nat) : List Int := wrd (turn_bad q w h) (tuN q (w, pageOf w h xs)).1 (tuN q (w, pageOf w h xs)).2
def apart_m (w h : Nat) (xs ys : List Nat) : List Int := if bad w h = true then [-2] else [((((List.range h).map fun r => pc ((pageOf w h xs).getD r 0 ^^^ (pageOf w h ys).getD r 0)).sum : Nat) : Int)]
def colN (w : Nat) (ns : List Nat) : List Nat := (List.range w).map fun c => (ns.map fun row => row >>> c &&& 1).sum
def counts_m (w h : Nat) (xs : List Nat) : List Int := if bad w h = true then [-2] else zs ([allN (pageOf w h xs), w] ++ colN w (pageOf w h xs) ++ [h] ++ (pageOf w h xs).map pc)
def begN (w row : Nat) : List Nat := (List.range w).filter fun c => decide (row >>> c &&& 1 = 1) && decide ((row <<< 1) >>> c &&& 1 = 0)
def endN (w row : Nat) : List Nat := (List.range w).filter fun c => decide (row >>> c &&& 1 = 1) && decide (row >>> (c + 1) &&& 1 = 0)
def runs_bad (r w h : Nat) : Bool := bad w h || decide (h ≤ r)
def lenZ (w row : Nat) : List Int := (List.range (begN w row).length).map fun i => (((endN w row).getD i 0 : Nat) : Int) - (((begN w row).getD i 0 : Nat) : Int) + 1
def runs_m (r w h : Nat) (xs : List Nat) : List Int := if runs_bad r w h = true then [-2] else
  zs ([(begN w ((pageOf w h xs).getD r 0)).length, (begN w ((pageOf w h xs).getD r 0)).length] ++ begN w ((pageOf w h xs).getD r 0) ++ [(begN w ((pageOf w h xs).getD r 0)).length]) ++ lenZ w ((pageOf w h xs).getD r 0)
def bxR (h : Nat) (ns : List Nat) : List Nat := (List.range h).filter fun r => !decide (ns.getD r 0 = 0)
def bxC (w : Nat) (ns : List Nat) : List Nat := (List.range w).filter fun c => (ns.map fun row => decide (row >>> c &&& 1 = 1)).any id
/-- from the first to the last of a list, both told -/
def lastN (l : List Nat) : Nat := l.getD (l.length - 1) 0
def box_m (w h : Nat) (xs : List Nat) : List Int := if bad w h = true then [-2] else
  if decide (bxR h (pageOf w h xs) = []) = true then [-6] else
  [0, (((bxC w (pageOf w h xs)).getD 0 0 : Nat) : Int), (((bxR h (pageOf w h xs)).getD 0 0 : Nat) : Int), ((lastN (bxC w (pageOf w h xs)) : Nat) : Int) - (((bxC w (pageOf w h xs)).getD 0 0 : Nat) : Int) + 1, ((lastN (bxR h (pageOf w h xs)) : Nat) : Int) - (((bxR h (pageOf w h xs)).getD 0 0 : Nat) : Int) + 1]
def three_bad (t w h : Nat) : Bool := decide (255 < t) || bad w h
def threeN (t w h : Nat) (a b c : List Nat) : List Nat := (List.range h).map fun r => btab t (a.getD r 0) (b.getD r 0) (c.getD r 0) (mask w) 8
def three_m (t w h : Nat) (xs ys zs' : List Nat) : List Int := wrd (three_bad t w h) w (threeN t w h (pageOf w h xs) (pageOf w h ys) (pageOf w h zs'))
def packRow (b : List Nat) : Nat := byBits (b.map fun x => if (!decide (x = 0)) = true then 1 else 0)
def packN (w h : Nat) (b : List Nat) : List Nat := (List.range h).map fun i => packRow ((b.drop (i * w)).take w)
def pack_bad (w : Nat) (b : List Nat) : Bool := (!side w) || !side (b.length / w)
def pack_m (w : Nat) (b : List Nat) : List Int := wrd (pack_bad w b) w (packN w (b.length / w) b)
/-- thinned: how many rounds at most; the page, how many rounds -/
def thiN (w : Nat) : Nat → List Nat → List Nat × Nat
  | 0, ns => (ns, 0)
  | f + 1, ns => if decide (allN (roN w ns) < allN ns) = true then
      let z := thiN w f (roN w ns)
      (z.1, z.2 + 1)
    else (ns, 0)
def thin_m (w h : Nat) (xs : List Nat) : List Int := if bad w h = true then [-2] else
  let ns := pageOf w h xs
  let z := thiN w (allN ns) ns
  (z.2 : Int) :: zs (wordsOf w z.1)
theorem pageOf_len (w h : Nat) (xs : List Nat) : (pageOf w h xs).length = h := by
  unfold pageOf
  simp
theorem bnd_page {w h : Nat} (hw : w ≤ 600) (xs : List Nat) : Bnd (pageOf w h xs) := fun n hn => by
  obtain ⟨i, _, rfl⟩ := List.mem_map.mp hn
  exact Nat.lt_of_le_of_lt Nat.and_le_right (mask_lt hw)
end Dp
namespace Dp
theorem db_len (w : Nat) (ns : List Nat) : ∀ i, ((List.range i).flatMap fun r => [dbRow w ns r, dbRow w ns r]).length = 2 * i
  | 0 => rfl
  | i + 1 => by
    rw [List.range_succ, List.flatMap_append, List.length_append, db_len w ns i, List.flatMap_singleton]
    show 2 * i + 2 = 2 * (i + 1)
    omega
end Dp
namespace Dp
/-- the words told behind i rows and k words more -/
def wdTo (w : Nat) (ns : List Nat) (i k : Nat) : List Nat := wordsOf w (ns.take i) ++ (List.range k).map fun k => ns.getD i 0 >>> (32 * k) &&& (2 ^ 32 - 1)
theorem wdTo_zero (w : Nat) (ns : List Nat) (i : Nat) : wdTo w ns i 0 = wordsOf w (ns.take i) := by
  unfold wdTo
  rw [List.range_zero, List.map_nil, List.append_nil]
theorem wdTo_succ (w : Nat) (ns : List Nat) (i k : Nat) : wdTo w ns i (k + 1) = wdTo w ns i k ++ [ns.getD i 0 >>> (32 * k) &&& (4294967296 - 1)] := by
  unfold wdTo
  rw [List.range_succ, List.map_append, List.append_assoc]
  rfl
theorem wdTo_all {w : Nat} {ns : List Nat} {i : Nat} (h : i < ns.length) : wdTo w ns i (many w) = wordsOf w (ns.take (i + 1)) := (words_take h).symm
theorem wdTo_len (w : Nat) (ns : List Nat) (i k : Nat) : (wdTo w ns i k).length ≤ ns.length * many w + k := by
  unfold wdTo
  rw [List.length_append, words_len, List.length_map, List.length_range, List.length_take]
  exact Nat.add_le_add_right (Nat.mul_le_mul_right _ (Nat.min_le_right _ _)) _
end Dp
namespace Dp
theorem mvN_len (w : Nat) (ns : List Nat) (dx dy : Int) : (mvN w ns dx dy).length = ns.length := by
  unfold mvN
  rw [List.length_map, List.length_range]
theorem toN_len (w : Nat) (ns : List Nat) : (toN w ns).length = ns.length := List.length_map _
theorem thkN_len (w : Nat) (ns : List Nat) (dx dy : Nat) : (thkN w ns dx dy).length = ns.length := by
  unfold thkN
  rw [List.length_map, List.length_range]
theorem thnN_len (w : Nat) (ns : List Nat) (dx dy : Nat) : (thnN w ns dx dy).length = ns.length := by
  unfold thnN
  rw [toN_len, thkN_len, toN_len]
theorem miN_len (w : Nat) (ns : List Nat) : (miN w ns).length = ns.length := by
  unfold miN
  rw [List.length_map, List.length_range]
theorem quN_len (w : Nat) (ns : List Nat) : (quN w ns).length = w := by
  unfold quN
  rw [List.length_map, List.length_range]
theorem haN_len (w : Nat) (ns : List Nat) (k : Nat) : (haN w ns k).length = ns.length / 2 := by
  unfold haN
  rw [List.length_map, List.length_range]
theorem dbN_len (w : Nat) (ns : List Nat) : (dbN w ns).length = 2 * ns.length := db_len w ns ns.length
theorem cutN_len (ns : List Nat) (x0 y0 u v : Nat) : (cutN ns x0 y0 u v).length ≤ ns.length := by
  unfold cutN
  rw [List.length_map, List.length_take, List.length_drop]
  omega
theorem fiN_len (w : Nat) (ns : List Nat) (a b : Nat) : (fiN w ns a b).length = ns.length := by
  unfold fiN
  rw [List.length_map, List.length_range]
theorem keN_len (w : Nat) (ns : List Nat) (k : Nat) : (keN w ns k).length = ns.length := by
  unfold keN
  rw [List.length_map, List.length_range]
theorem taN_len (w : Nat) (ns : List Nat) (a b : List Nat) : (taN w ns a b).length = ns.length := by
  unfold taN
  rw [List.length_map, List.length_range]
theorem roN_len (w : Nat) (ns : List Nat) : (roN w ns).length = ns.length := by
  unfold roN
  rw [taN_len, taN_len]
theorem absI_le {z : Int} {n : Int} (h : absI z ≤ n) : -n ≤ z ∧ z ≤ n := by
  unfold absI at h
  split at h <;> omega
theorem move_no {dx dy w h : Nat} (hb : move_bad dx dy w h = false) : (-256 ≤ sgN dx ∧ sgN dx ≤ 256) ∧ (-256 ≤ sgN dy ∧ sgN dy ≤ 256) ∧ (1 ≤ w ∧ w ≤ 256) ∧ 1 ≤ h ∧ h ≤ 256 := by
  unfold move_bad at hb
  rw [Bool.or_eq_false_iff, Bool.or_eq_false_iff, decide_eq_false_iff_not, decide_eq_false_iff_not] at hb
  obtain ⟨a, b, c⟩ := hb
  exact ⟨absI_le (by omega), absI_le (by omega), bad_no c⟩
def nobox (dx dy w h : Nat) : Bool := !boxB dx dy w h
theorem nobox_no {dx dy w h : Nat} (hb : nobox dx dy w h = false) : dx ≤ 32 ∧ dy ≤ 32 ∧ (1 ≤ w ∧ w ≤ 256) ∧ 1 ≤ h ∧ h ≤ 256 := by
  unfold nobox boxB at hb
  rw [Bool.not_eq_false', Bool.and_eq_true, Bool.and_eq_true, decide_eq_true_eq, decide_eq_true_eq] at hb
  exact ⟨hb.1, hb.2.1, bad_no (by unfold bad; rw [hb.2.2]; rfl)⟩
theorem half_no {k w h : Nat} (hb : half_bad k w h = false) : (1 ≤ k ∧ k ≤ 4) ∧ (1 ≤ w ∧ w ≤ 256) ∧ 1 ≤ h ∧ h ≤ 256 := by
  unfold half_bad at hb
  rw [Bool.or_eq_false_iff, Bool.not_eq_false', Bool.and_eq_true, decide_eq_true_eq, decide_eq_true_eq] at hb
  exact ⟨hb.1, bad_no hb.2⟩
theorem cut_no {x0 y0 uu vv w h : Nat} (hb : cut_bad x0 y0 uu vv w h = false) : (1 ≤ uu ∧ x0 + uu ≤ w) ∧ (1 ≤ vv ∧ y0 + vv ≤ h) ∧ (1 ≤ w ∧ w ≤ 256) ∧ 1 ≤ h ∧ h ≤ 256 := by
  unfold cut_bad at hb
  simp only [Bool.or_eq_false_iff, Bool.not_eq_false', Bool.and_eq_true, decide_eq_true_eq, decide_eq_false_iff_not] at hb
  obtain ⟨a, b, c, d, e⟩ := hb
  exact ⟨⟨b.1, by omega⟩, ⟨c.1, by omega⟩, bad_no a⟩
theorem fit_no {black white w h : Nat} (hb : fit_bad black white w h = false) : black ≤ 511 ∧ white ≤ 511 ∧ (1 ≤ w ∧ w ≤ 256) ∧ 1 ≤ h ∧ h ≤ 256 := by
  unfold fit_bad at hb
  rw [Bool.or_eq_false_iff, Bool.or_eq_false_iff, decide_eq_false_iff_not, decide_eq_false_iff_not] at hb
  exact ⟨by omega, by omega, bad_no hb.2.2⟩
theorem keep_no {k w h : Nat} (hb : keep_bad k w h = false) : k ≤ 9 ∧ (1 ≤ w ∧ w ≤ 256) ∧ 1 ≤ h ∧ h ≤ 256 := by
  unfold keep_bad at hb
  rw [Bool.or_eq_false_iff, decide_eq_false_iff_not] at hb
  exact ⟨by omega, bad_no hb.2⟩
theorem chain_nat (a b c : Nat) : (decide ((a : Int) ≤ (b : Int)) && decide ((b : Int) ≤ (c : Int))) = (decide (a ≤ b) && decide (b ≤ c)) := by
  rw [decide_eq_decide.mpr (show (a : Int) ≤ (b : Int) ↔ a ≤ b by omega), decide_eq_decide.mpr (show (b : Int) ≤ (c : Int) ↔ b ≤ c by omega)]
theorem spread_len (w i : Nat) (ns : List Nat) : (spreadN w i ns).length = i * w := flat_len w (fun c r => isDot ns c r) i
theorem spread_succ (w i : Nat) (ns : List Nat) : spreadN w (i + 1) ns = spreadN w i ns ++ (List.range w).map fun c => isDot ns c i := by
  unfold spreadN
  rw [List.range_succ, List.flatMap_append, List.flatMap_singleton]
theorem or_lt {a b n : Nat} (ha : a < 2 ^ n) (hb : b < 2 ^ n) : a ||| b < 2 ^ n := Nat.or_lt_two_pow ha hb
theorem anyN_lt {n : Nat} {ns : List Nat} (h : ∀ x ∈ ns, x < 2 ^ n) : anyN ns < 2 ^ n := by
  have q : ∀ (l : List Nat) (a : Nat), a < 2 ^ n → (∀ x ∈ l, x < 2 ^ n) → l.foldl (· ||| ·) a < 2 ^ n := by
    intro l
    induction l with
    | nil => exact fun a ha _ => ha
    | cons x r ih => exact fun a ha hl => ih _ (or_lt ha (hl x List.mem_cons_self)) fun y hy => hl y (List.mem_cons_of_mem _ hy)
  exact q ns 0 (Nat.two_pow_pos n) h
theorem shN_lt {r : Nat} {b : Int} {m : Nat} (hr : r < 2 ^ 600) (hm : m < 2 ^ 600) : shN r b m < 2 ^ 600 := by
  unfold shN
  by_cases c : decide (0 ≤ b) = true
  · rw [if_pos c]
    exact Nat.lt_of_le_of_lt Nat.and_le_right hm
  · rw [if_neg c, Nat.shiftRight_eq_div_pow]
    exact Nat.lt_of_le_of_lt (Nat.div_le_self _ _) hr
theorem bnd_thk {w dx dy : Nat} {ns : List Nat} (hw : w ≤ 600) (h : Bnd ns) : Bnd (thkN w ns dx dy) := fun n hn => by
  obtain ⟨r, _, rfl⟩ := List.mem_map.mp hn
  refine anyN_lt fun x hx => ?_
  have hx := List.mem_of_mem_drop (List.mem_of_mem_take hx)
  obtain ⟨row, hrow, rfl⟩ := List.mem_map.mp hx
  refine anyN_lt fun y hy => ?_
  obtain ⟨i, _, rfl⟩ := List.mem_map.mp hy
  exact shN_lt (h row hrow) (mask_lt hw)
theorem bnd_thn {w dx dy : Nat} {ns : List Nat} (hw : w ≤ 600) (h : Bnd ns) : Bnd (thnN w ns dx dy) := bnd_to hw (bnd_thk hw (bnd_to hw h))
end Dp

namespace Dp
open Sh56
/-! ### bits of what the defs make -/
theorem anyN_bit (c : Nat) : ∀ (l : List Nat), (anyN l).testBit c = l.any fun n => n.testBit c := by
  have q : ∀ (l : List Nat) (a : Nat), (l.foldl (· ||| ·) a).testBit c = (a.testBit c || l.any fun n => n.testBit c) := by
    intro l
    induction l with
    | nil => exact fun a => by simp
    | cons x r ih => exact fun a => by rw [List.foldl_cons, ih, Nat.testBit_or, List.any_cons, Bool.or_assoc]
  intro l
  unfold anyN
  rw [q, Nat.zero_testBit, Bool.false_or]
theorem shN_bit {row w c : Nat} {b : Int} (hr : ∀ j, w ≤ j → row.testBit j = false) : (shN row b (mask w)).testBit c = true ↔ c < w ∧ ∃ p : Nat, (p : Int) = (c : Int) - b ∧ row.testBit p = true := by
  unfold shN
  by_cases h : (0 : Int) ≤ b
  · rw [if_pos (decide_eq_true h), Nat.testBit_and, testBit_mask, Nat.testBit_shiftLeft, Bool.and_eq_true, Bool.and_eq_true, decide_eq_true_eq, decide_eq_true_eq]
    constructor
    · rintro ⟨⟨h1, h2⟩, h3⟩
      exact ⟨h3, c - b.toNat, by omega, h2⟩
    · rintro ⟨h1, p, h2, h3⟩
      have e : c - b.toNat = p := by omega
      exact ⟨⟨by omega, by rw [e]; exact h3⟩, h1⟩
  · rw [if_neg (by rw [decide_eq_true_eq]; exact h), Nat.testBit_shiftRight]
    constructor
    · intro h1
      refine ⟨?_, (0 - b).toNat + c, by omega, h1⟩
      by_cases hc : w ≤ (0 - b).toNat + c
      · rw [hr _ hc] at h1
        cases h1
      · omega
    · rintro ⟨h1, p, h2, h3⟩
      have e : (0 - b).toNat + c = p := by omega
      rw [e]
      exact h3
theorem getD_map_range {n : Nat} {f : Nat → Nat} {i : Nat} (h : i < n) : ((List.range n).map f).getD i 0 = f i := by
  rw [List.getD_eq_getElem?_getD, List.getElem?_map, List.getElem?_range h]
  rfl
theorem getD_map {ns : List Nat} {f : Nat → Nat} {i : Nat} (h : i < ns.length) : (ns.map f).getD i 0 = f (ns.getD i 0) := by
  rw [List.getD_eq_getElem?_getD, List.getElem?_map, List.getElem?_eq_getElem h, List.getD_eq_getElem?_getD, List.getElem?_eq_getElem h]
  rfl
theorem getD_out {ns : List Nat} {i : Nat} (h : ns.length ≤ i) : ns.getD i 0 = 0 := by
  rw [List.getD_eq_getElem?_getD, List.getElem?_eq_none h]
  rfl
theorem mem_getD {ns : List Nat} {x : Nat} : x ∈ ns ↔ ∃ i, i < ns.length ∧ ns.getD i 0 = x := by
  constructor
  · intro h
    obtain ⟨i, hi, e⟩ := List.mem_iff_getElem.mp h
    exact ⟨i, hi, by rw [List.getD_eq_getElem?_getD, List.getElem?_eq_getElem hi]; exact e⟩
  · rintro ⟨i, hi, e⟩
    rw [List.getD_eq_getElem?_getD, List.getElem?_eq_getElem hi] at e
    exact List.mem_iff_getElem.mpr ⟨i, hi, e⟩
theorem getD_cut {ns : List Nat} {a b i : Nat} (h : i < b) : ((ns.drop a).take b).getD i 0 = ns.getD (a + i) 0 := by
  rw [List.getD_eq_getElem?_getD, List.getElem?_take_of_lt h, List.getElem?_drop, List.getD_eq_getElem?_getD]
theorem mem_cut {ns : List Nat} {a b x : Nat} : x ∈ (ns.drop a).take b ↔ ∃ i, a ≤ i ∧ i < a + b ∧ i < ns.length ∧ ns.getD i 0 = x := by
  rw [mem_getD]
  constructor
  · rintro ⟨i, hi, e⟩
    rw [List.length_take, List.length_drop] at hi
    rw [getD_cut (by omega)] at e
    exact ⟨a + i, by omega, by omega, by omega, e⟩
  · rintro ⟨i, h1, h2, h3, e⟩
    refine ⟨i - a, by rw [List.length_take, List.length_drop]; omega, ?_⟩
    rw [getD_cut (by omega), show a + (i - a) = i by omega]
    exact e
theorem span_mem {m d n p : Nat} : p ∈ span m d n ↔ p < n ∧ m ≤ p + d ∧ p ≤ m + d := by
  unfold span
  rw [List.mem_filterMap]
  constructor
  · rintro ⟨j, hj, e⟩
    rw [List.mem_range] at hj
    split at e
    · cases e
      omega
    · cases e
  · rintro ⟨h1, h2, h3⟩
    refine ⟨p + d - m, List.mem_range.mpr (by omega), ?_⟩
    rw [if_pos (by omega)]
    congr 1
    omega
/-- bits from column w on are 0 -/
def Off (w : Nat) (ns : List Nat) : Prop := ∀ r j, w ≤ j → (ns.getD r 0).testBit j = false
theorem Rep.off {w h : Nat} {rows : List Nat} {x : Sh56.Page} (R : Rep w h rows x) : Off w rows := fun _ _ hj => R.out hj
theorem thW_bit {w dx c q : Nat} {ns : List Nat} (ho : Off w ns) (hq : q < ns.length) : ((thW w ns dx).getD q 0).testBit c = true ↔ c < w ∧ ∃ p, p < w ∧ c ≤ p + dx ∧ p ≤ c + dx ∧ (ns.getD q 0).testBit p = true := by
  unfold thW
  rw [getD_map hq, anyN_bit, List.any_eq_true]
  constructor
  · rintro ⟨x, hx, hb⟩
    obtain ⟨i, hi, rfl⟩ := List.mem_map.mp hx
    rw [List.mem_range] at hi
    obtain ⟨h1, p, h2, h3⟩ := (shN_bit (ho q)).mp hb
    refine ⟨h1, p, ?_, by omega, by omega, h3⟩
    by_cases hp : p < w
    · exact hp
    · rw [ho q p (by omega)] at h3
      cases h3
  · rintro ⟨h1, p, h2, h3, h4, h5⟩
    exact ⟨_, List.mem_map.mpr ⟨c + dx - p, List.mem_range.mpr (by omega), rfl⟩, (shN_bit (ho q)).mpr ⟨h1, p, by omega, h5⟩⟩
theorem thkN_bit {w dx dy c r : Nat} {ns : List Nat} (ho : Off w ns) (hr : r < ns.length) : ((thkN w ns dx dy).getD r 0).testBit c = true ↔ c < w ∧ ∃ q p, (q < ns.length ∧ r ≤ q + dy ∧ q ≤ r + dy) ∧ (p < w ∧ c ≤ p + dx ∧ p ≤ c + dx) ∧ (ns.getD q 0).testBit p = true := by
  unfold thkN
  rw [getD_map_range hr, anyN_bit, List.any_eq_true]
  have hl : (thW w ns dx).length = ns.length := List.length_map _
  constructor
  · rintro ⟨x, hx, hb⟩
    obtain ⟨q, h1, h2, h3, rfl⟩ := mem_cut.mp hx
    rw [hl] at h3
    obtain ⟨hc, p, p1, p2, p3, p4⟩ := (thW_bit ho h3).mp hb
    exact ⟨hc, q, p, ⟨h3, by omega, by omega⟩, ⟨p1, p2, p3⟩, p4⟩
  · rintro ⟨hc, q, p, ⟨q1, q2, q3⟩, ⟨p1, p2, p3⟩, p4⟩
    exact ⟨_, mem_cut.mpr ⟨q, by omega, by omega, by rw [hl]; exact q1, rfl⟩, (thW_bit ho q1).mpr ⟨hc, p, p1, p2, p3, p4⟩⟩
theorem bool_iff {a b : Bool} (h : a = true ↔ b = true) : a = b := by
  cases a <;> cases b <;> simp_all
theorem Rep.thk {w h dx dy : Nat} {rows : List Nat} {x : Sh56.Page} (R : Rep w h rows x) : Rep w h (thkN w rows dx dy) (Sh56.thicker w h dx dy x) := by
  unfold Sh56.thicker
  refine Rep.each (by rw [thkN_len, R.len]) fun r c hr => bool_iff ?_
  rw [thkN_bit R.off (by rw [R.len]; exact hr), R.len, Bool.and_eq_true, decide_eq_true_eq, List.any_eq_true]
  refine and_congr_right fun hc => ?_
  constructor
  · rintro ⟨q, p, hq, hp, hb⟩
    refine ⟨q, span_mem.mpr hq, ?_⟩
    rw [dot_each, decide_eq_true hc, decide_eq_true hq.1, Bool.true_and, Bool.true_and, List.any_eq_true]
    exact ⟨p, span_mem.mpr hp, by rw [← R.bit]; exact hb⟩
  · rintro ⟨q, hq, hb⟩
    have hq := span_mem.mp hq
    rw [dot_each, decide_eq_true hc, decide_eq_true hq.1, Bool.true_and, Bool.true_and, List.any_eq_true] at hb
    obtain ⟨p, hp, hb⟩ := hb
    exact ⟨q, p, hq, span_mem.mp hp, by rw [R.bit]; exact hb⟩
theorem toN_bit {w r c : Nat} {ns : List Nat} (ho : Off w ns) (hr : r < ns.length) : ((toN w ns).getD r 0).testBit c = (decide (c < w) && !(ns.getD r 0).testBit c) := by
  unfold toN
  rw [getD_map hr, Nat.testBit_xor, testBit_mask]
  by_cases hc : c < w
  · rw [decide_eq_true hc]
    simp
  · rw [decide_eq_false hc, ho r c (by omega)]
    rfl
theorem toN_off {w : Nat} {ns : List Nat} (ho : Off w ns) : Off w (toN w ns) := fun r j hj => by
  by_cases hr : r < ns.length
  · rw [toN_bit ho hr, decide_eq_false (by omega)]
    rfl
  · rw [getD_out (by rw [toN_len]; omega), Nat.zero_testBit]
theorem thkN_off {w dx dy : Nat} {ns : List Nat} (ho : Off w ns) : Off w (thkN w ns dx dy) := fun r j hj => by
  by_cases hr : r < ns.length
  · cases e : ((thkN w ns dx dy).getD r 0).testBit j with
    | false => rfl
    | true =>
      have := ((thkN_bit ho hr).mp e).1
      omega
  · rw [getD_out (by rw [thkN_len]; omega), Nat.zero_testBit]
theorem Rep.thn {w h dx dy : Nat} {rows : List Nat} {x : Sh56.Page} (R : Rep w h rows x) : Rep w h (thnN w rows dx dy) (Sh56.thinner w h dx dy x) := by
  unfold Sh56.thinner
  refine Rep.each (by rw [thnN_len, R.len]) fun r c hr => ?_
  have hr' : r < rows.length := by rw [R.len]; exact hr
  unfold thnN
  rw [toN_bit (thkN_off (toN_off R.off)) (by rw [thkN_len, toN_len]; exact hr')]
  by_cases hc : c < w
  · rw [decide_eq_true hc, Bool.true_and, Bool.true_and]
    refine bool_iff ?_
    rw [Bool.not_eq_true', Bool.eq_false_iff, Ne, thkN_bit (toN_off R.off) (by rw [toN_len]; exact hr'), List.all_eq_true, toN_len, R.len]
    constructor
    · intro hn q hq
      have hq := span_mem.mp hq
      rw [dot_each, decide_eq_true hc, decide_eq_true hq.1, Bool.true_and, Bool.true_and, List.all_eq_true]
      intro p hp
      have hp := span_mem.mp hp
      cases e : dot w h x.toArray p q with
      | true => rfl
      | false =>
        refine absurd ⟨hc, q, p, hq, hp, ?_⟩ hn
        rw [toN_bit R.off (by rw [R.len]; exact hq.1), R.bit, e, decide_eq_true hp.1]
        rfl
    · rintro ha ⟨_, q, p, hq, hp, hb⟩
      have q1 := ha q (span_mem.mpr hq)
      rw [dot_each, decide_eq_true hc, decide_eq_true hq.1, Bool.true_and, Bool.true_and, List.all_eq_true] at q1
      have q2 := q1 p (span_mem.mpr hp)
      rw [toN_bit R.off (by rw [R.len]; exact hq.1), R.bit, q2, decide_eq_true hp.1] at hb
      cases hb
  · rw [decide_eq_false hc, Bool.false_and, Bool.false_and]
theorem Rep.mv {w h : Nat} {dx dy : Int} {rows : List Nat} {x : Sh56.Page} (R : Rep w h rows x) : Rep w h (mvN w rows dx dy) (Sh56.moved w h dx dy x) := by
  unfold Sh56.moved
  refine Rep.each (by rw [mvN_len, R.len]) fun r c hr => ?_
  unfold mvN there
  rw [R.len, getD_map_range hr]
  have ho : ∀ j, w ≤ j → (rowAt rows ((r : Int) - dy)).testBit j = false := fun j hj => by
    unfold rowAt
    split
    · exact R.out hj
    · exact Nat.zero_testBit j
  refine bool_iff ?_
  rw [shN_bit ho, Bool.and_eq_true, decide_eq_true_eq]
  refine and_congr_right fun hc => ?_
  rw [Bool.and_eq_true, Bool.and_eq_true, decide_eq_true_eq, decide_eq_true_eq, ← R.bit]
  unfold rowAt
  rw [R.len]
  constructor
  · rintro ⟨p, hp, hb⟩
    by_cases g : (decide (0 ≤ (r : Int) - dy) && decide ((r : Int) - dy < (h : Int))) = true
    · rw [if_pos g] at hb
      rw [Bool.and_eq_true, decide_eq_true_eq, decide_eq_true_eq] at g
      exact ⟨by omega, g.1, by rw [show ((c : Int) - dx).toNat = p by omega]; exact hb⟩
    · rw [if_neg g, Nat.zero_testBit] at hb
      cases hb
  · rintro ⟨h1, h2, h3⟩
    refine ⟨((c : Int) - dx).toNat, by omega, ?_⟩
    by_cases g : (r : Int) - dy < (h : Int)
    · rw [if_pos (by rw [decide_eq_true h2, decide_eq_true g]; rfl)]
      exact h3
    · rw [getD_out (by rw [R.len]; omega), Nat.zero_testBit] at h3
      cases h3
/-! ### rows by their bits -/
theorem sum_pow (p : Nat → Bool) : ∀ n, ((List.range n).map fun j => if p j = true then 2 ^ j else 0).sum < 2 ^ n ∧ ∀ c, (((List.range n).map fun j => if p j = true then 2 ^ j else 0).sum).testBit c = (decide (c < n) && p c)
  | 0 => ⟨by simp, fun c => by simp⟩
  | n + 1 => by
    obtain ⟨h1, h2⟩ := sum_pow p n
    rw [List.range_succ, List.map_append, List.sum_append]
    generalize ((List.range n).map fun j => if p j = true then 2 ^ j else 0).sum = S at h1 h2
    have e : S + (List.map (fun j => if p j = true then 2 ^ j else 0) [n]).sum = 2 ^ n * (if p n = true then 1 else 0) + S := by
      simp only [List.map_cons, List.map_nil, List.sum_cons, List.sum_nil, Nat.add_zero]
      split <;> omega
    rw [e]
    constructor
    · rw [Nat.pow_succ]
      split <;> omega
    · intro c
      rw [Nat.testBit_two_pow_mul_add _ h1]
      by_cases hc : c < n
      · rw [if_pos hc, h2, decide_eq_true hc, decide_eq_true (by omega)]
      · rw [if_neg hc]
        by_cases hc2 : c = n
        · subst hc2
          rw [Nat.sub_self, decide_eq_true (by omega)]
          cases p c <;> rfl
        · rw [decide_eq_false (by omega), Bool.false_and]
          have : c - n ≠ 0 := by omega
          split
          · rw [show (1 : Nat) = 2 ^ 0 from rfl, Nat.testBit_two_pow]
            exact decide_eq_false (by omega)
          · exact Nat.zero_testBit _
theorem byBits_bit {n : Nat} {p : Nat → Bool} {g : Nat → Nat} (h : ∀ k, k < n → g k = if p k = true then 1 else 0) (c : Nat) : (byBits ((List.range n).map g)).testBit c = (decide (c < n) && p c) := by
  rw [← (sum_pow p n).2 c]
  unfold byBits
  rw [List.length_map, List.length_range]
  congr 2
  refine List.map_congr_left fun k hk => ?_
  have hk := List.mem_range.mp hk
  rw [getD_map_range hk, h k hk, Nat.shiftLeft_eq]
  split
  · rw [Nat.one_mul]
  · rw [Nat.zero_mul]
theorem isDot_ite (ns : List Nat) (c r : Nat) : isDot ns c r = if (ns.getD r 0).testBit c = true then 1 else 0 := shr_and_one _ _
theorem Rep.mi {w h : Nat} {rows : List Nat} {x : Sh56.Page} (R : Rep w h rows x) : Rep w h (miN w rows) (Sh56.mirrored w h x) := by
  unfold Sh56.mirrored
  refine Rep.each (by rw [miN_len, R.len]) fun r c hr => ?_
  unfold miN
  rw [R.len, getD_map_range hr, byBits_bit (p := fun c => (rows.getD r 0).testBit (w - 1 - c)) (fun k _ => isDot_ite rows (w - 1 - k) r), R.bit]
theorem Rep.qu {w h : Nat} {rows : List Nat} {x : Sh56.Page} (R : Rep w h rows x) : Rep h w (quN w rows) (Sh56.quarter w h x) := by
  unfold Sh56.quarter
  refine Rep.each (by rw [quN_len]) fun r c hr => ?_
  unfold quN
  rw [getD_map_range hr, R.len, byBits_bit (p := fun k => (rows.getD (h - 1 - k) 0).testBit r) (fun k _ => isDot_ite rows r (h - 1 - k)), R.bit]
theorem Rep.ha {w h k : Nat} {rows : List Nat} {x : Sh56.Page} (R : Rep w h rows x) : Rep (w / 2) (h / 2) (haN w rows k) (Sh56.half w h k x) := by
  unfold Sh56.half
  refine Rep.each (by rw [haN_len, R.len]) fun r c hr => ?_
  unfold haN
  rw [R.len, getD_map_range hr, byBits_bit (p := fun c => decide (k ≤ foN rows c r)) (fun k _ => rfl)]
  congr 2
  unfold foN
  simp only [isDot_ite, R.bit, many]
  generalize dot w h x.toArray (2 * c) (2 * r) = a
  generalize dot w h x.toArray (2 * c + 1) (2 * r) = b
  generalize dot w h x.toArray (2 * c) (2 * r + 1) = d
  generalize dot w h x.toArray (2 * c + 1) (2 * r + 1) = e
  cases a <;> cases b <;> cases d <;> cases e <;> rfl
theorem dbN_get {w r : Nat} {ns : List Nat} (hr : r < 2 * ns.length) : (dbN w ns).getD r 0 = dbRow w ns (r / 2) := by
  have h := flat_get (w := 2) (f := fun _ r => dbRow w ns r) (c := r % 2) (by omega) (h := ns.length) (r := r / 2) (by omega)
  rw [show r / 2 * 2 + r % 2 = r by omega] at h
  unfold dbN
  rw [List.getD_eq_getElem?_getD]
  have e : (List.range ns.length).flatMap (fun r => [dbRow w ns r, dbRow w ns r]) = (List.range ns.length).flatMap fun r => (List.range 2).map fun _ => dbRow w ns r := rfl
  rw [e, h]
  rfl
theorem Rep.db {w h : Nat} {rows : List Nat} {x : Sh56.Page} (R : Rep w h rows x) : Rep (2 * w) (2 * h) (dbN w rows) (Sh56.doubled w h x) := by
  unfold Sh56.doubled
  refine Rep.each (by rw [dbN_len, R.len]) fun r c hr => ?_
  rw [dbN_get (by rw [R.len]; exact hr)]
  unfold dbRow
  rw [byBits_bit (p := fun c => (rows.getD (r / 2) 0).testBit (c / 2)) (fun k _ => isDot_ite rows (k / 2) (r / 2)), R.bit]
theorem Rep.cu {w h x0 y0 u v : Nat} {rows : List Nat} {x : Sh56.Page} (R : Rep w h rows x) (hv : y0 + v ≤ h) : Rep u v (cutN rows x0 y0 u v) (Sh56.cut w h x0 y0 u v x) := by
  unfold Sh56.cut
  refine Rep.each (by unfold cutN; rw [List.length_map, List.length_take, List.length_drop, R.len]; omega) fun r c hr => ?_
  unfold cutN
  rw [getD_map (by rw [List.length_take, List.length_drop, R.len]; omega), getD_cut hr, Nat.testBit_and, Nat.testBit_shiftRight, testBit_mask, R.bit, Bool.and_comm]
end Dp

namespace Dp
open Sh56
/-! ### what is asked -/
theorem nat32 {z : Int} (h : Sh56Neutral.natural z 32 = true) : 0 ≤ z ∧ z.toNat < 2 ^ 32 := by
  unfold Sh56Neutral.natural at h
  rw [Bool.and_eq_true, decide_eq_true_eq, decide_eq_true_eq] at h
  omega
theorem nats_all : ∀ {x : List Int}, x.all (fun (z : Int) => Sh56Neutral.natural z 32) = true → x = zs (Sh56Neutral.nats x) ∧ ∀ y ∈ Sh56Neutral.nats x, y < 2 ^ 32
  | [], _ => ⟨rfl, fun y hy => by cases hy⟩
  | a :: r, h => by
    rw [List.all_cons, Bool.and_eq_true] at h
    obtain ⟨h1, h2⟩ := nat32 h.1
    obtain ⟨e, q⟩ := nats_all h.2
    refine ⟨?_, fun y hy => ?_⟩
    · show a :: r = ((a.toNat : Nat) : Int) :: zs (Sh56Neutral.nats r)
      rw [← e, Int.toNat_of_nonneg h1]
    · rcases List.mem_cons.mp hy with rfl | hy
      · exact h2
      · exact q y hy
theorem nats_len (x : List Int) : (Sh56Neutral.nats x).length = x.length := List.length_map _
theorem len_if {S A : Bool} {x : List Int} {n : Nat} (h : (if S = true then x.length == n else A) = true) (hS : S = true) : (Sh56Neutral.nats x).length = n := by
  rw [if_pos hS, beq_iff_eq] at h
  rw [nats_len, h]
theorem len_if2 {S A : Bool} {x y : List Int} {n : Nat} (h : (if S = true then x.length == n && y.length == n else A) = true) (hS : S = true) : (Sh56Neutral.nats x).length = n ∧ (Sh56Neutral.nats y).length = n := by
  rw [if_pos hS, Bool.and_eq_true, beq_iff_eq, beq_iff_eq] at h
  rw [nats_len, nats_len]
  exact h
theorem len_if3 {S A : Bool} {x y z : List Int} {n : Nat} (h : (if S = true then x.length == n && y.length == n && z.length == n else A) = true) (hS : S = true) : (Sh56Neutral.nats x).length = n ∧ (Sh56Neutral.nats y).length = n ∧ (Sh56Neutral.nats z).length = n := by
  rw [if_pos hS, Bool.and_eq_true, Bool.and_eq_true, beq_iff_eq, beq_iff_eq, beq_iff_eq] at h
  rw [nats_len, nats_len, nats_len]
  exact ⟨h.1.1, h.1.2, h.2⟩
theorem law_words {S b : Bool} {call : Sh56.Call} {W H : Nat} {pg : Sh56.Page} {rows : List Nat} (hS : S = !b) (ha : Sh56.answer call = Sh56.one W H pg) (hR : b = false → Rep W H rows pg) :
    Sh56Neutral.told (Sh56.answer (if S = true then call else .bad)) = wrd b W rows := by
  subst hS
  cases b with
  | true => rfl
  | false =>
    rw [Bool.not_false, if_pos rfl, ha, wrd_no rfl, ← (hR rfl).words]
    rfl
theorem bad_is {w h : Nat} : Sh56.sized w h = !bad w h := by
  unfold bad
  rw [Bool.not_not]
  rfl
theorem bad_ok {w h : Nat} (hb : bad w h = false) : Sh56.sized w h = true := by rw [bad_is, hb]; rfl
theorem sgN_is (n : Nat) : sgN n = Sh56Neutral.int32 n := by
  unfold sgN Sh56Neutral.int32
  by_cases c : n < 2 ^ 31
  · rw [if_pos c, if_neg (by rw [decide_eq_true_eq]; omega)]
  · rw [if_neg c, if_pos (by rw [decide_eq_true_eq]; omega)]
    omega
theorem abs_dec (z : Int) : decide (-256 ≤ z ∧ z ≤ 256) = !decide ((256 : Int) < absI z) := by
  unfold absI
  by_cases c : z < 0
  · rw [if_pos c, ← decide_not]
    exact decide_eq_decide.mpr (by omega)
  · rw [if_neg c, ← decide_not]
    exact decide_eq_decide.mpr (by omega)
theorem move_is {dx dy w h : Nat} : Sh56.moveOk (sgN dx) (sgN dy) w h = !move_bad dx dy w h := by
  unfold Sh56.moveOk move_bad
  rw [bad_is, abs_dec, abs_dec, Bool.not_or, Bool.not_or]
  generalize bad w h = a
  generalize decide ((256 : Int) < absI (sgN dx)) = b
  generalize decide ((256 : Int) < absI (sgN dy)) = c
  cases a <;> cases b <;> cases c <;> rfl
theorem move_bad_ok {dx dy w h : Nat} (hb : move_bad dx dy w h = false) : Sh56.moveOk (Sh56Neutral.int32 dx) (Sh56Neutral.int32 dy) w h = true := by
  rw [← sgN_is, ← sgN_is, move_is, hb]
  rfl
theorem nobox_is {dx dy w h : Nat} : Sh56.aroundOk dx dy w h = !nobox dx dy w h := by
  unfold Sh56.aroundOk nobox boxB
  rw [Bool.not_not]
  show ((side w && side h) && _) = _
  generalize (side w && side h) = a
  generalize decide (dx ≤ 32) = b
  generalize decide (dy ≤ 32) = c
  cases a <;> cases b <;> cases c <;> rfl
theorem nobox_ok {dx dy w h : Nat} (hb : nobox dx dy w h = false) : Sh56.aroundOk dx dy w h = true := by rw [nobox_is, hb]; rfl
theorem half_is {k w h : Nat} : (Sh56.sized w h && Sh56.among k 1 4) = !half_bad k w h := by
  unfold half_bad Sh56.among
  rw [bad_is, Bool.not_or, Bool.not_not, Bool.and_comm]
theorem half_bad_ok {k w h : Nat} (hb : half_bad k w h = false) : (Sh56.sized w h && Sh56.among k 1 4) = true := by rw [half_is, hb]; rfl
theorem cut_is {x0 y0 uu vv w h : Nat} : Sh56.cutOk x0 y0 uu vv w h = !cut_bad x0 y0 uu vv w h := by
  unfold Sh56.cutOk cut_bad Sh56.among
  rw [bad_is, show decide (x0 + uu ≤ w) = !decide (w < x0 + uu) by rw [← decide_not]; exact decide_eq_decide.mpr (by omega), show decide (y0 + vv ≤ h) = !decide (h < y0 + vv) by rw [← decide_not]; exact decide_eq_decide.mpr (by omega)]
  simp only [Bool.not_or, Bool.not_not]
theorem cut_bad_ok {x0 y0 uu vv w h : Nat} (hb : cut_bad x0 y0 uu vv w h = false) : Sh56.cutOk x0 y0 uu vv w h = true := by rw [cut_is, hb]; rfl
theorem map_each {α : Type} (w h : Nat) (f : Nat → Nat → Bool) (g : Bool → α) : (Sh56.each w h f).map g = (List.range h).flatMap fun r => (List.range w).map fun c => g (f c r) := by
  unfold Sh56.each
  rw [List.map_flatMap]
  refine flat_congr fun r _ => ?_
  rw [List.map_map]
  rfl
theorem spread_is {w h : Nat} {xs : List Nat} (hx : ∀ y ∈ xs, y < 2 ^ 32) : Sh56Neutral.told (Sh56.answer (if Sh56.sized w h = true then .spread w h xs else .bad)) = spread_m w h xs := by
  unfold spread_m
  rw [bad_is]
  cases bad w h with
  | true => rfl
  | false =>
    rw [Bool.not_false, if_pos rfl, if_neg Bool.false_ne_true]
    have R := Rep.page (w := w) (h := h) hx
    have e : (Sh56.page w h xs).map (fun b => if b = true then 1 else 0) = spreadN w h (pageOf w h xs) := by
      have e0 : Sh56.page w h xs = Sh56.each w h fun c r => xs.toArray.getD (r * wide w + c / 32) 0 / 2 ^ (c % 32) % 2 == 1 := rfl
      rw [e0] at R ⊢
      rw [map_each]
      unfold spreadN
      refine flat_congr fun r hr => List.map_congr_left fun c hc => ?_
      rw [isDot_ite, R.bit, dot_each, decide_eq_true (List.mem_range.mp hc), decide_eq_true (List.mem_range.mp hr), Bool.true_and, Bool.true_and]
    show 0 :: Sh56Neutral.ints ((Sh56.page w h xs).map fun b => if b = true then 1 else 0) = _
    rw [e]
    rfl
def table1_m (t a b c : Nat) : List Int := [((btab t a b c (2 ^ 32 - 1) 8 : Nat) : Int)]
theorem law_do_table1 {t a b c : Int} (h : PySh56.do_table1_asked t a b c = true) : True ∧ PySh56.do_table1 t a b c = table1_m t.toNat a.toNat b.toNat c.toNat ∧ 0 ≤ t ∧ 0 ≤ a ∧ 0 ≤ b ∧ 0 ≤ c := by
  have h1 : (Sh56Neutral.natural t 32 && (Sh56Neutral.natural a 32 && (Sh56Neutral.natural b 32 && Sh56Neutral.natural c 32))) = true := (Bool.and_eq_true_iff.mp h).1
  obtain ⟨n1, q⟩ := Bool.and_eq_true_iff.mp h1
  obtain ⟨n2, q⟩ := Bool.and_eq_true_iff.mp q
  obtain ⟨n3, n4⟩ := Bool.and_eq_true_iff.mp q
  refine ⟨trivial, ?_, (nat32 n1).1, (nat32 n2).1, (nat32 n3).1, (nat32 n4).1⟩
  unfold table1_m
  rw [← table1_is (t := t.toNat) (a := a.toNat) (b := b.toNat) (c := c.toNat) (nat32 n2).2 (nat32 n3).2 (nat32 n4).2]
  rfl
end Dp

namespace Dp
open Sh56
theorem law_do_move {dx : Int} {dy : Int} {w : Int} {h : Int} {x : List Int} (hq : PySh56.do_move_asked dx dy w h x = true) : (move_bad (dx.toNat) (dy.toNat) (w.toNat) (h.toNat) = false → (Sh56Neutral.nats x).length = h.toNat * many w.toNat) ∧ PySh56.do_move dx dy w h x = move_m (dx.toNat) (dy.toNat) (w.toNat) (h.toNat) (Sh56Neutral.nats x) ∧ 0 ≤ dx ∧ 0 ≤ dy ∧ 0 ≤ w ∧ 0 ≤ h ∧ x = zs (Sh56Neutral.nats x) := by
  have q : (Sh56Neutral.natural dx 32 && (Sh56Neutral.natural dy 32 && (Sh56Neutral.natural w 32 && (Sh56Neutral.natural h 32 && (x.all (fun (z : Int) => Sh56Neutral.natural z 32) && (if (Sh56.moveOk (Sh56Neutral.int32 (dx.toNat)) (Sh56Neutral.int32 (dy.toNat)) (w.toNat) (h.toNat)) = true then x.length == ((h.toNat) * (((w.toNat) + 31) / 32)) else (x.isEmpty) || (x.length == ((h.toNat) * (((w.toNat) + 31) / 32))))))))) = true := (Bool.and_eq_true_iff.mp hq).1
  obtain ⟨n_dx, q⟩ := Bool.and_eq_true_iff.mp q
  obtain ⟨n_dy, q⟩ := Bool.and_eq_true_iff.mp q
  obtain ⟨n_w, q⟩ := Bool.and_eq_true_iff.mp q
  obtain ⟨n_h, q⟩ := Bool.and_eq_true_iff.mp q
  obtain ⟨m_x, q⟩ := Bool.and_eq_true_iff.mp q
  obtain ⟨z_x, b_x⟩ := nats_all m_x
  have hl : move_bad (dx.toNat) (dy.toNat) (w.toNat) (h.toNat) = false → (Sh56Neutral.nats x).length = h.toNat * many w.toNat := fun hb => len_if q (move_bad_ok hb)
  refine ⟨hl, ?_, (nat32 n_dx).1, (nat32 n_dy).1, (nat32 n_w).1, (nat32 n_h).1, z_x⟩
  have e : PySh56.do_move dx dy w h x = Sh56Neutral.told (Sh56.answer (if (Sh56.moveOk (Sh56Neutral.int32 (dx.toNat)) (Sh56Neutral.int32 (dy.toNat)) (w.toNat) (h.toNat)) = true then .move (Sh56Neutral.int32 (dx.toNat)) (Sh56Neutral.int32 (dy.toNat)) (w.toNat) (h.toNat) (Sh56Neutral.nats x) else .bad)) := rfl
  rw [e]
  rw [← sgN_is, ← sgN_is]
  exact law_words move_is rfl fun hb => (Rep.page b_x).mv
theorem law_do_thicker {dx : Int} {dy : Int} {w : Int} {h : Int} {x : List Int} (hq : PySh56.do_thicker_asked dx dy w h x = true) : (nobox (dx.toNat) (dy.toNat) (w.toNat) (h.toNat) = false → (Sh56Neutral.nats x).length = h.toNat * many w.toNat) ∧ PySh56.do_thicker dx dy w h x = thicker_m (dx.toNat) (dy.toNat) (w.toNat) (h.toNat) (Sh56Neutral.nats x) ∧ 0 ≤ dx ∧ 0 ≤ dy ∧ 0 ≤ w ∧ 0 ≤ h ∧ x = zs (Sh56Neutral.nats x) := by
  have q : (Sh56Neutral.natural dx 32 && (Sh56Neutral.natural dy 32 && (Sh56Neutral.natural w 32 && (Sh56Neutral.natural h 32 && (x.all (fun (z : Int) => Sh56Neutral.natural z 32) && (if (Sh56.aroundOk (dx.toNat) (dy.toNat) (w.toNat) (h.toNat)) = true then x.length == ((h.toNat) * (((w.toNat) + 31) / 32)) else (x.isEmpty) || (x.length == ((h.toNat) * (((w.toNat) + 31) / 32))))))))) = true := (Bool.and_eq_true_iff.mp hq).1
  obtain ⟨n_dx, q⟩ := Bool.and_eq_true_iff.mp q
  obtain ⟨n_dy, q⟩ := Bool.and_eq_true_iff.mp q
  obtain ⟨n_w, q⟩ := Bool.and_eq_true_iff.mp q
  obtain ⟨n_h, q⟩ := Bool.and_eq_true_iff.mp q
  obtain ⟨m_x, q⟩ := Bool.and_eq_true_iff.mp q
  obtain ⟨z_x, b_x⟩ := nats_all m_x
  have hl : nobox (dx.toNat) (dy.toNat) (w.toNat) (h.toNat) = false → (Sh56Neutral.nats x).length = h.toNat * many w.toNat := fun hb => len_if q (nobox_ok hb)
  refine ⟨hl, ?_, (nat32 n_dx).1, (nat32 n_dy).1, (nat32 n_w).1, (nat32 n_h).1, z_x⟩
  have e : PySh56.do_thicker dx dy w h x = Sh56Neutral.told (Sh56.answer (if (Sh56.aroundOk (dx.toNat) (dy.toNat) (w.toNat) (h.toNat)) = true then .thicker (dx.toNat) (dy.toNat) (w.toNat) (h.toNat) (Sh56Neutral.nats x) else .bad)) := rfl
  rw [e]
  exact law_words nobox_is rfl fun hb => (Rep.page b_x).thk
theorem law_do_thinner {dx : Int} {dy : Int} {w : Int} {h : Int} {x : List Int} (hq : PySh56.do_thinner_asked dx dy w h x = true) : (nobox (dx.toNat) (dy.toNat) (w.toNat) (h.toNat) = false → (Sh56Neutral.nats x).length = h.toNat * many w.toNat) ∧ PySh56.do_thinner dx dy w h x = thinner_m (dx.toNat) (dy.toNat) (w.toNat) (h.toNat) (Sh56Neutral.nats x) ∧ 0 ≤ dx ∧ 0 ≤ dy ∧ 0 ≤ w ∧ 0 ≤ h ∧ x = zs (Sh56Neutral.nats x) := by
  have q : (Sh56Neutral.natural dx 32 && (Sh56Neutral.natural dy 32 && (Sh56Neutral.natural w 32 && (Sh56Neutral.natural h 32 && (x.all (fun (z : Int) => Sh56Neutral.natural z 32) && (if (Sh56.aroundOk (dx.toNat) (dy.toNat) (w.toNat) (h.toNat)) = true then x.length == ((h.toNat) * (((w.toNat) + 31) / 32)) else (x.isEmpty) || (x.length == ((h.toNat) * (((w.toNat) + 31) / 32))))))))) = true := (Bool.and_eq_true_iff.mp hq).1
  obtain ⟨n_dx, q⟩ := Bool.and_eq_true_iff.mp q
  obtain ⟨n_dy, q⟩ := Bool.and_eq_true_iff.mp q
  obtain ⟨n_w, q⟩ := Bool.and_eq_true_iff.mp q
  obtain ⟨n_h, q⟩ := Bool.and_eq_true_iff.mp q
  obtain ⟨m_x, q⟩ := Bool.and_eq_true_iff.mp q
  obtain ⟨z_x, b_x⟩ := nats_all m_x
  have hl : nobox (dx.toNat) (dy.toNat) (w.toNat) (h.toNat) = false → (Sh56Neutral.nats x).length = h.toNat * many w.toNat := fun hb => len_if q (nobox_ok hb)
  refine ⟨hl, ?_, (nat32 n_dx).1, (nat32 n_dy).1, (nat32 n_w).1, (nat32 n_h).1, z_x⟩
  have e : PySh56.do_thinner dx dy w h x = Sh56Neutral.told (Sh56.answer (if (Sh56.aroundOk (dx.toNat) (dy.toNat) (w.toNat) (h.toNat)) = true then .thinner (dx.toNat) (dy.toNat) (w.toNat) (h.toNat) (Sh56Neutral.nats x) else .bad)) := rfl
  rw [e]
  exact law_words nobox_is rfl fun hb => (Rep.page b_x).thn
theorem law_do_open {dx : Int} {dy : Int} {w : Int} {h : Int} {x : List Int} (hq : PySh56.do_open_asked dx dy w h x = true) : (nobox (dx.toNat) (dy.toNat) (w.toNat) (h.toNat) = false → (Sh56Neutral.nats x).length = h.toNat * many w.toNat) ∧ PySh56.do_open dx dy w h x = open_m (dx.toNat) (dy.toNat) (w.toNat) (h.toNat) (Sh56Neutral.nats x) ∧ 0 ≤ dx ∧ 0 ≤ dy ∧ 0 ≤ w ∧ 0 ≤ h ∧ x = zs (Sh56Neutral.nats x) := by
  have q : (Sh56Neutral.natural dx 32 && (Sh56Neutral.natural dy 32 && (Sh56Neutral.natural w 32 && (Sh56Neutral.natural h 32 && (x.all (fun (z : Int) => Sh56Neutral.natural z 32) && (if (Sh56.aroundOk (dx.toNat) (dy.toNat) (w.toNat) (h.toNat)) = true then x.length == ((h.toNat) * (((w.toNat) + 31) / 32)) else (x.isEmpty) || (x.length == ((h.toNat) * (((w.toNat) + 31) / 32))))))))) = true := (Bool.and_eq_true_iff.mp hq).1
  obtain ⟨n_dx, q⟩ := Bool.and_eq_true_iff.mp q
  obtain ⟨n_dy, q⟩ := Bool.and_eq_true_iff.mp q
  obtain ⟨n_w, q⟩ := Bool.and_eq_true_iff.mp q
  obtain ⟨n_h, q⟩ := Bool.and_eq_true_iff.mp q
  obtain ⟨m_x, q⟩ := Bool.and_eq_true_iff.mp q
  obtain ⟨z_x, b_x⟩ := nats_all m_x
  have hl : nobox (dx.toNat) (dy.toNat) (w.toNat) (h.toNat) = false → (Sh56Neutral.nats x).length = h.toNat * many w.toNat := fun hb => len_if q (nobox_ok hb)
  refine ⟨hl, ?_, (nat32 n_dx).1, (nat32 n_dy).1, (nat32 n_w).1, (nat32 n_h).1, z_x⟩
  have e : PySh56.do_open dx dy w h x = Sh56Neutral.told (Sh56.answer (if (Sh56.aroundOk (dx.toNat) (dy.toNat) (w.toNat) (h.toNat)) = true then .open_ (dx.toNat) (dy.toNat) (w.toNat) (h.toNat) (Sh56Neutral.nats x) else .bad)) := rfl
  rw [e]
  exact law_words nobox_is rfl fun hb => (Rep.page b_x).thn.thk
theorem law_do_close {dx : Int} {dy : Int} {w : Int} {h : Int} {x : List Int} (hq : PySh56.do_close_asked dx dy w h x = true) : (nobox (dx.toNat) (dy.toNat) (w.toNat) (h.toNat) = false → (Sh56Neutral.nats x).length = h.toNat * many w.toNat) ∧ PySh56.do_close dx dy w h x = close_m (dx.toNat) (dy.toNat) (w.toNat) (h.toNat) (Sh56Neutral.nats x) ∧ 0 ≤ dx ∧ 0 ≤ dy ∧ 0 ≤ w ∧ 0 ≤ h ∧ x = zs (Sh56Neutral.nats x) := by
  have q : (Sh56Neutral.natural dx 32 && (Sh56Neutral.natural dy 32 && (Sh56Neutral.natural w 32 && (Sh56Neutral.natural h 32 && (x.all (fun (z : Int) => Sh56Neutral.natural z 32) && (if (Sh56.aroundOk (dx.toNat) (dy.toNat) (w.toNat) (h.toNat)) = true then x.length == ((h.toNat) * (((w.toNat) + 31) / 32)) else (x.isEmpty) || (x.length == ((h.toNat) * (((w.toNat) + 31) / 32))))))))) = true := (Bool.and_eq_true_iff.mp hq).1
  obtain ⟨n_dx, q⟩ := Bool.and_eq_true_iff.mp q
  obtain ⟨n_dy, q⟩ := Bool.and_eq_true_iff.mp q
  obtain ⟨n_w, q⟩ := Bool.and_eq_true_iff.mp q
  obtain ⟨n_h, q⟩ := Bool.and_eq_true_iff.mp q
  obtain ⟨m_x, q⟩ := Bool.and_eq_true_iff.mp q
  obtain ⟨z_x, b_x⟩ := nats_all m_x
  have hl : nobox (dx.toNat) (dy.toNat) (w.toNat) (h.toNat) = false → (Sh56Neutral.nats x).length = h.toNat * many w.toNat := fun hb => len_if q (nobox_ok hb)
  refine ⟨hl, ?_, (nat32 n_dx).1, (nat32 n_dy).1, (nat32 n_w).1, (nat32 n_h).1, z_x⟩
  have e : PySh56.do_close dx dy w h x = Sh56Neutral.told (Sh56.answer (if (Sh56.aroundOk (dx.toNat) (dy.toNat) (w.toNat) (h.toNat)) = true then .close (dx.toNat) (dy.toNat) (w.toNat) (h.toNat) (Sh56Neutral.nats x) else .bad)) := rfl
  rw [e]
  exact law_words nobox_is rfl fun hb => (Rep.page b_x).thk.thn
theorem law_do_mirror {w : Int} {h : Int} {x : List Int} (hq : PySh56.do_mirror_asked w h x = true) : (bad (w.toNat) (h.toNat) = false → (Sh56Neutral.nats x).length = h.toNat * many w.toNat) ∧ PySh56.do_mirror w h x = mirror_m (w.toNat) (h.toNat) (Sh56Neutral.nats x) ∧ 0 ≤ w ∧ 0 ≤ h ∧ x = zs (Sh56Neutral.nats x) := by
  have q : (Sh56Neutral.natural w 32 && (Sh56Neutral.natural h 32 && (x.all (fun (z : Int) => Sh56Neutral.natural z 32) && (if (Sh56.sized (w.toNat) (h.toNat)) = true then x.length == ((h.toNat) * (((w.toNat) + 31) / 32)) else (x.isEmpty) || (x.length == ((h.toNat) * (((w.toNat) + 31) / 32))))))) = true := (Bool.and_eq_true_iff.mp hq).1
  obtain ⟨n_w, q⟩ := Bool.and_eq_true_iff.mp q
  obtain ⟨n_h, q⟩ := Bool.and_eq_true_iff.mp q
  obtain ⟨m_x, q⟩ := Bool.and_eq_true_iff.mp q
  obtain ⟨z_x, b_x⟩ := nats_all m_x
  have hl : bad (w.toNat) (h.toNat) = false → (Sh56Neutral.nats x).length = h.toNat * many w.toNat := fun hb => len_if q (bad_ok hb)
  refine ⟨hl, ?_, (nat32 n_w).1, (nat32 n_h).1, z_x⟩
  have e : PySh56.do_mirror w h x = Sh56Neutral.told (Sh56.answer (if (Sh56.sized (w.toNat) (h.toNat)) = true then .mirror (w.toNat) (h.toNat) (Sh56Neutral.nats x) else .bad)) := rfl
  rw [e]
  exact law_words bad_is rfl fun hb => (Rep.page b_x).mi
theorem law_do_half {k : Int} {w : Int} {h : Int} {x : List Int} (hq : PySh56.do_half_asked k w h x = true) : (half_bad (k.toNat) (w.toNat) (h.toNat) = false → (Sh56Neutral.nats x).length = h.toNat * many w.toNat) ∧ PySh56.do_half k w h x = half_m (k.toNat) (w.toNat) (h.toNat) (Sh56Neutral.nats x) ∧ 0 ≤ k ∧ 0 ≤ w ∧ 0 ≤ h ∧ x = zs (Sh56Neutral.nats x) := by
  have q : (Sh56Neutral.natural k 32 && (Sh56Neutral.natural w 32 && (Sh56Neutral.natural h 32 && (x.all (fun (z : Int) => Sh56Neutral.natural z 32) && (if (Sh56.sized (w.toNat) (h.toNat) && Sh56.among (k.toNat) 1 4) = true then x.length == ((h.toNat) * (((w.toNat) + 31) / 32)) else (x.isEmpty) || (x.length == ((h.toNat) * (((w.toNat) + 31) / 32)))))))) = true := (Bool.and_eq_true_iff.mp hq).1
  obtain ⟨n_k, q⟩ := Bool.and_eq_true_iff.mp q
  obtain ⟨n_w, q⟩ := Bool.and_eq_true_iff.mp q
  obtain ⟨n_h, q⟩ := Bool.and_eq_true_iff.mp q
  obtain ⟨m_x, q⟩ := Bool.and_eq_true_iff.mp q
  obtain ⟨z_x, b_x⟩ := nats_all m_x
  have hl : half_bad (k.toNat) (w.toNat) (h.toNat) = false → (Sh56Neutral.nats x).length = h.toNat * many w.toNat := fun hb => len_if q (half_bad_ok hb)
  refine ⟨hl, ?_, (nat32 n_k).1, (nat32 n_w).1, (nat32 n_h).1, z_x⟩
  have e : PySh56.do_half k w h x = Sh56Neutral.told (Sh56.answer (if (Sh56.sized (w.toNat) (h.toNat) && Sh56.among (k.toNat) 1 4) = true then .half (k.toNat) (w.toNat) (h.toNat) (Sh56Neutral.nats x) else .bad)) := rfl
  rw [e]
  exact law_words half_is rfl fun hb => (Rep.page b_x).ha
theorem law_do_double {w : Int} {h : Int} {x : List Int} (hq : PySh56.do_double_asked w h x = true) : (bad (w.toNat) (h.toNat) = false → (Sh56Neutral.nats x).length = h.toNat * many w.toNat) ∧ PySh56.do_double w h x = double_m (w.toNat) (h.toNat) (Sh56Neutral.nats x) ∧ 0 ≤ w ∧ 0 ≤ h ∧ x = zs (Sh56Neutral.nats x) := by
  have q : (Sh56Neutral.natural w 32 && (Sh56Neutral.natural h 32 && (x.all (fun (z : Int) => Sh56Neutral.natural z 32) && (if (Sh56.sized (w.toNat) (h.toNat)) = true then x.length == ((h.toNat) * (((w.toNat) + 31) / 32)) else (x.isEmpty) || (x.length == ((h.toNat) * (((w.toNat) + 31) / 32))))))) = true := (Bool.and_eq_true_iff.mp hq).1
  obtain ⟨n_w, q⟩ := Bool.and_eq_true_iff.mp q
  obtain ⟨n_h, q⟩ := Bool.and_eq_true_iff.mp q
  obtain ⟨m_x, q⟩ := Bool.and_eq_true_iff.mp q
  obtain ⟨z_x, b_x⟩ := nats_all m_x
  have hl : bad (w.toNat) (h.toNat) = false → (Sh56Neutral.nats x).length = h.toNat * many w.toNat := fun hb => len_if q (bad_ok hb)
  refine ⟨hl, ?_, (nat32 n_w).1, (nat32 n_h).1, z_x⟩
  have e : PySh56.do_double w h x = Sh56Neutral.told (Sh56.answer (if (Sh56.sized (w.toNat) (h.toNat)) = true then .double (w.toNat) (h.toNat) (Sh56Neutral.nats x) else .bad)) := rfl
  rw [e]
  exact law_words bad_is rfl fun hb => (Rep.page b_x).db
theorem law_do_cut {x0 : Int} {y0 : Int} {uu : Int} {vv : Int} {w : Int} {h : Int} {x : List Int} (hq : PySh56.do_cut_asked x0 y0 uu vv w h x = true) : (cut_bad (x0.toNat) (y0.toNat) (uu.toNat) (vv.toNat) (w.toNat) (h.toNat) = false → (Sh56Neutral.nats x).length = h.toNat * many w.toNat) ∧ PySh56.do_cut x0 y0 uu vv w h x = cut_m (x0.toNat) (y0.toNat) (uu.toNat) (vv.toNat) (w.toNat) (h.toNat) (Sh56Neutral.nats x) ∧ 0 ≤ x0 ∧ 0 ≤ y0 ∧ 0 ≤ uu ∧ 0 ≤ vv ∧ 0 ≤ w ∧ 0 ≤ h ∧ x = zs (Sh56Neutral.nats x) := by
  have q : (Sh56Neutral.natural x0 32 && (Sh56Neutral.natural y0 32 && (Sh56Neutral.natural uu 32 && (Sh56Neutral.natural vv 32 && (Sh56Neutral.natural w 32 && (Sh56Neutral.natural h 32 && (x.all (fun (z : Int) => Sh56Neutral.natural z 32) && (if (Sh56.cutOk (x0.toNat) (y0.toNat) (uu.toNat) (vv.toNat) (w.toNat) (h.toNat)) = true then x.length == ((h.toNat) * (((w.toNat) + 31) / 32)) else (x.isEmpty) || (x.length == ((h.toNat) * (((w.toNat) + 31) / 32))))))))))) = true := (Bool.and_eq_true_iff.mp hq).1
  obtain ⟨n_x0, q⟩ := Bool.and_eq_true_iff.mp q
  obtain ⟨n_y0, q⟩ := Bool.and_eq_true_iff.mp q
  obtain ⟨n_uu, q⟩ := Bool.and_eq_true_iff.mp q
  obtain ⟨n_vv, q⟩ := Bool.and_eq_true_iff.mp q
  obtain ⟨n_w, q⟩ := Bool.and_eq_true_iff.mp q
  obtain ⟨n_h, q⟩ := Bool.and_eq_true_iff.mp q
  obtain ⟨m_x, q⟩ := Bool.and_eq_true_iff.mp q
  obtain ⟨z_x, b_x⟩ := nats_all m_x
  have hl : cut_bad (x0.toNat) (y0.toNat) (uu.toNat) (vv.toNat) (w.toNat) (h.toNat) = false → (Sh56Neutral.nats x).length = h.toNat * many w.toNat := fun hb => len_if q (cut_bad_ok hb)
  refine ⟨hl, ?_, (nat32 n_x0).1, (nat32 n_y0).1, (nat32 n_uu).1, (nat32 n_vv).1, (nat32 n_w).1, (nat32 n_h).1, z_x⟩
  have e : PySh56.do_cut x0 y0 uu vv w h x = Sh56Neutral.told (Sh56.answer (if (Sh56.cutOk (x0.toNat) (y0.toNat) (uu.toNat) (vv.toNat) (w.toNat) (h.toNat)) = true then .cut (x0.toNat) (y0.toNat) (uu.toNat) (vv.toNat) (w.toNat) (h.toNat) (Sh56Neutral.nats x) else .bad)) := rfl
  rw [e]
  exact law_words cut_is rfl fun hb => (Rep.page b_x).cu (cut_no hb).2.1.2
theorem law_do_spread {w : Int} {h : Int} {x : List Int} (hq : PySh56.do_spread_asked w h x = true) : (bad (w.toNat) (h.toNat) = false → (Sh56Neutral.nats x).length = h.toNat * many w.toNat) ∧ PySh56.do_spread w h x = spread_m (w.toNat) (h.toNat) (Sh56Neutral.nats x) ∧ 0 ≤ w ∧ 0 ≤ h ∧ x = zs (Sh56Neutral.nats x) := by
  have q : (Sh56Neutral.natural w 32 && (Sh56Neutral.natural h 32 && (x.all (fun (z : Int) => Sh56Neutral.natural z 32) && (if (Sh56.sized (w.toNat) (h.toNat)) = true then x.length == ((h.toNat) * (((w.toNat) + 31) / 32)) else (x.isEmpty) || (x.length == ((h.toNat) * (((w.toNat) + 31) / 32))))))) = true := (Bool.and_eq_true_iff.mp hq).1
  obtain ⟨n_w, q⟩ := Bool.and_eq_true_iff.mp q
  obtain ⟨n_h, q⟩ := Bool.and_eq_true_iff.mp q
  obtain ⟨m_x, q⟩ := Bool.and_eq_true_iff.mp q
  obtain ⟨z_x, b_x⟩ := nats_all m_x
  have hl : bad (w.toNat) (h.toNat) = false → (Sh56Neutral.nats x).length = h.toNat * many w.toNat := fun hb => len_if q (bad_ok hb)
  refine ⟨hl, ?_, (nat32 n_w).1, (nat32 n_h).1, z_x⟩
  have e : PySh56.do_spread w h x = Sh56Neutral.told (Sh56.answer (if (Sh56.sized (w.toNat) (h.toNat)) = true then .spread (w.toNat) (h.toNat) (Sh56Neutral.nats x) else .bad)) := rfl
  rw [e]
  exact spread_is b_x
end Dp

namespace Dp
open Sh56
/-! ### turned -/
theorem turn_no {q w h : Nat} (hb : turn_bad q w h = false) : q ≤ 3 ∧ (1 ≤ w ∧ w ≤ 256) ∧ 1 ≤ h ∧ h ≤ 256 := by
  unfold turn_bad at hb
  rw [Bool.or_eq_false_iff, decide_eq_false_iff_not] at hb
  exact ⟨by omega, bad_no hb.2⟩
theorem tuN_le : ∀ (q : Nat) {p : Nat × List Nat}, p.1 ≤ 256 → p.2.length ≤ 256 → (tuN q p).1 ≤ 256 ∧ (tuN q p).2.length ≤ 256
  | 0, _, h1, h2 => ⟨h1, h2⟩
  | q + 1, p, h1, h2 => by
    obtain ⟨a, b⟩ := tuN_le q h1 h2
    exact ⟨b, by rw [show (tuN (q + 1) p).2 = quN (tuN q p).1 (tuN q p).2 from rfl, quN_len]; exact a⟩
theorem tuN_shift : ∀ (q : Nat) (p : Nat × List Nat), tuN (q + 1) p = tuN q (p.2.length, quN p.1 p.2)
  | 0, _ => rfl
  | q + 1, p => by
    show ((tuN (q + 1) p).2.length, quN (tuN (q + 1) p).1 (tuN (q + 1) p).2) = _
    rw [tuN_shift q p]
    rfl
theorem Rep.tu : ∀ (q : Nat) {w h : Nat} {rows : List Nat} {x : Sh56.Page}, Rep w h rows x → (tuN q (w, rows)).1 = (if q % 2 = 0 then w else h) ∧ Rep (if q % 2 = 0 then w else h) (if q % 2 = 0 then h else w) (tuN q (w, rows)).2 (Sh56.turned w h q x)
  | 0, _, _, _, _, R => ⟨rfl, R⟩
  | q + 1, w, h, rows, x, R => by
    have ih := Rep.tu q R.qu
    rw [tuN_shift]
    show (tuN q (rows.length, quN w rows)).1 = _ ∧ Rep _ _ (tuN q (rows.length, quN w rows)).2 (Sh56.turned h w q (Sh56.quarter w h x))
    rw [R.len]
    by_cases c : q % 2 = 0
    · rw [if_pos c, if_pos c] at ih
      rw [if_neg (by omega), if_neg (by omega)]
      exact ih
    · rw [if_neg c, if_neg c] at ih
      rw [if_pos (by omega), if_pos (by omega)]
      exact ih
theorem turn_is {q w h : Nat} : (Sh56.sized w h && decide (q ≤ 3)) = !turn_bad q w h := by
  unfold turn_bad
  rw [bad_is, Bool.not_or, ← decide_not, Bool.and_comm]
  congr 1
  exact decide_eq_decide.mpr (by omega)
theorem turn_bad_ok {q w h : Nat} (hb : turn_bad q w h = false) : (Sh56.sized w h && decide (q ≤ 3)) = true := by rw [turn_is, hb]; rfl
theorem turn_told {q w h : Nat} {xs : List Nat} (hx : ∀ y ∈ xs, y < 2 ^ 32) : Sh56Neutral.told (Sh56.answer (if (Sh56.sized w h && decide (q ≤ 3)) = true then .turn q w h xs else .bad)) = turn_m q w h xs := by
  have T := Rep.tu q (Rep.page (w := w) (h := h) hx)
  unfold turn_m
  by_cases c : q % 2 = 0
  · rw [if_pos c, if_pos c] at T
    rw [T.1]
    exact law_words turn_is (if_pos c) fun _ => T.2
  · rw [if_neg c, if_neg c] at T
    rw [T.1]
    exact law_words turn_is (if_neg c) fun _ => T.2
/-! ### counted -/
theorem colN_len (w : Nat) (ns : List Nat) : (colN w ns).length = w := by
  unfold colN
  rw [List.length_map, List.length_range]
theorem many_append (a b : List Bool) : Sh56.many (a ++ b) = Sh56.many a + Sh56.many b := by
  unfold Sh56.many
  rw [List.filter_append, List.length_append]
theorem many_flat {α : Type} (f : α → List Bool) : ∀ l : List α, Sh56.many (l.flatMap f) = (l.map fun x => Sh56.many (f x)).sum
  | [] => rfl
  | a :: r => by
    rw [List.flatMap_cons, many_append, many_flat f r]
    rfl
theorem many_map (w : Nat) (g : Nat → Bool) : Sh56.many ((List.range w).map g) = ((List.range w).filter fun c => g c).length := by
  unfold Sh56.many
  rw [List.filter_map, List.length_map]
  rfl
theorem pc_row {w n : Nat} (h : n < 2 ^ w) : pc n = Sh56.many ((List.range w).map fun c => n.testBit c) := by
  rw [many_map, pc_count w n h]
theorem sum_congr {α : Type} {f g : α → Nat} {l : List α} (h : ∀ x ∈ l, f x = g x) : (l.map f).sum = (l.map g).sum := by
  rw [List.map_congr_left h]
theorem map_range_rows {β : Type} {h : Nat} {rows : List Nat} (hl : rows.length = h) (f : Nat → β) : rows.map f = (List.range h).map fun r => f (rows.getD r 0) := by
  subst hl
  conv => lhs; rw [← rows_range rows]
  rw [List.map_map]
  rfl
theorem pageF (w h : Nat) (xs : List Nat) : Sh56.page w h xs = Sh56.each w h fun c r => xs.toArray.getD (r * wide w + c / 32) 0 / 2 ^ (c % 32) % 2 == 1 := rfl
/-- a page that is told place by place -/
theorem many_page {w h : Nat} {rows : List Nat} {f : Nat → Nat → Bool} (R : Rep w h rows (Sh56.each w h f)) : Sh56.many (Sh56.each w h f) = allN rows := by
  have e : Sh56.each w h f = (List.range h).flatMap fun r => (List.range w).map fun c => f c r := rfl
  unfold allN
  rw [e, many_flat, map_range_rows R.len]
  refine sum_congr fun r hr => ?_
  rw [pc_row (R.lt r)]
  congr 1
  refine List.map_congr_left fun c hc => ?_
  rw [R.bit, dot_each, decide_eq_true (List.mem_range.mp hc), decide_eq_true (List.mem_range.mp hr), Bool.true_and, Bool.true_and]
theorem row_counts {w h : Nat} {rows : List Nat} {x : Sh56.Page} (R : Rep w h rows x) : Sh56.rowCounts w h x = rows.map pc := by
  unfold Sh56.rowCounts
  rw [map_range_rows R.len]
  refine List.map_congr_left fun r hr => ?_
  rw [pc_row (R.lt r)]
  congr 1
  refine List.map_congr_left fun c hc => ?_
  rw [R.bit]
theorem sum_bits_many {α : Type} (g : α → Bool) : ∀ l : List α, (l.map fun x => if g x = true then 1 else 0).sum = Sh56.many (l.map g)
  | [] => rfl
  | a :: r => by
    rw [List.map_cons, List.map_cons, List.sum_cons, sum_bits_many g r]
    unfold Sh56.many
    cases e : g a with
    | true =>
      rw [if_pos rfl, List.filter_cons, if_pos (by rfl), List.length_cons]
      omega
    | false =>
      rw [if_neg Bool.false_ne_true, List.filter_cons, if_neg (by exact Bool.false_ne_true)]
      omega
theorem col_counts {w h : Nat} {rows : List Nat} {x : Sh56.Page} (R : Rep w h rows x) : Sh56.columnCounts w h x = colN w rows := by
  unfold Sh56.columnCounts colN
  refine List.map_congr_left fun c hc => ?_
  rw [map_range_rows R.len]
  have e : (List.range h).map (fun r => rows.getD r 0 >>> c &&& 1) = (List.range h).map fun r => if dot w h x.toArray c r = true then 1 else 0 := List.map_congr_left fun r _ => by rw [shr_and_one, R.bit]
  rw [e, sum_bits_many]
theorem zs_append (a b : List Nat) : zs (a ++ b) = zs a ++ zs b := by
  unfold zs
  rw [List.map_append]
theorem counts_told {w h : Nat} {xs : List Nat} (hx : ∀ y ∈ xs, y < 2 ^ 32) : Sh56Neutral.told (Sh56.answer (if Sh56.sized w h = true then .counts w h xs else .bad)) = counts_m w h xs := by
  unfold counts_m
  rw [bad_is]
  cases bad w h with
  | true => rfl
  | false =>
    rw [Bool.not_false, if_pos rfl, if_neg Bool.false_ne_true]
    have R := Rep.page (w := w) (h := h) hx
    have m : Sh56.many (Sh56.page w h xs) = allN (pageOf w h xs) := by
      rw [pageF] at R ⊢
      exact many_page R
    show ((Sh56.many (Sh56.page w h xs) : Nat) : Int) :: ([Sh56.columnCounts w h (Sh56.page w h xs), Sh56.rowCounts w h (Sh56.page w h xs)].flatMap fun (l : List Nat) => ((l.length : Nat) : Int) :: Sh56Neutral.ints l) = _
    rw [m, col_counts R, row_counts R, List.flatMap_cons, List.flatMap_cons, List.flatMap_nil, colN_len, List.length_map, R.len, List.append_nil]
    simp only [zs_append]
    show _ = (((allN (pageOf w h xs) : Nat) : Int) :: (w : Int) :: zs (colN w (pageOf w h xs))) ++ [(h : Int)] ++ zs ((pageOf w h xs).map pc)
    rw [List.append_assoc]
    rfl
/-! ### apart -/
theorem getD_toArray (l : List Bool) (i : Nat) : l.toArray.getD i false = l.getD i false := by
  rw [Array.getD_eq_getD_getElem?, List.getElem?_toArray, List.getD_eq_getElem?_getD]
theorem three_each {t w h : Nat} (f g k : Nat → Nat → Bool) (z : Sh56.Page) (hz : ∀ c r, c < w → r < h → z.getD (r * w + c) false = k c r) :
    Sh56.three t (Sh56.each w h f) (Sh56.each w h g) z = Sh56.each w h fun c r => byTable t (f c r) (g c r) (k c r) := by
  refine List.ext_getElem? fun i => ?_
  by_cases hi : i < h * w
  · have hw : 0 < w := by
      rcases Nat.eq_zero_or_pos w with e | e
      · subst e
        rw [Nat.mul_zero] at hi
        omega
      · exact e
    have hr : i / w < h := Nat.div_lt_of_lt_mul (by rw [Nat.mul_comm]; exact hi)
    have hc : i % w < w := Nat.mod_lt _ hw
    have ei : i = i / w * w + i % w := by rw [Nat.mul_comm]; exact (Nat.div_add_mod i w).symm
    have F : ∀ f : Nat → Nat → Bool, (Sh56.each w h f)[i]? = some (f (i % w) (i / w)) := fun f => by
      conv => lhs; rw [ei]
      exact flat_get hc hr
    rw [F]
    unfold Sh56.three
    rw [List.getElem?_map, List.size_toArray, List.getElem?_range (by rw [each_len]; exact hi), Option.map_some, getD_toArray, getD_toArray, getD_toArray, List.getD_eq_getElem?_getD, List.getD_eq_getElem?_getD, F, F]
    have hk := hz _ _ hc hr
    rw [← ei] at hk
    rw [hk]
    rfl
  · rw [List.getElem?_eq_none (by unfold Sh56.three; rw [List.length_map, List.length_range, List.size_toArray, each_len]; omega), List.getElem?_eq_none (by rw [each_len]; omega)]
theorem apart_told {w h : Nat} {xs ys : List Nat} (hx : ∀ y ∈ xs, y < 2 ^ 32) (hy : ∀ y ∈ ys, y < 2 ^ 32) : Sh56Neutral.told (Sh56.answer (if Sh56.sized w h = true then .apart w h xs ys else .bad)) = apart_m w h xs ys := by
  unfold apart_m
  rw [bad_is]
  cases bad w h with
  | true => rfl
  | false =>
    rw [Bool.not_false, if_pos rfl, if_neg Bool.false_ne_true]
    have R := Rep.page (w := w) (h := h) hx
    have R2 := Rep.page (w := w) (h := h) hy
    show [((Sh56.many (Sh56.three 0x3C (Sh56.page w h xs) (Sh56.page w h ys) []) : Nat) : Int)] = _
    congr 2
    rw [pageF] at R R2 ⊢
    rw [pageF w h ys, three_each _ _ (fun _ _ => false) [] (fun c r _ _ => rfl)]
    have e : ∀ f : Nat → Nat → Bool, Sh56.each w h f = (List.range h).flatMap fun r => (List.range w).map fun c => f c r := fun _ => rfl
    rw [e, many_flat]
    refine sum_congr fun r hr => ?_
    rw [pc_row (Nat.xor_lt_two_pow (R.lt r) (R2.lt r))]
    congr 1
    refine List.map_congr_left fun c hc => ?_
    rw [Nat.testBit_xor, R.bit, R2.bit, dot_each, dot_each, decide_eq_true (List.mem_range.mp hc), decide_eq_true (List.mem_range.mp hr), Bool.true_and, Bool.true_and, Bool.true_and, Bool.true_and]
    unfold byTable
    rw [beq_one_testBit]
    generalize (_ == 1 : Bool) = p
    generalize (_ == 1 : Bool) = q
    cases p <;> cases q <;> rfl
end Dp

namespace Dp
open Sh56
/-! ### packed -/
theorem side_one {w : Nat} (h : (!side w) = false) : w ≠ 0 ∧ w ≤ 256 := by
  unfold side at h
  rw [Bool.not_eq_false', Bool.and_eq_true, decide_eq_true_eq, decide_eq_true_eq] at h
  omega
theorem pack_no {w : Nat} {b : List Nat} (hb : pack_bad w b = false) : (1 ≤ w ∧ w ≤ 256) ∧ 1 ≤ b.length / w ∧ b.length / w ≤ 256 := by
  unfold pack_bad side at hb
  simp only [Bool.or_eq_false_iff, Bool.not_eq_false', Bool.and_eq_true, decide_eq_true_eq] at hb
  exact hb
theorem pack_is {w : Nat} {b : List Nat} : Sh56.sized w (b.length / w) = !pack_bad w b := by
  unfold pack_bad
  rw [Bool.not_or, Bool.not_not, Bool.not_not]
  rfl
theorem Rep.pk {w h : Nat} {b : List Nat} (hl : b.length = h * w) : Rep w h (packN w h b) (b.map fun a => a != 0) := by
  refine ⟨by unfold packN; rw [List.length_map, List.length_range], fun r c => ?_⟩
  unfold dot
  by_cases hr : r < h
  · unfold packN
    rw [getD_map_range hr]
    have hlen : ((b.drop (r * w)).take w).length = w := by
      rw [List.length_take, List.length_drop, hl]
      have : (r + 1) * w ≤ h * w := Nat.mul_le_mul_right w hr
      rw [Nat.succ_mul] at this
      omega
    unfold packRow
    rw [map_range_rows hlen, byBits_bit (p := fun c => !decide (((b.drop (r * w)).take w).getD c 0 = 0)) (fun k _ => rfl)]
    by_cases hc : c < w
    · rw [decide_eq_true hc, decide_eq_true hr, Bool.true_and, Bool.true_and, Bool.true_and, getD_cut hc, getD_toArray]
      have hi : r * w + c < b.length := by
        rw [hl]
        have : (r + 1) * w ≤ h * w := Nat.mul_le_mul_right w hr
        rw [Nat.succ_mul] at this
        omega
      rw [List.getD_eq_getElem?_getD, List.getD_eq_getElem?_getD, List.getElem?_map, List.getElem?_eq_getElem hi]
      show (!decide (b[r * w + c] = 0)) = (b[r * w + c] != 0)
      rw [bne, Bool.beq_eq_decide_eq]
    · rw [decide_eq_false hc, Bool.false_and, Bool.false_and]
  · rw [getD_out (by unfold packN; rw [List.length_map, List.length_range]; omega), Nat.zero_testBit, decide_eq_false hr]
    simp
theorem nat8 {z : Int} (h : Sh56Neutral.natural z 8 = true) : 0 ≤ z := by
  unfold Sh56Neutral.natural at h
  rw [Bool.and_eq_true, decide_eq_true_eq] at h
  exact h.1
theorem nats_all8 : ∀ {x : List Int}, x.all (fun (z : Int) => Sh56Neutral.natural z 8) = true → x = zs (Sh56Neutral.nats x)
  | [], _ => rfl
  | a :: r, h => by
    rw [List.all_cons, Bool.and_eq_true] at h
    show a :: r = ((a.toNat : Nat) : Int) :: zs (Sh56Neutral.nats r)
    rw [← nats_all8 h.2, Int.toNat_of_nonneg (nat8 h.1)]
theorem law_do_pack {w : Int} {b : List Int} (hq : PySh56.do_pack_asked w b = true) : (pack_bad w.toNat (Sh56Neutral.nats b) = false → (Sh56Neutral.nats b).length = (Sh56Neutral.nats b).length / w.toNat * w.toNat) ∧ PySh56.do_pack w b = pack_m w.toNat (Sh56Neutral.nats b) ∧ 0 ≤ w ∧ b = zs (Sh56Neutral.nats b) := by
  have qq : (Sh56Neutral.natural w 32 && (b.all (fun (z : Int) => Sh56Neutral.natural z 8) && (if (Sh56.sized (w.toNat) ((Sh56Neutral.nats b).length / w.toNat)) = true then b.length == (w.toNat * ((Sh56Neutral.nats b).length / w.toNat)) else (b.isEmpty) || (b.length == (w.toNat * ((Sh56Neutral.nats b).length / w.toNat)))))) = true := (Bool.and_eq_true_iff.mp hq).1
  obtain ⟨n_w, qq⟩ := Bool.and_eq_true_iff.mp qq
  obtain ⟨m_b, qq⟩ := Bool.and_eq_true_iff.mp qq
  have z_b := nats_all8 m_b
  have hl : pack_bad w.toNat (Sh56Neutral.nats b) = false → (Sh56Neutral.nats b).length = (Sh56Neutral.nats b).length / w.toNat * w.toNat := fun hb => by
    rw [if_pos (by rw [pack_is, hb]; rfl), beq_iff_eq, Nat.mul_comm] at qq
    conv => lhs; rw [nats_len, qq]
  refine ⟨hl, ?_, (nat32 n_w).1, z_b⟩
  have e : PySh56.do_pack w b = Sh56Neutral.told (Sh56.answer (if (Sh56.sized (w.toNat) ((Sh56Neutral.nats b).length / w.toNat)) = true then .pack (w.toNat) (Sh56Neutral.nats b) else .bad)) := rfl
  rw [e]
  exact law_words pack_is rfl fun hb => Rep.pk (hl hb)
end Dp

namespace Dp
open Sh56
/-! ### runs -/
theorem runs_no {r w h : Nat} (hb : runs_bad r w h = false) : ((1 ≤ w ∧ w ≤ 256) ∧ 1 ≤ h ∧ h ≤ 256) ∧ r < h := by
  unfold runs_bad at hb
  rw [Bool.or_eq_false_iff, decide_eq_false_iff_not] at hb
  exact ⟨bad_no hb.1, by omega⟩
theorem runs_is {r w h : Nat} : (Sh56.sized w h && decide (r < h)) = !runs_bad r w h := by
  unfold runs_bad
  rw [bad_is, Bool.not_or, ← decide_not]
  congr 1
  exact decide_eq_decide.mpr (by omega)
theorem runs_bad_ok {r w h : Nat} (hb : runs_bad r w h = false) : (Sh56.sized w h && decide (r < h)) = true := by rw [runs_is, hb]; rfl
def stepR (p : Nat → Bool) (l : List (Nat × Nat)) (c : Nat) : List (Nat × Nat) := if p c = false then l else match l with
  | [] => [(c, 1)]
  | a :: q => if a.1 + a.2 = c then (a.1, a.2 + 1) :: q else (c, 1) :: l
/-- begins and ends among the first n -/
def begP (p : Nat → Bool) (n : Nat) : List Nat := (List.range n).filter fun c => p c && !(decide (1 ≤ c) && p (c - 1))
def endP (p : Nat → Bool) (n : Nat) : List Nat := (List.range n).filter fun c => p c && !(decide (c + 1 < n) && p (c + 1))
theorem filter_congr' {α : Type} {f g : α → Bool} {l : List α} (h : ∀ x ∈ l, f x = g x) : l.filter f = l.filter g := List.filter_congr h
theorem filter_one {α : Type} {f : α → Bool} {x : α} : [x].filter f = if f x = true then [x] else [] := by
  by_cases h : f x = true
  · rw [if_pos h, List.filter_cons, if_pos h] <;> rfl
  · rw [if_neg h, List.filter_cons, if_neg h] <;> rfl
theorem begP_succ (p : Nat → Bool) (n : Nat) : begP p (n + 1) = begP p n ++ if (p n && !(decide (1 ≤ n) && p (n - 1))) = true then [n] else [] := by
  unfold begP
  rw [List.range_succ, List.filter_append, filter_one]
theorem endP_no {p : Nat → Bool} {n : Nat} (h : p n = false) : endP p (n + 1) = endP p n := by
  unfold endP
  rw [List.range_succ, List.filter_append, filter_one, h, Bool.false_and, if_neg Bool.false_ne_true, List.append_nil]
  refine filter_congr' fun c hc => ?_
  have hc := List.mem_range.mp hc
  by_cases e : c + 1 = n
  · subst e
    rw [h, Bool.and_false, Bool.and_false]
  · rw [decide_eq_true (show c + 1 < n by omega), decide_eq_true (show c + 1 < n + 1 by omega)]
/-- the ends of what lies before the last column -/
def endX (p : Nat → Bool) (n : Nat) : List Nat := (List.range n).filter fun c => p c && !p (c + 1)
theorem endP_at {p : Nat → Bool} {n : Nat} (h : p n = true) : endP p (n + 1) = endX p n ++ [n] := by
  unfold endP endX
  rw [List.range_succ, List.filter_append, filter_one, h, decide_eq_false (by omega), Bool.false_and]
  congr 1
  refine filter_congr' fun c hc => ?_
  have hc := List.mem_range.mp hc
  rw [decide_eq_true (show c + 1 < n + 1 by omega), Bool.true_and]
theorem endX_no {p : Nat → Bool} {n : Nat} (h : p n = true) (h2 : n = 0 ∨ p (n - 1) = false) : endX p n = endP p n := by
  unfold endP endX
  refine filter_congr' fun c hc => ?_
  have hc := List.mem_range.mp hc
  by_cases e : c + 1 = n
  · have e2 : p c = false := by
      rcases h2 with z | z
      · omega
      · rw [show c = n - 1 by omega]
        exact z
    rw [e2, Bool.false_and, Bool.false_and]
  · rw [decide_eq_true (show c + 1 < n by omega), Bool.true_and]
theorem endX_yes {p : Nat → Bool} {n : Nat} (h : p (n + 1) = true) : endX p (n + 1) = endX p n := by
  unfold endX
  rw [List.range_succ, List.filter_append, filter_one, h, Bool.not_true, Bool.and_false, if_neg Bool.false_ne_true, List.append_nil]
structure RunsOk (p : Nat → Bool) (n : Nat) (P : List (Nat × Nat)) : Prop where
  beg : P.reverse.map Prod.fst = begP p n
  fin : P.reverse.map (fun q => q.1 + q.2) = (endP p n).map (· + 1)
theorem runs_ok (p : Nat → Bool) : ∀ n, RunsOk p n ((List.range n).foldl (stepR p) [])
  | 0 => ⟨rfl, rfl⟩
  | n + 1 => by
    have ih := runs_ok p n
    rw [List.range_succ, List.foldl_append]
    show RunsOk p (n + 1) (stepR p _ n)
    generalize (List.range n).foldl (stepR p) [] = P at ih
    obtain ⟨ib, ie⟩ := ih
    unfold stepR
    cases hp : p n with
    | false =>
      rw [if_pos rfl]
      refine ⟨?_, ?_⟩
      · rw [ib, begP_succ, hp, Bool.false_and, if_neg Bool.false_ne_true, List.append_nil]
      · rw [ie, endP_no hp]
    | true =>
      rw [if_neg (fun q : true = false => Bool.noConfusion q)]
      by_cases h1 : n = 0 ∨ p (n - 1) = false
      · -- a new run
        have eb : begP p (n + 1) = begP p n ++ [n] := by
          rw [begP_succ, hp, if_pos]
          rcases h1 with z | z
          · subst z
            rfl
          · rw [z, Bool.and_false]
            rfl
        have ee : (endP p (n + 1)).map (· + 1) = (endP p n).map (· + 1) ++ [n + 1] := by
          rw [endP_at hp, endX_no hp h1, List.map_append]
          rfl
        have new : RunsOk p (n + 1) ((n, 1) :: P) := by
          refine ⟨?_, ?_⟩
          · rw [List.reverse_cons, List.map_append, ib, eb]
            rfl
          · rw [List.reverse_cons, List.map_append, ie, ee]
            rfl
        match P, ie, new with
        | [], _, new => exact new
        | a :: t, ie, new =>
          show RunsOk p (n + 1) (if a.1 + a.2 = n then (a.1, a.2 + 1) :: t else (n, 1) :: a :: t)
          rw [if_neg]
          · exact new
          · intro hn
            have hm : n ∈ (endP p n).map (· + 1) := by
              rw [← ie, List.reverse_cons, List.map_append]
              exact List.mem_append_right _ (List.mem_cons.mpr (.inl hn.symm))
            obtain ⟨c, hc, e⟩ := List.mem_map.mp hm
            obtain ⟨hc1, hc2⟩ := List.mem_filter.mp hc
            have hc1 := List.mem_range.mp hc1
            rw [Bool.and_eq_true] at hc2
            rcases h1 with z | z
            · omega
            · rw [show n - 1 = c by omega, hc2.1] at z
              cases z
      · -- the run goes on
        have n1 : n ≠ 0 := fun z => h1 (.inl z)
        have p1 : p (n - 1) = true := by
          cases e : p (n - 1) with
          | true => rfl
          | false => exact absurd (.inr e) h1
        obtain ⟨m, rfl⟩ : ∃ m, n = m + 1 := ⟨n - 1, by omega⟩
        rw [Nat.add_sub_cancel] at p1
        have eb : begP p (m + 1 + 1) = begP p (m + 1) := by
          rw [begP_succ, hp, decide_eq_true (show 1 ≤ m + 1 by omega), Nat.add_sub_cancel, p1, Bool.true_and, Bool.true_and, Bool.not_true, if_neg Bool.false_ne_true, List.append_nil]
        have e1 : endP p (m + 1) = endX p m ++ [m] := endP_at p1
        have e2 : endP p (m + 1 + 1) = endX p m ++ [m + 1] := by rw [endP_at hp, endX_yes hp]
        rw [e1, List.map_append] at ie
        match P, ib, ie with
        | [], _, ie =>
          have := congrArg List.length ie
          rw [List.length_append] at this
          simp at this
        | a :: t, ib, ie =>
          rw [List.reverse_cons, List.map_append] at ie
          obtain ⟨i1, i2⟩ := List.append_inj' ie rfl
          have ha : a.1 + a.2 = m + 1 := (List.cons.inj i2).1
          show RunsOk p (m + 1 + 1) (if a.1 + a.2 = m + 1 then (a.1, a.2 + 1) :: t else (m + 1, 1) :: a :: t)
          rw [if_pos ha]
          refine ⟨?_, ?_⟩
          · rw [eb, ← ib, List.reverse_cons, List.reverse_cons, List.map_append, List.map_append]
            rfl
          · rw [e2, List.reverse_cons, List.map_append, List.map_append, i1]
            show _ ++ [a.1 + (a.2 + 1)] = _ ++ [m + 1 + 1]
            rw [show a.1 + (a.2 + 1) = m + 1 + 1 by omega]
theorem beg_is {w row : Nat} : begN w row = begP (fun c => row.testBit c) w := by
  unfold begN begP
  refine filter_congr' fun c _ => ?_
  rw [dec_shr, shr_and_one, Nat.testBit_shiftLeft]
  congr 1
  by_cases h : 1 ≤ c
  · rw [decide_eq_true h]
    show decide ((if (true && row.testBit (c - 1)) = true then 1 else 0) = 0) = !(true && row.testBit (c - 1))
    cases row.testBit (c - 1) <;> rfl
  · rw [decide_eq_false h]
    rfl
theorem end_is {w row : Nat} (hr : row < 2 ^ w) : endN w row = endP (fun c => row.testBit c) w := by
  unfold endN endP
  refine filter_congr' fun c hc => ?_
  have hc := List.mem_range.mp hc
  rw [dec_shr, shr_and_one]
  congr 1
  by_cases h : c + 1 < w
  · rw [decide_eq_true h]
    show decide ((if row.testBit (c + 1) = true then 1 else 0) = 0) = !(true && row.testBit (c + 1))
    cases row.testBit (c + 1) <;> rfl
  · rw [decide_eq_false h, testBit_big hr (by omega)]
    rfl
theorem runs_len {w row : Nat} (hr : row < 2 ^ w) : (endN w row).length = (begN w row).length := by
  have R := runs_ok (fun c => row.testBit c) w
  have h1 := congrArg List.length R.beg
  have h2 := congrArg List.length R.fin
  rw [List.length_map] at h1 h2
  rw [List.length_map] at h2
  rw [beg_is, end_is hr]
  omega
theorem runs_lens : ∀ (P : List (Nat × Nat)) (B E : List Nat), P.map Prod.fst = B → P.map (fun q => q.1 + q.2) = E.map (· + 1) → (P.map fun q => ((q.2 : Nat) : Int)) = (List.range B.length).map fun i => ((E.getD i 0 : Nat) : Int) - ((B.getD i 0 : Nat) : Int) + 1
  | [], B, E, hB, _ => by
    subst hB
    rfl
  | q :: t, B, [], _, hE => by cases hE
  | q :: t, B, e :: E, hB, hE => by
    subst hB
    obtain ⟨h1, h2⟩ := List.cons.inj hE
    rw [List.map_cons, List.map_cons, List.length_cons, List.range_succ_eq_map, List.map_cons, List.map_map, runs_lens t _ E rfl h2]
    congr 1
    have h1 : q.1 + q.2 = e + 1 := h1
    show ((q.2 : Nat) : Int) = (e : Int) - (q.1 : Int) + 1
    omega
theorem runs_told {r w h : Nat} {xs : List Nat} (hx : ∀ y ∈ xs, y < 2 ^ 32) : Sh56Neutral.told (Sh56.answer (if (Sh56.sized w h && decide (r < h)) = true then .runs r w h xs else .bad)) = runs_m r w h xs := by
  unfold runs_m
  rw [runs_is]
  cases runs_bad r w h with
  | true => rfl
  | false =>
    rw [Bool.not_false, if_pos rfl, if_neg Bool.false_ne_true]
    have R := Rep.page (w := w) (h := h) hx
    generalize pageOf w h xs = rows at R
    have hlt := R.lt r
    have e : Sh56.runs w h (Sh56.page w h xs) r = ((List.range w).foldl (stepR fun c => (rows.getD r 0).testBit c) []).reverse := by
      refine congrArg List.reverse (congrArg (fun f => List.foldl f [] (List.range w)) (funext fun l => funext fun c => ?_))
      unfold stepR
      rw [← R.bit r c]
      rfl
    have Q := runs_ok (fun c => (rows.getD r 0).testBit c) w
    generalize (List.range w).foldl (stepR fun c => (rows.getD r 0).testBit c) [] = P at e Q
    generalize rows.getD r 0 = row at Q hlt
    have hB := Q.beg
    have hE := Q.fin
    rw [← beg_is] at hB
    rw [← end_is hlt] at hE
    have hl : P.reverse.length = (begN w row).length := by
      rw [← hB, List.length_map]
    show (((Sh56.runs w h (Sh56.page w h xs) r).length : Nat) : Int) :: ([(Sh56.runs w h (Sh56.page w h xs) r).map fun p => p.1, (Sh56.runs w h (Sh56.page w h xs) r).map fun p => p.2].flatMap fun (l : List Nat) => ((l.length : Nat) : Int) :: Sh56Neutral.ints l) = _
    rw [e, List.flatMap_cons, List.flatMap_cons, List.flatMap_nil, List.append_nil, List.length_map, List.length_map, hl, show (P.reverse.map fun p => p.1) = begN w row from hB]
    have e3 : Sh56Neutral.ints (P.reverse.map fun p => p.2) = lenZ w row := by
      unfold Sh56Neutral.ints lenZ
      rw [List.map_map]
      exact runs_lens P.reverse (begN w row) (endN w row) hB hE
    rw [e3, zs_append, zs_append]
    show _ = ((((begN w row).length : Nat) : Int) :: (((begN w row).length : Nat) : Int) :: zs (begN w row)) ++ [(((begN w row).length : Nat) : Int)] ++ lenZ w row
    rw [List.append_assoc]
    rfl
/-! ### the least box -/
theorem pc_none {n : Nat} : pc n = 0 ↔ n = 0 := by
  constructor
  · intro h
    by_cases e : n = 0
    · exact e
    · rw [pc_pred n (by omega)] at h
      omega
  · rintro rfl
    exact pc_zero
/-- of a list the places that are not 0 -/
def nonz (l : List Nat) : List Nat := (List.range l.length).filter fun i => !decide (l.getD i 0 = 0)
theorem nonz_mem {l : List Nat} {i : Nat} : i ∈ nonz l ↔ i < l.length ∧ l.getD i 0 ≠ 0 := by
  unfold nonz
  rw [List.mem_filter, List.mem_range, Bool.not_eq_true', decide_eq_false_iff_not]
theorem nonz_sorted (l : List Nat) : (nonz l).Pairwise (· < ·) := List.Pairwise.filter _ List.pairwise_lt_range
theorem firstOf_at {l : List Nat} {i : Nat} (h1 : i < l.length) (h2 : l.getD i 0 ≠ 0) (h3 : ∀ j, j < i → l.getD j 0 = 0) : Sh56.firstOf l = i := by
  unfold Sh56.firstOf
  have e : l.findIdx? (fun n => n != 0) = some i := by
    rw [List.findIdx?_eq_some_iff_getElem]
    refine ⟨h1, ?_, fun j hj => ?_⟩
    · rw [List.getD_eq_getElem?_getD, List.getElem?_eq_getElem h1] at h2
      exact bne_iff_ne.mpr h2
    · have := h3 j hj
      rw [List.getD_eq_getElem?_getD, List.getElem?_eq_getElem (by omega)] at this
      have t : l[j]'(by omega) = 0 := this
      rw [t]
      decide
  rw [e]
  rfl
theorem first_is {l : List Nat} (h : nonz l ≠ []) : Sh56.firstOf l = (nonz l).getD 0 0 := by
  have hl : 0 < (nonz l).length := List.length_pos_iff.mpr h
  have e0 : (nonz l).getD 0 0 = (nonz l)[0] := by
    rw [List.getD_eq_getElem?_getD, List.getElem?_eq_getElem hl]
    rfl
  have hm := nonz_mem.mp (List.getElem_mem hl)
  rw [e0]
  refine firstOf_at hm.1 hm.2 fun j hj => ?_
  by_cases z : l.getD j 0 = 0
  · exact z
  · have hj2 : j ∈ nonz l := nonz_mem.mpr ⟨by omega, z⟩
    obtain ⟨k, hk, e⟩ := List.mem_iff_getElem.mp hj2
    have hs := List.pairwise_iff_getElem.mp (nonz_sorted l)
    by_cases k0 : k = 0
    · subst k0
      omega
    · have := hs 0 k hl hk (by omega)
      omega
theorem last_is {l : List Nat} (h : nonz l ≠ []) : Sh56.lastOf l = lastN (nonz l) := by
  have hl : 0 < (nonz l).length := List.length_pos_iff.mpr h
  have hl2 : (nonz l).length - 1 < (nonz l).length := by omega
  have e0 : lastN (nonz l) = (nonz l)[(nonz l).length - 1] := by
    unfold lastN
    rw [List.getD_eq_getElem?_getD, List.getElem?_eq_getElem hl2]
    rfl
  have hm := nonz_mem.mp (List.getElem_mem hl2)
  rw [e0]
  generalize hL : (nonz l)[(nonz l).length - 1] = L at hm
  have rv : ∀ j, j < l.length → l.reverse.getD j 0 = l.getD (l.length - 1 - j) 0 := fun j hj => by
    rw [List.getD_eq_getElem?_getD, List.getElem?_reverse hj, List.getD_eq_getElem?_getD]
  unfold Sh56.lastOf
  have e1 : Sh56.firstOf l.reverse = l.length - 1 - L := by
    refine firstOf_at (by rw [List.length_reverse]; omega) ?_ fun j hj => ?_
    · rw [rv _ (by omega), show l.length - 1 - (l.length - 1 - L) = L by omega]
      exact hm.2
    · rw [rv _ (by omega)]
      by_cases z : l.getD (l.length - 1 - j) 0 = 0
      · exact z
      · have hj2 : l.length - 1 - j ∈ nonz l := nonz_mem.mpr ⟨by omega, z⟩
        obtain ⟨k, hk, e⟩ := List.mem_iff_getElem.mp hj2
        have hs := List.pairwise_iff_getElem.mp (nonz_sorted l)
        by_cases k0 : k = (nonz l).length - 1
        · subst k0
          omega
        · have := hs k ((nonz l).length - 1) hk hl2 (by omega)
          omega
  rw [e1]
  omega
theorem bxR_is {w h : Nat} {rows : List Nat} {x : Sh56.Page} (R : Rep w h rows x) : bxR h rows = nonz (Sh56.rowCounts w h x) := by
  rw [row_counts R]
  unfold bxR nonz
  rw [List.length_map, R.len]
  refine filter_congr' fun r hr => ?_
  rw [getD_map (by rw [R.len]; exact List.mem_range.mp hr)]
  congr 1
  exact decide_eq_decide.mpr pc_none.symm
theorem sum_zero : ∀ l : List Nat, l.sum = 0 ↔ ∀ x ∈ l, x = 0
  | [] => ⟨fun _ x hx => (List.not_mem_nil hx).elim, fun _ => rfl⟩
  | a :: r => by
    rw [List.sum_cons]
    constructor
    · intro h x hx
      rcases List.mem_cons.mp hx with rfl | hx
      · omega
      · exact (sum_zero r).mp (by omega) x hx
    · intro h
      rw [h a List.mem_cons_self, (sum_zero r).mpr fun x hx => h x (List.mem_cons_of_mem _ hx)]
theorem bxC_is {w h : Nat} {rows : List Nat} {x : Sh56.Page} (R : Rep w h rows x) : bxC w rows = nonz (Sh56.columnCounts w h x) := by
  rw [col_counts R]
  unfold bxC nonz
  rw [colN_len]
  refine filter_congr' fun c hc => ?_
  unfold colN
  rw [getD_map_range (List.mem_range.mp hc)]
  refine bool_iff ?_
  rw [List.any_eq_true, Bool.not_eq_true', decide_eq_false_iff_not, sum_zero]
  constructor
  · rintro ⟨b, hb, h1⟩ h2
    obtain ⟨row, hr, rfl⟩ := List.mem_map.mp hb
    have := h2 _ (List.mem_map.mpr ⟨row, hr, rfl⟩)
    have h3 : row >>> c &&& 1 = 1 := of_decide_eq_true h1
    omega
  · intro h1
    rcases Classical.em (∃ row ∈ rows, row >>> c &&& 1 ≠ 0) with ⟨row, hr, h2⟩ | h2
    · refine ⟨_, List.mem_map.mpr ⟨row, hr, rfl⟩, ?_⟩
      rw [shr_and_one] at h2
      show decide (row >>> c &&& 1 = 1) = true
      rw [shr_and_one]
      cases e : row.testBit c with
      | true => rfl
      | false =>
        rw [e] at h2
        exact absurd rfl h2
    · refine absurd (fun y hy => ?_) h1
      obtain ⟨row, hr, rfl⟩ := List.mem_map.mp hy
      rcases Nat.eq_zero_or_pos (row >>> c &&& 1) with e | e
      · exact e
      · exact absurd ⟨row, hr, by omega⟩ h2
theorem bxR_nil {h : Nat} {rows : List Nat} (hl : rows.length = h) : bxR h rows = [] ↔ ∀ n ∈ rows, n = 0 := by
  unfold bxR
  rw [List.filter_eq_nil_iff]
  constructor
  · intro h1 n hn
    obtain ⟨i, hi, e⟩ := mem_getD.mp hn
    have := h1 i (List.mem_range.mpr (by omega))
    rw [Bool.not_eq_true', Bool.not_eq_false, decide_eq_true_eq] at this
    omega
  · intro h1 i hi
    have := h1 (rows.getD i 0) (mem_getD.mpr ⟨i, by rw [hl]; exact List.mem_range.mp hi, rfl⟩)
    rw [Bool.not_eq_true', Bool.not_eq_false, decide_eq_true_eq]
    exact this
theorem bxC_some {w h : Nat} {rows : List Nat} (hl : rows.length = h) (hb : ∀ n ∈ rows, n < 2 ^ w) (hn : bxR h rows ≠ []) : bxC w rows ≠ [] := by
  intro hc
  refine hn ((bxR_nil hl).mpr fun n hn => ?_)
  refine Nat.eq_of_testBit_eq fun c => ?_
  rw [Nat.zero_testBit]
  by_cases hcw : c < w
  · unfold bxC at hc
    rw [List.filter_eq_nil_iff] at hc
    have := hc c (List.mem_range.mpr hcw)
    cases e : n.testBit c with
    | false => rfl
    | true =>
      refine absurd (List.any_eq_true.mpr ⟨_, List.mem_map.mpr ⟨n, hn, rfl⟩, ?_⟩) this
      show decide (n >>> c &&& 1 = 1) = true
      rw [dec_shr, e]
  · exact testBit_big (hb n hn) (by omega)
theorem box_told {w h : Nat} {xs : List Nat} (hx : ∀ y ∈ xs, y < 2 ^ 32) : Sh56Neutral.told (Sh56.answer (if Sh56.sized w h = true then .box w h xs else .bad)) = box_m w h xs := by
  unfold box_m
  rw [bad_is]
  cases bad w h with
  | true => rfl
  | false =>
    rw [Bool.not_false, if_pos rfl, if_neg Bool.false_ne_true]
    have R := Rep.page (w := w) (h := h) hx
    have m : Sh56.many (Sh56.page w h xs) = allN (pageOf w h xs) := by
      rw [pageF] at R ⊢
      exact many_page R
    generalize pageOf w h xs = rows at R m
    show Sh56Neutral.told (match Sh56.box w h (Sh56.page w h xs) with | none => Sh56.fail (-6) | some l => Sh56.done [l]) = _
    have z : allN rows = 0 ↔ bxR h rows = [] := by
      rw [bxR_nil R.len]
      unfold allN
      rw [sum_zero]
      constructor
      · intro h1 n hn
        exact pc_none.mp (h1 _ (List.mem_map.mpr ⟨n, hn, rfl⟩))
      · intro h1 y hy
        obtain ⟨n, hn, rfl⟩ := List.mem_map.mp hy
        exact pc_none.mpr (h1 n hn)
    by_cases e : bxR h rows = []
    · rw [if_pos (decide_eq_true e)]
      have b : Sh56.box w h (Sh56.page w h xs) = none := by
        unfold Sh56.box
        rw [if_pos (by rw [m]; exact z.mpr e)]
      rw [b]
      rfl
    · rw [if_neg (by rw [decide_eq_true_eq]; exact e)]
      have ec := bxC_some R.len (fun n hn => R.mem_lt hn) e
      have b : Sh56.box w h (Sh56.page w h xs) = some [(bxC w rows).getD 0 0, (bxR h rows).getD 0 0, lastN (bxC w rows) + 1 - (bxC w rows).getD 0 0, lastN (bxR h rows) + 1 - (bxR h rows).getD 0 0] := by
        unfold Sh56.box
        rw [if_neg (by rw [m]; exact fun q => e (z.mp q))]
        rw [bxR_is R] at e ⊢
        rw [bxC_is R] at ec ⊢
        show some [Sh56.firstOf (Sh56.columnCounts w h (Sh56.page w h xs)), Sh56.firstOf (Sh56.rowCounts w h (Sh56.page w h xs)), Sh56.lastOf (Sh56.columnCounts w h (Sh56.page w h xs)) + 1 - Sh56.firstOf (Sh56.columnCounts w h (Sh56.page w h xs)), Sh56.lastOf (Sh56.rowCounts w h (Sh56.page w h xs)) + 1 - Sh56.firstOf (Sh56.rowCounts w h (Sh56.page w h xs))] = _
        rw [first_is e, first_is ec, last_is e, last_is ec]
      rw [b]
      have le : ∀ l : List Nat, nonz l ≠ [] → (nonz l).getD 0 0 ≤ lastN (nonz l) := fun l hl => by
        have hl0 : 0 < (nonz l).length := List.length_pos_iff.mpr hl
        have hl2 : (nonz l).length - 1 < (nonz l).length := by omega
        unfold lastN
        rw [List.getD_eq_getElem?_getD, List.getElem?_eq_getElem hl0, List.getD_eq_getElem?_getD, List.getElem?_eq_getElem hl2, Option.getD_some, Option.getD_some]
        by_cases q : (nonz l).length - 1 = 0
        · simp only [q]
          exact Nat.le_refl _
        · exact Nat.le_of_lt (List.pairwise_iff_getElem.mp (nonz_sorted l) 0 _ hl0 hl2 (by omega))
      have l1 : (bxC w rows).getD 0 0 ≤ lastN (bxC w rows) := by
        rw [bxC_is R] at ec ⊢
        exact le _ ec
      have l2 : (bxR h rows).getD 0 0 ≤ lastN (bxR h rows) := by
        rw [bxR_is R] at e ⊢
        exact le _ e
      show (0 : Int) :: Sh56Neutral.ints _ = _
      show (0 : Int) :: ((((bxC w rows).getD 0 0 : Nat) : Int) :: (((bxR h rows).getD 0 0 : Nat) : Int) :: ((lastN (bxC w rows) + 1 - (bxC w rows).getD 0 0 : Nat) : Int) :: ((lastN (bxR h rows) + 1 - (bxR h rows).getD 0 0 : Nat) : Int) :: []) = _
      rw [show ((lastN (bxC w rows) + 1 - (bxC w rows).getD 0 0 : Nat) : Int) = ((lastN (bxC w rows) : Nat) : Int) - (((bxC w rows).getD 0 0 : Nat) : Int) + 1 by omega, show ((lastN (bxR h rows) + 1 - (bxR h rows).getD 0 0 : Nat) : Int) = ((lastN (bxR h rows) : Nat) : Int) - (((bxR h rows).getD 0 0 : Nat) : Int) + 1 by omega]
end Dp
namespace Dp
theorem page_mem_lt {w h : Nat} {xs : List Nat} {n : Nat} (hn : n ∈ pageOf w h xs) : n < 2 ^ w := by
  obtain ⟨i, _, rfl⟩ := List.mem_map.mp hn
  have h1 : mask w < 2 ^ w := by
    unfold mask
    have := Nat.two_pow_pos w
    omega
  exact Nat.lt_of_le_of_lt Nat.and_le_right h1
theorem page_row_lt (w h : Nat) (xs : List Nat) (r : Nat) : (pageOf w h xs).getD r 0 < 2 ^ w := by
  by_cases hr : r < (pageOf w h xs).length
  · exact page_mem_lt (mem_getD.mpr ⟨r, hr, rfl⟩)
  · rw [getD_out (by omega)]
    exact Nat.two_pow_pos w
end Dp

namespace Dp
open Sh56
/-! ### what is around: turn by turn -/
theorem beN_len (w : Nat) (ns : List Nat) (dx dy : Int) : (beN w ns dx dy).length = ns.length := mvN_len _ _ _ _
theorem niN_mem {w : Nat} {ns p : List Nat} (h : p ∈ niN w ns) : p.length = ns.length := by
  obtain ⟨k, _, rfl⟩ := List.mem_map.mp h
  exact beN_len _ _ _ _
theorem eiN_mem {w : Nat} {ns p : List Nat} (h : p ∈ eiN w ns) : p.length = ns.length := by
  obtain ⟨k, _, rfl⟩ := List.mem_map.mp h
  exact beN_len _ _ _ _
theorem niN_len (w : Nat) (ns : List Nat) : (niN w ns).length = 9 := by
  unfold niN
  rw [List.length_map, List.length_range]
theorem eiN_len (w : Nat) (ns : List Nat) : (eiN w ns).length = 8 := by
  unfold eiN
  rw [List.length_map]
  rfl
theorem atN_len (pgs : List (List Nat)) (r : Nat) : (atN pgs r).length = pgs.length := List.length_map _
theorem foldl_take {α β : Type} (f : β → α → β) (b : β) (l : List α) (d : α) {i : Nat} (h : i < l.length) : (l.take (i + 1)).foldl f b = f ((l.take i).foldl f b) (l.getD i d) := by
  rw [List.take_add_one, List.getElem?_eq_getElem h, List.foldl_append, List.getD_eq_getElem?_getD, List.getElem?_eq_getElem h]
  rfl
def exI (rows : List Nat) (m i : Nat) : List Nat := (rows.take i).foldl (exStep m) (m :: List.replicate rows.length 0)
theorem exI_succ {rows : List Nat} {m i : Nat} (h : i < rows.length) : exI rows m (i + 1) = exStep m (exI rows m i) (rows.getD i 0) := foldl_take _ _ _ _ h
theorem exStep_len (m : Nat) (f : List Nat) (row : Nat) : (exStep m f row).length = f.length := by
  unfold exStep
  rw [List.length_map, List.length_range]
theorem exI_len (rows : List Nat) (m : Nat) : ∀ i, i ≤ rows.length → (exI rows m i).length = rows.length + 1
  | 0, _ => by
    unfold exI
    rw [List.take_zero]
    show (m :: List.replicate rows.length 0).length = _
    rw [List.length_cons, List.length_replicate]
  | i + 1, h => by rw [exI_succ h, exStep_len, exI_len rows m i (by omega)]
theorem exI_all (rows : List Nat) (m : Nat) : exI rows m rows.length = exN rows m := by
  unfold exI exN
  rw [List.take_length]
theorem exN_len (rows : List Nat) (m : Nat) : (exN rows m).length = rows.length + 1 := by rw [← exI_all, exI_len rows m _ (Nat.le_refl _)]
theorem fiRow_succ (rows : List Nat) (a b m n : Nat) : fiRow rows a b m (n + 1) = fiStep a b m (fiRow rows a b m n) n (rows.getD n 0) := by
  unfold fiRow
  rw [List.range_succ, List.foldl_append]
  rfl
theorem foL_len (rows : List Nat) (m : Nat) : (foL rows m).length = rows.length := by
  unfold foL
  rw [List.length_map, List.length_range]
theorem rot_len (rows : List Nat) : (rows.drop 1 ++ rows.take 1).length = rows.length := by
  rw [List.length_append, List.length_drop, List.length_take]
  omega
theorem goN_le (row : Nat) (rows a b : List Nat) (m : Nat) : goN row rows a b m ≤ row := by
  unfold goN
  exact Nat.le_trans Nat.and_le_left (Nat.le_trans Nat.and_le_left (Nat.le_trans Nat.and_le_left Nat.and_le_left))
theorem bnd_ta {w : Nat} {ns a b : List Nat} (h : Bnd ns) : Bnd (taN w ns a b) := fun n hn => by
  obtain ⟨r, hr, rfl⟩ := List.mem_map.mp hn
  exact Nat.xor_lt_two_pow (bnd_at h r) (Nat.lt_of_le_of_lt (goN_le _ _ _ _ _) (bnd_at h r))
theorem bnd_ro {w : Nat} {ns : List Nat} (h : Bnd ns) : Bnd (roN w ns) := bnd_ta (bnd_ta h)
theorem thiN_stop {w : Nat} {ns : List Nat} (h : ¬ allN (roN w ns) < allN ns) : ∀ f, thiN w f ns = (ns, 0)
  | 0 => rfl
  | f + 1 => by
    unfold thiN
    rw [if_neg (by rw [decide_eq_true_eq]; exact h)]
theorem thiN_go {w : Nat} {ns : List Nat} (h : allN (roN w ns) < allN ns) (f : Nat) : thiN w (f + 1) ns = ((thiN w f (roN w ns)).1, (thiN w f (roN w ns)).2 + 1) := by
  conv => lhs; unfold thiN
  rw [if_pos (by rw [decide_eq_true_eq]; exact h)]
theorem thiN_inv (w : Nat) : ∀ (f : Nat) {ns : List Nat}, Bnd ns → Bnd (thiN w f ns).1 ∧ (thiN w f ns).1.length = ns.length
  | 0, ns, h => ⟨h, rfl⟩
  | f + 1, ns, h => by
    by_cases c : allN (roN w ns) < allN ns
    · rw [thiN_go c]
      have ih := thiN_inv w f (bnd_ro (w := w) h)
      exact ⟨ih.1, by rw [ih.2, roN_len]⟩
    · rw [thiN_stop c]
      exact ⟨h, rfl⟩
end Dp
namespace Dp
theorem clock_le : ∀ d ∈ clockL, -1000 ≤ d.1 ∧ d.1 ≤ 1000 := by decide
end Dp
namespace Dp
theorem thiN_fuel (w : Nat) : ∀ (f g : Nat) (ns : List Nat), allN ns ≤ f → allN ns ≤ g → thiN w f ns = thiN w g ns
  | 0, g, ns, hf, _ => by
    have c : ¬ allN (roN w ns) < allN ns := by omega
    rw [thiN_stop c, thiN_stop c]
  | f + 1, g, ns, hf, hg => by
    by_cases c : allN (roN w ns) < allN ns
    · obtain ⟨g', rfl⟩ : ∃ g', g = g' + 1 := ⟨g - 1, by omega⟩
      rw [thiN_go c, thiN_go c, thiN_fuel w f g' (roN w ns) (by omega) (by omega)]
    · rw [thiN_stop c, thiN_stop c]
theorem thiN_step {w m : Nat} {ns : List Nat} (h : allN (roN w ns) < allN ns) (hm : m = allN ns) : thiN w m ns = ((thiN w (allN (roN w ns)) (roN w ns)).1, (thiN w (allN (roN w ns)) (roN w ns)).2 + 1) := by
  obtain ⟨f, rfl⟩ : ∃ f, m = f + 1 := ⟨m - 1, by omega⟩
  rw [thiN_go h, thiN_fuel w f (allN (roN w ns)) (roN w ns) (by omega) (Nat.le_refl _)]
end Dp

namespace Dp
open Sh56
/-! ### the nine, the eight -/
theorem be_bit {w h : Nat} {dx dy : Int} {rows : List Nat} {x : Sh56.Page} (R : Rep w h rows x) {r : Nat} (hr : r < h) (c : Nat) : ((beN w rows dx dy).getD r 0).testBit c = (decide (c < w) && there w h x.toArray ((c : Int) + dx) ((r : Int) + dy)) := by
  have M := R.mv (dx := 0 - dx) (dy := 0 - dy)
  unfold beN
  rw [M.bit]
  unfold Sh56.moved
  rw [dot_each, decide_eq_true hr, Bool.true_and, show (c : Int) - (0 - dx) = (c : Int) + dx by omega, show (r : Int) - (0 - dy) = (r : Int) + dy by omega]
theorem nine_list (w h : Nat) (a : Array Bool) (c r : Nat) : nine w h a c r = (List.range 9).map fun k => there w h a ((c : Int) + (((k % 3 : Nat) : Int) - 1)) ((r : Int) + (((k / 3 : Nat) : Int) - 1)) := rfl
theorem atN_get {pgs : List (List Nat)} {r k : Nat} (h : k < pgs.length) : (atN pgs r).getD k 0 = (pgs.getD k []).getD r 0 := by
  unfold atN
  rw [List.getD_eq_getElem?_getD, List.getElem?_map, List.getElem?_eq_getElem h, List.getD_eq_getElem?_getD (l := pgs), List.getElem?_eq_getElem h]
  rfl
theorem getD_mapB {α : Type} {l : List α} {f : α → Bool} {i : Nat} {d : α} (h : i < l.length) : (l.map f).getD i false = f (l.getD i d) := by
  rw [List.getD_eq_getElem?_getD, List.getElem?_map, List.getElem?_eq_getElem h, List.getD_eq_getElem?_getD, List.getElem?_eq_getElem h]
  rfl
theorem nine_bit {w h : Nat} {rows : List Nat} {x : Sh56.Page} (R : Rep w h rows x) {r c k : Nat} (hr : r < h) (hc : c < w) (hk : k < 9) : ((atN (niN w rows) r).getD k 0).testBit c = (nine w h x.toArray c r).getD k false := by
  rw [atN_get (by rw [niN_len]; exact hk), nine_list, getD_mapB (d := 0) (by rw [List.length_range]; exact hk)]
  have e : (niN w rows).getD k [] = beN w rows (((k % 3 : Nat) : Int) - 1) (((k / 3 : Nat) : Int) - 1) := by
    unfold niN
    rw [List.getD_eq_getElem?_getD, List.getElem?_map, List.getElem?_range hk]
    rfl
  have e2 : (List.range 9).getD k 0 = k := by
    rw [List.getD_eq_getElem?_getD, List.getElem?_range hk]
    rfl
  rw [e, be_bit R hr, decide_eq_true hc, Bool.true_and, e2]
theorem clock_bits {w h : Nat} {rows : List Nat} {x : Sh56.Page} (R : Rep w h rows x) {r c : Nat} (hr : r < h) (hc : c < w) : (atN (eiN w rows) r).map (fun n => n.testBit c) = clock (nine w h x.toArray c r) := by
  unfold atN eiN
  rw [List.map_map, List.map_map]
  have e : (((fun n : Nat => n.testBit c) ∘ fun ns : List Nat => ns.getD r 0) ∘ fun d : Int × Int => beN w rows d.1 d.2) = fun d : Int × Int => there w h x.toArray ((c : Int) + d.1) ((r : Int) + d.2) := by
    funext d
    show ((beN w rows d.1 d.2).getD r 0).testBit c = _
    rw [be_bit R hr, decide_eq_true hc, Bool.true_and]
  rw [e]
  rfl
theorem many_cons (b : Bool) (l : List Bool) : Sh56.many (b :: l) = (if b = true then 1 else 0) + Sh56.many l := by
  unfold Sh56.many
  cases b with
  | true =>
    rw [List.filter_cons, if_pos (by rfl), List.length_cons, if_pos rfl]
    omega
  | false =>
    rw [List.filter_cons, if_neg (by exact Bool.false_ne_true), if_neg Bool.false_ne_true]
    omega
theorem many_nil : Sh56.many [] = 0 := rfl
theorem nine_four {w h c r : Nat} {a : Array Bool} : (nine w h a c r).getD 4 false = dot w h a c r := by
  rw [nine_list, getD_mapB (d := 0) (by decide)]
  show there w h a ((c : Int) + ((((List.range 9).getD 4 0 % 3 : Nat) : Int) - 1)) ((r : Int) + ((((List.range 9).getD 4 0 / 3 : Nat) : Int) - 1)) = _
  rw [show (List.range 9).getD 4 0 = 4 from rfl]
  have e1 : (c : Int) + (((4 % 3 : Nat) : Int) - 1) = (c : Int) := by omega
  have e2 : (r : Int) + (((4 / 3 : Nat) : Int) - 1) = (r : Int) := by omega
  rw [e1, e2]
  unfold there
  rw [decide_eq_true (by omega), decide_eq_true (by omega), Bool.true_and, Bool.true_and, Int.toNat_natCast, Int.toNat_natCast]
theorem many_nine : ∀ l : List Bool, l.length = 9 → Sh56.many l = (if l.getD 4 false = true then 1 else 0) + Sh56.many (clock l) := fun l hl => by
  match l, hl with
  | [a, b, c, d, e, f, g, h, i], _ =>
    show _ = (if e = true then 1 else 0) + Sh56.many [b, c, f, i, h, g, d, a]
    simp only [many_cons, many_nil]
    omega
theorem nine_len (w h : Nat) (a : Array Bool) (c r : Nat) : (nine w h a c r).length = 9 := rfl
/-! ### so many, and no more -/
theorem exI_bit (rows : List Nat) {m c : Nat} (hm : m.testBit c = true) : ∀ (i : Nat), i ≤ rows.length → ∀ k, k ≤ rows.length → ((exI rows m i).getD k 0).testBit c = decide (Sh56.many ((rows.take i).map fun n => n.testBit c) = k)
  | 0, _, k, hk => by
    unfold exI
    rw [List.take_zero]
    show ((m :: List.replicate rows.length 0).getD k 0).testBit c = decide (0 = k)
    cases k with
    | zero => exact hm
    | succ k =>
      rw [List.getD_cons_succ, List.getD_eq_getElem?_getD, List.getElem?_replicate, if_pos (by omega)]
      show Nat.testBit 0 c = _
      rw [Nat.zero_testBit]
      exact (decide_eq_false (by omega)).symm
  | i + 1, h, k, hk => by
    have ih := exI_bit rows hm i (by omega)
    have hl := exI_len rows m i (by omega)
    rw [exI_succ (by omega)]
    unfold exStep
    rw [hl, getD_map_range (by omega), Nat.testBit_or, Nat.testBit_and, Nat.testBit_and, Nat.testBit_xor, hm, ih k hk, take_succ_getD (by omega), List.map_append, many_append]
    have e1 : Sh56.many (List.map (fun n => n.testBit c) [rows.getD i 0]) = if (rows.getD i 0).testBit c = true then 1 else 0 := by
      show Sh56.many [(rows.getD i 0).testBit c] = _
      rw [many_cons, many_nil, Nat.add_zero]
    rw [e1]
    generalize Sh56.many ((rows.take i).map fun n => n.testBit c) = t at ih ⊢
    have e2 : ((0 :: (exI rows m i).dropLast).getD k 0).testBit c = decide (t + 1 = k) := by
      cases k with
      | zero =>
        rw [List.getD_cons_zero, Nat.zero_testBit]
        exact (decide_eq_false (by omega)).symm
      | succ k =>
        have e3 : (exI rows m i).dropLast.getD k 0 = (exI rows m i).getD k 0 := by
          rw [List.dropLast_eq_take, List.getD_eq_getElem?_getD, List.getElem?_take_of_lt (by omega), List.getD_eq_getElem?_getD]
        rw [List.getD_cons_succ, e3, ih k (by omega)]
        exact decide_eq_decide.mpr (by omega)
    rw [e2]
    cases (rows.getD i 0).testBit c with
    | true =>
      rw [if_pos rfl]
      simp
    | false =>
      rw [if_neg Bool.false_ne_true]
      simp
theorem exN_bit (rows : List Nat) {m c k : Nat} (hm : m.testBit c = true) (hk : k ≤ rows.length) : ((exN rows m).getD k 0).testBit c = decide (Sh56.many (rows.map fun n => n.testBit c) = k) := by
  rw [← exI_all, exI_bit rows hm _ (Nat.le_refl _) k hk, List.take_length]
theorem manyB_le (l : List Bool) : Sh56.many l ≤ l.length := List.length_filter_le _ _
theorem ofN_bit (rows : List Nat) {m c a b : Nat} (hm : m.testBit c = true) (hb : b ≤ rows.length) : (ofN (exN rows m) a b).testBit c = (decide (a ≤ Sh56.many (rows.map fun n => n.testBit c)) && decide (Sh56.many (rows.map fun n => n.testBit c) ≤ b)) := by
  unfold ofN
  rw [anyN_bit]
  refine bool_iff ?_
  rw [List.any_eq_true, Bool.and_eq_true, decide_eq_true_eq, decide_eq_true_eq]
  constructor
  · rintro ⟨x, hx, hbit⟩
    obtain ⟨i, i1, i2, i3, rfl⟩ := mem_cut.mp hx
    rw [exN_len] at i3
    rw [exN_bit rows hm (by omega), decide_eq_true_eq] at hbit
    omega
  · rintro ⟨h1, h2⟩
    refine ⟨_, mem_cut.mpr ⟨Sh56.many (rows.map fun n => n.testBit c), h1, by omega, by rw [exN_len]; omega, rfl⟩, ?_⟩
    rw [exN_bit rows hm (by omega), decide_eq_true_eq]
theorem and_out {a b c : Nat} (h : a.testBit c = false) : (a &&& b).testBit c = false := by
  rw [Nat.testBit_and, h, Bool.false_and]
theorem mask_in {w c : Nat} (h : c < w) : (mask w).testBit c = true := by
  rw [testBit_mask]
  exact decide_eq_true h
theorem many8 {w h : Nat} {rows : List Nat} {x : Sh56.Page} (R : Rep w h rows x) {r c : Nat} (hr : r < h) (hc : c < w) : Sh56.many ((atN (eiN w rows) r).map fun n => n.testBit c) = Sh56.many (clock (nine w h x.toArray c r)) := by rw [clock_bits R hr hc]
theorem Rep.ke {w h k : Nat} {rows : List Nat} {x : Sh56.Page} (R : Rep w h rows x) : Rep w h (keN w rows k) (Sh56.kept w h k x) := by
  unfold Sh56.kept
  refine Rep.each (by rw [keN_len, R.len]) fun r c hr => ?_
  unfold keN
  rw [R.len, getD_map_range hr]
  by_cases hc : c < w
  · rw [decide_eq_true hc, Bool.true_and, Nat.testBit_and, ofN_bit _ (mask_in hc) (by rw [atN_len, eiN_len]; decide), many8 R hr hc, R.bit]
    have h8 : Sh56.many (clock (nine w h x.toArray c r)) ≤ 8 := manyB_le _
    rw [many_nine _ (nine_len w h x.toArray c r), nine_four, decide_eq_true h8, Bool.and_true]
    cases dot w h x.toArray c r with
    | false => rfl
    | true =>
      rw [if_pos rfl, Bool.true_and, Bool.true_and]
      exact decide_eq_decide.mpr (by omega)
  · rw [decide_eq_false hc, Bool.false_and]
    exact and_out (R.out (by omega))
/-! ### fitted -/
theorem fiRow_in (rows : List Nat) {a b m c : Nat} (hm : m.testBit c = true) : ∀ n, (fiRow rows a b m n).testBit c = (List.range n).all fun k => (!a.testBit k || (rows.getD k 0).testBit c) && (!b.testBit k || !(rows.getD k 0).testBit c)
  | 0 => by
    show m.testBit c = true
    exact hm
  | n + 1 => by
    rw [fiRow_succ, List.range_succ, List.all_append, ← fiRow_in rows hm n]
    unfold fiStep
    rw [dec_shr, dec_shr]
    simp only [ite_testBit, Nat.testBit_and, Nat.testBit_xor, hm, List.all_cons, List.all_nil, Bool.and_true, Bool.xor_true]
    generalize (fiRow rows a b m n).testBit c = p
    generalize (rows.getD n 0).testBit c = q
    cases a.testBit n <;> cases b.testBit n <;> cases p <;> cases q <;> rfl
theorem fiRow_out (rows : List Nat) {a b m c : Nat} (hm : m.testBit c = false) : ∀ n, (fiRow rows a b m n).testBit c = false
  | 0 => hm
  | n + 1 => by
    have ih := fiRow_out rows (a := a) (b := b) hm n
    rw [fiRow_succ]
    unfold fiStep
    simp only [ite_testBit, Nat.testBit_and, ih, Bool.false_and]
    simp
theorem all_congr {α : Type} {f g : α → Bool} : ∀ {l : List α}, (∀ x ∈ l, f x = g x) → l.all f = l.all g
  | [], _ => rfl
  | x :: r, h => by rw [List.all_cons, List.all_cons, h x List.mem_cons_self, all_congr fun y hy => h y (List.mem_cons_of_mem _ hy)]
theorem beq_zero_testBit (a i : Nat) : (a / 2 ^ i % 2 == 0) = !a.testBit i := by
  rw [Nat.testBit_eq_decide_div_mod_eq]
  have h : a / 2 ^ i % 2 < 2 := Nat.mod_lt _ (by decide)
  by_cases e : a / 2 ^ i % 2 = 1
  · rw [e]
    rfl
  · have e0 : a / 2 ^ i % 2 = 0 := by omega
    rw [e0]
    rfl
theorem Rep.fi {w h a b : Nat} {rows : List Nat} {x : Sh56.Page} (R : Rep w h rows x) : Rep w h (fiN w rows a b) (Sh56.fitted w h a b x) := by
  unfold Sh56.fitted
  refine Rep.each (by rw [fiN_len, R.len]) fun r c hr => ?_
  unfold fiN
  rw [R.len, getD_map_range hr, atN_len, niN_len]
  by_cases hc : c < w
  · rw [decide_eq_true hc, Bool.true_and, fiRow_in _ (mask_in hc)]
    unfold fits
    refine all_congr fun k hk => ?_
    have hk := List.mem_range.mp hk
    rw [nine_bit R hr hc hk, beq_zero_testBit, beq_zero_testBit]
  · rw [decide_eq_false hc, Bool.false_and]
    exact fiRow_out _ (by rw [testBit_mask]; exact decide_eq_false hc) _
/-! ### thinned -/
theorem foL_bits {rows : List Nat} {m c : Nat} (hm : m.testBit c = true) (hl : rows.length = 8) : Sh56.many ((foL rows m).map fun n => n.testBit c) = changes (rows.map fun n => n.testBit c) := by
  unfold foL changes
  rw [hl, List.map_map, many_map]
  refine congrArg List.length (filter_congr' fun i hi => ?_)
  have hi := List.mem_range.mp hi
  show ((rows.getD i 0 ^^^ m) &&& (rows.drop 1 ++ rows.take 1).getD i 0).testBit c = _
  rw [Nat.testBit_and, Nat.testBit_xor, hm, Bool.xor_true, getD_mapB (d := 0) (by rw [hl]; exact hi), getD_mapB (d := 0) (by rw [hl]; exact Nat.mod_lt _ (by decide))]
  have e : (rows.drop 1 ++ rows.take 1).getD i 0 = rows.getD ((i + 1) % 8) 0 := by
    by_cases h7 : i < 7
    · rw [List.getD_eq_getElem?_getD, List.getElem?_append_left (by rw [List.length_drop, hl]; omega), List.getElem?_drop, show (i + 1) % 8 = 1 + i by omega, List.getD_eq_getElem?_getD]
    · rw [List.getD_eq_getElem?_getD, List.getElem?_append_right (by rw [List.length_drop, hl]; omega), List.length_drop, hl, show i - (8 - 1) = 0 by omega, List.getElem?_take_of_lt (by decide), show (i + 1) % 8 = 0 by omega, List.getD_eq_getElem?_getD]
  rw [e]
theorem hwN_bit {rows ks : List Nat} {m c : Nat} (hm : m.testBit c = true) : (hwN rows ks m).testBit c = !ks.all fun k => (rows.getD k 0).testBit c := by
  unfold hwN
  rw [Nat.testBit_xor, hm, Bool.xor_true]
  congr 1
  have q : ∀ (l : List Nat) (f : Nat), (l.foldl (fun f k => f &&& rows.getD k 0) f).testBit c = (f.testBit c && l.all fun k => (rows.getD k 0).testBit c) := by
    intro l
    induction l with
    | nil => exact fun f => by simp
    | cons k r ih => exact fun f => by rw [List.foldl_cons, ih, Nat.testBit_and, List.all_cons, Bool.and_assoc]
  rw [q, hm, Bool.true_and]
/-- which three of the eight, in the first and in the second half -/
def thr (second : Bool) : List Nat × List Nat := if second = true then ([0, 2, 6], [0, 4, 6]) else ([0, 2, 4], [2, 4, 6])
theorem goN_bit {w h : Nat} {rows : List Nat} {x : Sh56.Page} (R : Rep w h rows x) {r c : Nat} (hr : r < h) (hc : c < w) (second : Bool) : (goN (rows.getD r 0) (atN (eiN w rows) r) (thr second).1 (thr second).2 (mask w)).testBit c = Sh56.goes second (nine w h x.toArray c r) := by
  have hl : (atN (eiN w rows) r).length = 8 := by rw [atN_len, eiN_len]
  have hb := clock_bits R hr hc
  unfold goN Sh56.goes
  simp only [Nat.testBit_and]
  rw [ofN_bit _ (mask_in hc) (by rw [hl]; decide), exN_bit _ (mask_in hc) (by rw [foL_len, hl]; decide), foL_bits (mask_in hc) hl, hwN_bit (mask_in hc), hwN_bit (mask_in hc), hb, R.bit, ← nine_four]
  have g : ∀ k, k < 8 → ((atN (eiN w rows) r).getD k 0).testBit c = (clock (nine w h x.toArray c r)).getD k false := fun k hk => by
    rw [← hb, getD_mapB (d := 0) (by rw [hl]; exact hk)]
  generalize clock (nine w h x.toArray c r) = L at g
  generalize (nine w h x.toArray c r).getD 4 false = d
  have e : (changes L == 1) = decide (changes L = 1) := Bool.beq_eq_decide_eq ..
  rw [e]
  generalize decide (2 ≤ Sh56.many L) = p
  generalize decide (Sh56.many L ≤ 6) = q
  generalize decide (changes L = 1) = s
  cases second with
  | true =>
    show ((((d && (p && q)) && s) && !([0, 2, 6].all fun k => ((atN (eiN w rows) r).getD k 0).testBit c)) && !([0, 4, 6].all fun k => ((atN (eiN w rows) r).getD k 0).testBit c)) = (d && (p && (q && (s && (!(L.getD 0 false && (L.getD 2 false && L.getD 6 false)) && !(L.getD 0 false && (L.getD 4 false && L.getD 6 false)))))))
    simp only [List.all_cons, List.all_nil, Bool.and_true, g 0 (by decide), g 2 (by decide), g 4 (by decide), g 6 (by decide)]
    cases d <;> cases p <;> cases q <;> cases s <;> rfl
  | false =>
    show ((((d && (p && q)) && s) && !([0, 2, 4].all fun k => ((atN (eiN w rows) r).getD k 0).testBit c)) && !([2, 4, 6].all fun k => ((atN (eiN w rows) r).getD k 0).testBit c)) = (d && (p && (q && (s && (!(L.getD 0 false && (L.getD 2 false && L.getD 4 false)) && !(L.getD 2 false && (L.getD 4 false && L.getD 6 false)))))))
    simp only [List.all_cons, List.all_nil, Bool.and_true, g 0 (by decide), g 2 (by decide), g 4 (by decide), g 6 (by decide)]
    cases d <;> cases p <;> cases q <;> cases s <;> rfl
theorem goN_out {row : Nat} {rows a b : List Nat} {m c : Nat} (h : row.testBit c = false) : (goN row rows a b m).testBit c = false := by
  unfold goN
  exact and_out (and_out (and_out (and_out h)))
theorem Rep.ta {w h : Nat} {rows : List Nat} {x : Sh56.Page} (R : Rep w h rows x) (second : Bool) : Rep w h (taN w rows (thr second).1 (thr second).2) (Sh56.halfRound second w h x) := by
  unfold Sh56.halfRound
  refine Rep.each (by rw [taN_len, R.len]) fun r c hr => ?_
  unfold taN
  rw [R.len, getD_map_range hr, Nat.testBit_xor]
  by_cases hc : c < w
  · rw [decide_eq_true hc, Bool.true_and, goN_bit R hr hc, R.bit]
    have e : Sh56.goes second (nine w h x.toArray c r) = (dot w h x.toArray c r && Sh56.goes second (nine w h x.toArray c r)) := by
      rw [← nine_four]
      unfold Sh56.goes
      cases (nine w h x.toArray c r).getD 4 false <;> rfl
    rw [e]
    cases dot w h x.toArray c r with
    | true => simp
    | false => rfl
  · rw [decide_eq_false hc, Bool.false_and, goN_out (R.out (by omega)), R.out (by omega)]
    rfl
theorem Rep.ro {w h : Nat} {rows : List Nat} {x : Sh56.Page} (R : Rep w h rows x) : Rep w h (roN w rows) (Sh56.round w h x) := (R.ta false).ta true
/-! ### fewer dots each time -/
theorem pc_sub {w a b : Nat} (ha : a < 2 ^ w) (hb : b < 2 ^ w) (h : ∀ c, a.testBit c = true → b.testBit c = true) : pc a ≤ pc b ∧ (pc a = pc b → a = b) := by
  rw [pc_count w a ha, pc_count w b hb]
  have e : (List.range w).filter (fun c => a.testBit c) = ((List.range w).filter fun c => b.testBit c).filter fun c => a.testBit c := by
    rw [List.filter_filter]
    refine filter_congr' fun c _ => ?_
    have := h c
    cases e1 : a.testBit c with
    | false => rfl
    | true =>
      rw [this e1]
      rfl
  have s : List.Sublist ((List.range w).filter fun c => a.testBit c) ((List.range w).filter fun c => b.testBit c) := by
    rw [e]
    exact List.filter_sublist
  refine ⟨s.length_le, fun hl => ?_⟩
  have eq := s.eq_of_length hl
  refine Nat.eq_of_testBit_eq fun c => ?_
  by_cases hc : c < w
  · have m : c ∈ (List.range w).filter (fun c => a.testBit c) ↔ c ∈ (List.range w).filter (fun c => b.testBit c) := by rw [eq]
    rw [List.mem_filter, List.mem_filter] at m
    have hr := List.mem_range.mpr hc
    refine bool_iff ?_
    exact ⟨fun q => (m.mp ⟨hr, q⟩).2, fun q => (m.mpr ⟨hr, q⟩).2⟩
  · rw [testBit_big ha (by omega), testBit_big hb (by omega)]
theorem sum_sub : ∀ (l m : List Nat), l.length = m.length → (∀ i, i < l.length → pc (l.getD i 0) ≤ pc (m.getD i 0) ∧ (pc (l.getD i 0) = pc (m.getD i 0) → l.getD i 0 = m.getD i 0)) → allN l ≤ allN m ∧ (allN l = allN m → l = m)
  | [], [], _, _ => ⟨Nat.le_refl _, fun _ => rfl⟩
  | a :: l, b :: m, hl, h => by
    obtain ⟨h1, h2⟩ := sum_sub l m (Nat.succ.inj hl) fun i hi => h (i + 1) (Nat.succ_lt_succ hi)
    obtain ⟨h3, h4⟩ := h 0 (Nat.succ_pos _)
    have h3 : pc a ≤ pc b := h3
    have h4 : pc a = pc b → a = b := h4
    have ea : allN (a :: l) = pc a + allN l := by
      unfold allN
      rw [List.map_cons, List.sum_cons]
    have eb : allN (b :: m) = pc b + allN m := by
      unfold allN
      rw [List.map_cons, List.sum_cons]
    rw [ea, eb]
    exact ⟨by omega, fun e => by rw [h4 (by omega), h2 (by omega)]⟩
  | [], _ :: _, hl, _ => by cases hl
  | _ :: _, [], hl, _ => by cases hl
theorem ro_sub {w h : Nat} {rows : List Nat} {x : Sh56.Page} (R : Rep w h rows x) : allN (roN w rows) ≤ allN rows ∧ (allN (roN w rows) = allN rows → roN w rows = rows) := by
  have R1 := R.ta false
  have R2 := R1.ta true
  refine sum_sub _ _ (by rw [roN_len]) fun r hr => ?_
  rw [roN_len, R.len] at hr
  refine pc_sub (w := w) (R2.lt r) (R.lt r) fun c hb => ?_
  have hb : ((roN w rows).getD r 0).testBit c = true := hb
  have q := R.ro.bit r c
  rw [hb] at q
  unfold Sh56.round at q
  have q1 : dot w h (Sh56.halfRound false w h x).toArray c r = true := by
    have e : Sh56.halfRound true w h (Sh56.halfRound false w h x) = Sh56.each w h fun c r => dot w h (Sh56.halfRound false w h x).toArray c r && !goes true (nine w h (Sh56.halfRound false w h x).toArray c r) := rfl
    rw [e, dot_each] at q
    have q := q.symm
    rw [Bool.and_eq_true, Bool.and_eq_true, Bool.and_eq_true] at q
    exact q.2.2.1
  have e : Sh56.halfRound false w h x = Sh56.each w h fun c r => dot w h x.toArray c r && !goes false (nine w h x.toArray c r) := rfl
  rw [e, dot_each, Bool.and_eq_true, Bool.and_eq_true, Bool.and_eq_true] at q1
  rw [R.bit]
  exact q1.2.2.1
def IsEach (w h : Nat) (x : Sh56.Page) : Prop := ∃ f, x = Sh56.each w h f
theorem each_ext {w h : Nat} {f g : Nat → Nat → Bool} (e : ∀ c r, c < w → r < h → f c r = g c r) : Sh56.each w h f = Sh56.each w h g := by
  unfold Sh56.each
  exact flat_congr fun r hr => List.map_congr_left fun c hc => e c r (List.mem_range.mp hc) (List.mem_range.mp hr)
theorem rep_same {w h : Nat} {rows : List Nat} {x y : Sh56.Page} (R : Rep w h rows x) (S : Rep w h rows y) (hx : IsEach w h x) (hy : IsEach w h y) : x = y := by
  obtain ⟨f, rfl⟩ := hx
  obtain ⟨g, rfl⟩ := hy
  refine each_ext fun c r hc hr => ?_
  have := (R.bit r c).symm.trans (S.bit r c)
  rw [dot_each, dot_each, decide_eq_true hc, decide_eq_true hr, Bool.true_and, Bool.true_and, Bool.true_and, Bool.true_and] at this
  exact this
theorem rep_rows {w h : Nat} {a b : List Nat} {x : Sh56.Page} (R : Rep w h a x) (S : Rep w h b x) : a = b := by
  rw [← rows_range a, ← rows_range b, R.len, S.len]
  exact List.map_congr_left fun r _ => Nat.eq_of_testBit_eq fun c => (R.bit r c).trans (S.bit r c).symm
theorem thin_rep {w h : Nat} : ∀ (f : Nat) {rows : List Nat} {x : Sh56.Page}, Rep w h rows x → IsEach w h x → allN rows < f → Rep w h (thiN w (allN rows) rows).1 (Sh56.thinned w h f x).1 ∧ (Sh56.thinned w h f x).2 = (thiN w (allN rows) rows).2
  | 0, _, _, _, _, hf => absurd hf (Nat.not_lt_zero _)
  | f + 1, rows, x, R, E, hf => by
    have S := R.ro
    have hs := ro_sub R
    by_cases c : allN (roN w rows) < allN rows
    · have ne : Sh56.round w h x ≠ x := fun z => by
        rw [z] at S
        rw [rep_rows S R] at c
        omega
      have ih := thin_rep f S ⟨_, rfl⟩ (by omega)
      rw [thiN_step c rfl]
      have e : Sh56.thinned w h (f + 1) x = ((Sh56.thinned w h f (Sh56.round w h x)).1, (Sh56.thinned w h f (Sh56.round w h x)).2 + 1) := by
        conv => lhs; unfold Sh56.thinned
        show (if Sh56.round w h x = x then (x, 0) else _) = _
        rw [if_neg ne]
      rw [e]
      exact ⟨ih.1, by rw [ih.2]⟩
    · have er : roN w rows = rows := hs.2 (by omega)
      have eq : Sh56.round w h x = x := by
        rw [er] at S
        exact rep_same S R ⟨_, rfl⟩ E
      rw [thiN_stop c]
      have e : Sh56.thinned w h (f + 1) x = (x, 0) := by
        conv => lhs; unfold Sh56.thinned
        show (if Sh56.round w h x = x then (x, 0) else _) = _
        rw [if_pos eq]
      rw [e]
      exact ⟨R, rfl⟩
theorem allN_le {w : Nat} : ∀ {rows : List Nat}, (∀ n ∈ rows, n < 2 ^ w) → allN rows ≤ w * rows.length
  | [], _ => Nat.zero_le _
  | a :: l, h => by
    have ih := allN_le fun n hn => h n (List.mem_cons_of_mem _ hn)
    have ha : pc a ≤ w := by
      rw [pc_count w a (h a List.mem_cons_self)]
      have := List.length_filter_le (fun c => a.testBit c) (List.range w)
      rw [List.length_range] at this
      exact this
    have e : allN (a :: l) = pc a + allN l := by
      unfold allN
      rw [List.map_cons, List.sum_cons]
    rw [e, List.length_cons, Nat.mul_succ]
    omega
theorem thin_told {w h : Nat} {xs : List Nat} (hx : ∀ y ∈ xs, y < 2 ^ 32) : Sh56Neutral.told (Sh56.answer (if Sh56.sized w h = true then .thin w h xs else .bad)) = thin_m w h xs := by
  unfold thin_m
  rw [bad_is]
  cases bad w h with
  | true => rfl
  | false =>
    rw [Bool.not_false, if_pos rfl, if_neg Bool.false_ne_true]
    have R := Rep.page (w := w) (h := h) hx
    have E : IsEach w h (Sh56.page w h xs) := ⟨_, rfl⟩
    have hl := allN_le fun n hn => R.mem_lt hn
    rw [R.len] at hl
    have T := thin_rep (w * h + 1) R E (by omega)
    show (((Sh56.thinned w h (w * h + 1) (Sh56.page w h xs)).2 : Nat) : Int) :: Sh56Neutral.ints (Sh56.words w h (Sh56.thinned w h (w * h + 1) (Sh56.page w h xs)).1) = _
    rw [T.2, T.1.words]
    rfl
theorem fit_is {a b w h : Nat} : (Sh56.sized w h && (decide (a ≤ 511) && decide (b ≤ 511))) = !fit_bad a b w h := by
  unfold fit_bad
  rw [bad_is, show decide (a ≤ 511) = !decide (511 < a) by rw [← decide_not]; exact decide_eq_decide.mpr (by omega), show decide (b ≤ 511) = !decide (511 < b) by rw [← decide_not]; exact decide_eq_decide.mpr (by omega)]
  cases bad w h <;> cases decide (511 < a) <;> cases decide (511 < b) <;> rfl
theorem fit_bad_ok {a b w h : Nat} (hb : fit_bad a b w h = false) : (Sh56.sized w h && (decide (a ≤ 511) && decide (b ≤ 511))) = true := by rw [fit_is, hb]; rfl
theorem keep_is {k w h : Nat} : (Sh56.sized w h && decide (k ≤ 9)) = !keep_bad k w h := by
  unfold keep_bad
  rw [bad_is, show decide (k ≤ 9) = !decide (9 < k) by rw [← decide_not]; exact decide_eq_decide.mpr (by omega)]
  cases bad w h <;> cases decide (9 < k) <;> rfl
theorem keep_bad_ok {k w h : Nat} (hb : keep_bad k w h = false) : (Sh56.sized w h && decide (k ≤ 9)) = true := by rw [keep_is, hb]; rfl
end Dp

namespace Dp
open Sh56
/-! ### three pages by a table -/
theorem three_is {t w h : Nat} : (decide (t ≤ 255) && Sh56.sized w h) = !three_bad t w h := by
  unfold three_bad
  rw [bad_is, show decide (t ≤ 255) = !decide (255 < t) by rw [← decide_not]; exact decide_eq_decide.mpr (by omega)]
  cases bad w h <;> cases decide (255 < t) <;> rfl
theorem three_bad_ok {t w h : Nat} (hb : three_bad t w h = false) : (decide (t ≤ 255) && Sh56.sized w h) = true := by rw [three_is, hb]; rfl
theorem three_no {t w h : Nat} (hb : three_bad t w h = false) : t ≤ 255 ∧ (1 ≤ w ∧ w ≤ 256) ∧ 1 ≤ h ∧ h ≤ 256 := by
  unfold three_bad at hb
  rw [Bool.or_eq_false_iff, decide_eq_false_iff_not] at hb
  exact ⟨by omega, bad_no hb.2⟩
theorem threeN_len (t w h : Nat) (a b c : List Nat) : (threeN t w h a b c).length = h := by
  unfold threeN
  rw [List.length_map, List.length_range]
theorem Rep.th {t w h : Nat} {xs ys ws : List Nat} (hx : ∀ y ∈ xs, y < 2 ^ 32) (hy : ∀ y ∈ ys, y < 2 ^ 32) (hz : ∀ y ∈ ws, y < 2 ^ 32) :
    Rep w h (threeN t w h (pageOf w h xs) (pageOf w h ys) (pageOf w h ws)) (Sh56.three t (Sh56.page w h xs) (Sh56.page w h ys) (Sh56.page w h ws)) := by
  have R1 := Rep.page (w := w) (h := h) hx
  have R2 := Rep.page (w := w) (h := h) hy
  have R3 := Rep.page (w := w) (h := h) hz
  rw [pageF] at R1 R2 R3 ⊢
  rw [pageF w h ys, pageF w h ws]
  rw [three_each _ _ _ _ (fun c r hc hr => by
    have e : ∀ f : Nat → Nat → Bool, Sh56.each w h f = (List.range h).flatMap fun r => (List.range w).map fun c => f c r := fun _ => rfl
    rw [List.getD_eq_getElem?_getD, e, flat_get hc hr, Option.getD_some])]
  refine Rep.each (threeN_len ..) fun r c hr => ?_
  unfold threeN
  rw [getD_map_range hr]
  by_cases hc : c < w
  · rw [btab_in (by rw [testBit_mask]; exact decide_eq_true hc), R1.bit, R2.bit, R3.bit, dot_each, dot_each, dot_each, decide_eq_true hc, decide_eq_true hr]
    rfl
  · have hw : w ≤ c := by omega
    rw [btab_out (by rw [testBit_mask]; exact decide_eq_false hc) (R1.out hw) (R2.out hw) (R3.out hw), decide_eq_false hc]
    rfl
end Dp

namespace Dp
open Sh56
theorem law_do_turn {q : Int} {w : Int} {h : Int} {x : List Int} (hq : PySh56.do_turn_asked q w h x = true) : (turn_bad (q.toNat) (w.toNat) (h.toNat) = false → (Sh56Neutral.nats x).length = h.toNat * many w.toNat) ∧ PySh56.do_turn q w h x = turn_m (q.toNat) (w.toNat) (h.toNat) (Sh56Neutral.nats x) ∧ 0 ≤ q ∧ 0 ≤ w ∧ 0 ≤ h ∧ x = zs (Sh56Neutral.nats x) := by
  have qq : (Sh56Neutral.natural q 32 && (Sh56Neutral.natural w 32 && (Sh56Neutral.natural h 32 && (x.all (fun (z : Int) => Sh56Neutral.natural z 32) && (if (Sh56.sized (w.toNat) (h.toNat) && decide ((q.toNat) ≤ 3)) = true then x.length == ((h.toNat) * (((w.toNat) + 31) / 32)) else (x.isEmpty) || (x.length == ((h.toNat) * (((w.toNat) + 31) / 32)))))))) = true := (Bool.and_eq_true_iff.mp hq).1
  obtain ⟨n_q, qq⟩ := Bool.and_eq_true_iff.mp qq
  obtain ⟨n_w, qq⟩ := Bool.and_eq_true_iff.mp qq
  obtain ⟨n_h, qq⟩ := Bool.and_eq_true_iff.mp qq
  obtain ⟨m_x, qq⟩ := Bool.and_eq_true_iff.mp qq
  obtain ⟨z_x, b_x⟩ := nats_all m_x
  have hl : turn_bad (q.toNat) (w.toNat) (h.toNat) = false → (Sh56Neutral.nats x).length = h.toNat * many w.toNat := fun hb => len_if qq (turn_bad_ok hb)
  refine ⟨hl, ?_, (nat32 n_q).1, (nat32 n_w).1, (nat32 n_h).1, z_x⟩
  have e : PySh56.do_turn q w h x = Sh56Neutral.told (Sh56.answer (if (Sh56.sized (w.toNat) (h.toNat) && decide ((q.toNat) ≤ 3)) = true then .turn (q.toNat) (w.toNat) (h.toNat) (Sh56Neutral.nats x) else .bad)) := rfl
  rw [e]
  exact turn_told b_x
theorem law_do_counts {w : Int} {h : Int} {x : List Int} (hq : PySh56.do_counts_asked w h x = true) : (bad (w.toNat) (h.toNat) = false → (Sh56Neutral.nats x).length = h.toNat * many w.toNat) ∧ PySh56.do_counts w h x = counts_m (w.toNat) (h.toNat) (Sh56Neutral.nats x) ∧ 0 ≤ w ∧ 0 ≤ h ∧ x = zs (Sh56Neutral.nats x) := by
  have qq : (Sh56Neutral.natural w 32 && (Sh56Neutral.natural h 32 && (x.all (fun (z : Int) => Sh56Neutral.natural z 32) && (if (Sh56.sized (w.toNat) (h.toNat)) = true then x.length == ((h.toNat) * (((w.toNat) + 31) / 32)) else (x.isEmpty) || (x.length == ((h.toNat) * (((w.toNat) + 31) / 32))))))) = true := (Bool.and_eq_true_iff.mp hq).1
  obtain ⟨n_w, qq⟩ := Bool.and_eq_true_iff.mp qq
  obtain ⟨n_h, qq⟩ := Bool.and_eq_true_iff.mp qq
  obtain ⟨m_x, qq⟩ := Bool.and_eq_true_iff.mp qq
  obtain ⟨z_x, b_x⟩ := nats_all m_x
  have hl : bad (w.toNat) (h.toNat) = false → (Sh56Neutral.nats x).length = h.toNat * many w.toNat := fun hb => len_if qq (bad_ok hb)
  refine ⟨hl, ?_, (nat32 n_w).1, (nat32 n_h).1, z_x⟩
  have e : PySh56.do_counts w h x = Sh56Neutral.told (Sh56.answer (if (Sh56.sized (w.toNat) (h.toNat)) = true then .counts (w.toNat) (h.toNat) (Sh56Neutral.nats x) else .bad)) := rfl
  rw [e]
  exact counts_told b_x
theorem law_do_apart {w : Int} {h : Int} {x : List Int} {y : List Int} (hq : PySh56.do_apart_asked w h x y = true) : (bad (w.toNat) (h.toNat) = false → (Sh56Neutral.nats x).length = h.toNat * many w.toNat ∧ (Sh56Neutral.nats y).length = h.toNat * many w.toNat) ∧ PySh56.do_apart w h x y = apart_m (w.toNat) (h.toNat) (Sh56Neutral.nats x) (Sh56Neutral.nats y) ∧ 0 ≤ w ∧ 0 ≤ h ∧ x = zs (Sh56Neutral.nats x) ∧ y = zs (Sh56Neutral.nats y) := by
  have qq : (Sh56Neutral.natural w 32 && (Sh56Neutral.natural h 32 && (x.all (fun (z : Int) => Sh56Neutral.natural z 32) && (y.all (fun (z : Int) => Sh56Neutral.natural z 32) && (if (Sh56.sized (w.toNat) (h.toNat)) = true then x.length == ((h.toNat) * (((w.toNat) + 31) / 32)) && y.length == ((h.toNat) * (((w.toNat) + 31) / 32)) else (x.isEmpty && y.isEmpty) || (x.length == ((h.toNat) * (((w.toNat) + 31) / 32)) && y.length == ((h.toNat) * (((w.toNat) + 31) / 32)))))))) = true := (Bool.and_eq_true_iff.mp hq).1
  obtain ⟨n_w, qq⟩ := Bool.and_eq_true_iff.mp qq
  obtain ⟨n_h, qq⟩ := Bool.and_eq_true_iff.mp qq
  obtain ⟨m_x, qq⟩ := Bool.and_eq_true_iff.mp qq
  obtain ⟨z_x, b_x⟩ := nats_all m_x
  obtain ⟨m_y, qq⟩ := Bool.and_eq_true_iff.mp qq
  obtain ⟨z_y, b_y⟩ := nats_all m_y
  have hl : bad (w.toNat) (h.toNat) = false → (Sh56Neutral.nats x).length = h.toNat * many w.toNat ∧ (Sh56Neutral.nats y).length = h.toNat * many w.toNat := fun hb => len_if2 qq (bad_ok hb)
  refine ⟨hl, ?_, (nat32 n_w).1, (nat32 n_h).1, z_x, z_y⟩
  have e : PySh56.do_apart w h x y = Sh56Neutral.told (Sh56.answer (if (Sh56.sized (w.toNat) (h.toNat)) = true then .apart (w.toNat) (h.toNat) (Sh56Neutral.nats x) (Sh56Neutral.nats y) else .bad)) := rfl
  rw [e]
  exact apart_told b_x b_y
theorem law_do_runs {r : Int} {w : Int} {h : Int} {x : List Int} (hq : PySh56.do_runs_asked r w h x = true) : (runs_bad (r.toNat) (w.toNat) (h.toNat) = false → (Sh56Neutral.nats x).length = h.toNat * many w.toNat) ∧ PySh56.do_runs r w h x = runs_m (r.toNat) (w.toNat) (h.toNat) (Sh56Neutral.nats x) ∧ 0 ≤ r ∧ 0 ≤ w ∧ 0 ≤ h ∧ x = zs (Sh56Neutral.nats x) := by
  have qq : (Sh56Neutral.natural r 32 && (Sh56Neutral.natural w 32 && (Sh56Neutral.natural h 32 && (x.all (fun (z : Int) => Sh56Neutral.natural z 32) && (if (Sh56.sized (w.toNat) (h.toNat) && decide ((r.toNat) < (h.toNat))) = true then x.length == ((h.toNat) * (((w.toNat) + 31) / 32)) else (x.isEmpty) || (x.length == ((h.toNat) * (((w.toNat) + 31) / 32)))))))) = true := (Bool.and_eq_true_iff.mp hq).1
  obtain ⟨n_r, qq⟩ := Bool.and_eq_true_iff.mp qq
  obtain ⟨n_w, qq⟩ := Bool.and_eq_true_iff.mp qq
  obtain ⟨n_h, qq⟩ := Bool.and_eq_true_iff.mp qq
  obtain ⟨m_x, qq⟩ := Bool.and_eq_true_iff.mp qq
  obtain ⟨z_x, b_x⟩ := nats_all m_x
  have hl : runs_bad (r.toNat) (w.toNat) (h.toNat) = false → (Sh56Neutral.nats x).length = h.toNat * many w.toNat := fun hb => len_if qq (runs_bad_ok hb)
  refine ⟨hl, ?_, (nat32 n_r).1, (nat32 n_w).1, (nat32 n_h).1, z_x⟩
  have e : PySh56.do_runs r w h x = Sh56Neutral.told (Sh56.answer (if (Sh56.sized (w.toNat) (h.toNat) && decide ((r.toNat) < (h.toNat))) = true then .runs (r.toNat) (w.toNat) (h.toNat) (Sh56Neutral.nats x) else .bad)) := rfl
  rw [e]
  exact runs_told b_x
theorem law_do_box {w : Int} {h : Int} {x : List Int} (hq : PySh56.do_box_asked w h x = true) : (bad (w.toNat) (h.toNat) = false → (Sh56Neutral.nats x).length = h.toNat * many w.toNat) ∧ PySh56.do_box w h x = box_m (w.toNat) (h.toNat) (Sh56Neutral.nats x) ∧ 0 ≤ w ∧ 0 ≤ h ∧ x = zs (Sh56Neutral.nats x) := by
  have qq : (Sh56Neutral.natural w 32 && (Sh56Neutral.natural h 32 && (x.all (fun (z : Int) => Sh56Neutral.natural z 32) && (if (Sh56.sized (w.toNat) (h.toNat)) = true then x.length == ((h.toNat) * (((w.toNat) + 31) / 32)) else (x.isEmpty) || (x.length == ((h.toNat) * (((w.toNat) + 31) / 32))))))) = true := (Bool.and_eq_true_iff.mp hq).1
  obtain ⟨n_w, qq⟩ := Bool.and_eq_true_iff.mp qq
  obtain ⟨n_h, qq⟩ := Bool.and_eq_true_iff.mp qq
  obtain ⟨m_x, qq⟩ := Bool.and_eq_true_iff.mp qq
  obtain ⟨z_x, b_x⟩ := nats_all m_x
  have hl : bad (w.toNat) (h.toNat) = false → (Sh56Neutral.nats x).length = h.toNat * many w.toNat := fun hb => len_if qq (bad_ok hb)
  refine ⟨hl, ?_, (nat32 n_w).1, (nat32 n_h).1, z_x⟩
  have e : PySh56.do_box w h x = Sh56Neutral.told (Sh56.answer (if (Sh56.sized (w.toNat) (h.toNat)) = true then .box (w.toNat) (h.toNat) (Sh56Neutral.nats x) else .bad)) := rfl
  rw [e]
  exact box_told b_x
theorem law_do_fit {black : Int} {white : Int} {w : Int} {h : Int} {x : List Int} (hq : PySh56.do_fit_asked black white w h x = true) : (fit_bad (black.toNat) (white.toNat) (w.toNat) (h.toNat) = false → (Sh56Neutral.nats x).length = h.toNat * many w.toNat) ∧ PySh56.do_fit black white w h x = fit_m (black.toNat) (white.toNat) (w.toNat) (h.toNat) (Sh56Neutral.nats x) ∧ 0 ≤ black ∧ 0 ≤ white ∧ 0 ≤ w ∧ 0 ≤ h ∧ x = zs (Sh56Neutral.nats x) := by
  have qq : (Sh56Neutral.natural black 32 && (Sh56Neutral.natural white 32 && (Sh56Neutral.natural w 32 && (Sh56Neutral.natural h 32 && (x.all (fun (z : Int) => Sh56Neutral.natural z 32) && (if (Sh56.sized (w.toNat) (h.toNat) && (decide ((black.toNat) ≤ 511) && decide ((white.toNat) ≤ 511))) = true then x.length == ((h.toNat) * (((w.toNat) + 31) / 32)) else (x.isEmpty) || (x.length == ((h.toNat) * (((w.toNat) + 31) / 32))))))))) = true := (Bool.and_eq_true_iff.mp hq).1
  obtain ⟨n_black, qq⟩ := Bool.and_eq_true_iff.mp qq
  obtain ⟨n_white, qq⟩ := Bool.and_eq_true_iff.mp qq
  obtain ⟨n_w, qq⟩ := Bool.and_eq_true_iff.mp qq
  obtain ⟨n_h, qq⟩ := Bool.and_eq_true_iff.mp qq
  obtain ⟨m_x, qq⟩ := Bool.and_eq_true_iff.mp qq
  obtain ⟨z_x, b_x⟩ := nats_all m_x
  have hl : fit_bad (black.toNat) (white.toNat) (w.toNat) (h.toNat) = false → (Sh56Neutral.nats x).length = h.toNat * many w.toNat := fun hb => len_if qq (fit_bad_ok hb)
  refine ⟨hl, ?_, (nat32 n_black).1, (nat32 n_white).1, (nat32 n_w).1, (nat32 n_h).1, z_x⟩
  have e : PySh56.do_fit black white w h x = Sh56Neutral.told (Sh56.answer (if (Sh56.sized (w.toNat) (h.toNat) && (decide ((black.toNat) ≤ 511) && decide ((white.toNat) ≤ 511))) = true then .fit (black.toNat) (white.toNat) (w.toNat) (h.toNat) (Sh56Neutral.nats x) else .bad)) := rfl
  rw [e]
  exact law_words fit_is rfl fun hb => (Rep.page b_x).fi
theorem law_do_keep {k : Int} {w : Int} {h : Int} {x : List Int} (hq : PySh56.do_keep_asked k w h x = true) : (keep_bad (k.toNat) (w.toNat) (h.toNat) = false → (Sh56Neutral.nats x).length = h.toNat * many w.toNat) ∧ PySh56.do_keep k w h x = keep_m (k.toNat) (w.toNat) (h.toNat) (Sh56Neutral.nats x) ∧ 0 ≤ k ∧ 0 ≤ w ∧ 0 ≤ h ∧ x = zs (Sh56Neutral.nats x) := by
  have qq : (Sh56Neutral.natural k 32 && (Sh56Neutral.natural w 32 && (Sh56Neutral.natural h 32 && (x.all (fun (z : Int) => Sh56Neutral.natural z 32) && (if (Sh56.sized (w.toNat) (h.toNat) && decide ((k.toNat) ≤ 9)) = true then x.length == ((h.toNat) * (((w.toNat) + 31) / 32)) else (x.isEmpty) || (x.length == ((h.toNat) * (((w.toNat) + 31) / 32)))))))) = true := (Bool.and_eq_true_iff.mp hq).1
  obtain ⟨n_k, qq⟩ := Bool.and_eq_true_iff.mp qq
  obtain ⟨n_w, qq⟩ := Bool.and_eq_true_iff.mp qq
  obtain ⟨n_h, qq⟩ := Bool.and_eq_true_iff.mp qq
  obtain ⟨m_x, qq⟩ := Bool.and_eq_true_iff.mp qq
  obtain ⟨z_x, b_x⟩ := nats_all m_x
  have hl : keep_bad (k.toNat) (w.toNat) (h.toNat) = false → (Sh56Neutral.nats x).length = h.toNat * many w.toNat := fun hb => len_if qq (keep_bad_ok hb)
  refine ⟨hl, ?_, (nat32 n_k).1, (nat32 n_w).1, (nat32 n_h).1, z_x⟩
  have e : PySh56.do_keep k w h x = Sh56Neutral.told (Sh56.answer (if (Sh56.sized (w.toNat) (h.toNat) && decide ((k.toNat) ≤ 9)) = true then .keep (k.toNat) (w.toNat) (h.toNat) (Sh56Neutral.nats x) else .bad)) := rfl
  rw [e]
  exact law_words keep_is rfl fun hb => (Rep.page b_x).ke
theorem law_do_thin {w : Int} {h : Int} {x : List Int} (hq : PySh56.do_thin_asked w h x = true) : (bad (w.toNat) (h.toNat) = false → (Sh56Neutral.nats x).length = h.toNat * many w.toNat) ∧ PySh56.do_thin w h x = thin_m (w.toNat) (h.toNat) (Sh56Neutral.nats x) ∧ 0 ≤ w ∧ 0 ≤ h ∧ x = zs (Sh56Neutral.nats x) := by
  have qq : (Sh56Neutral.natural w 32 && (Sh56Neutral.natural h 32 && (x.all (fun (z : Int) => Sh56Neutral.natural z 32) && (if (Sh56.sized (w.toNat) (h.toNat)) = true then x.length == ((h.toNat) * (((w.toNat) + 31) / 32)) else (x.isEmpty) || (x.length == ((h.toNat) * (((w.toNat) + 31) / 32))))))) = true := (Bool.and_eq_true_iff.mp hq).1
  obtain ⟨n_w, qq⟩ := Bool.and_eq_true_iff.mp qq
  obtain ⟨n_h, qq⟩ := Bool.and_eq_true_iff.mp qq
  obtain ⟨m_x, qq⟩ := Bool.and_eq_true_iff.mp qq
  obtain ⟨z_x, b_x⟩ := nats_all m_x
  have hl : bad (w.toNat) (h.toNat) = false → (Sh56Neutral.nats x).length = h.toNat * many w.toNat := fun hb => len_if qq (bad_ok hb)
  refine ⟨hl, ?_, (nat32 n_w).1, (nat32 n_h).1, z_x⟩
  have e : PySh56.do_thin w h x = Sh56Neutral.told (Sh56.answer (if (Sh56.sized (w.toNat) (h.toNat)) = true then .thin (w.toNat) (h.toNat) (Sh56Neutral.nats x) else .bad)) := rfl
  rw [e]
  exact thin_told b_x
theorem law_do_three {t : Int} {w : Int} {h : Int} {x : List Int} {y : List Int} {z : List Int} (hq : PySh56.do_three_asked t w h x y z = true) : (three_bad (t.toNat) (w.toNat) (h.toNat) = false → (Sh56Neutral.nats x).length = h.toNat * many w.toNat ∧ (Sh56Neutral.nats y).length = h.toNat * many w.toNat ∧ (Sh56Neutral.nats z).length = h.toNat * many w.toNat) ∧ PySh56.do_three t w h x y z = three_m (t.toNat) (w.toNat) (h.toNat) (Sh56Neutral.nats x) (Sh56Neutral.nats y) (Sh56Neutral.nats z) ∧ 0 ≤ t ∧ 0 ≤ w ∧ 0 ≤ h ∧ x = zs (Sh56Neutral.nats x) ∧ y = zs (Sh56Neutral.nats y) ∧ z = zs (Sh56Neutral.nats z) := by
  have qq : (Sh56Neutral.natural t 32 && (Sh56Neutral.natural w 32 && (Sh56Neutral.natural h 32 && (x.all (fun (z : Int) => Sh56Neutral.natural z 32) && (y.all (fun (z : Int) => Sh56Neutral.natural z 32) && (z.all (fun (z : Int) => Sh56Neutral.natural z 32) && (if (decide ((t.toNat) ≤ 255) && Sh56.sized (w.toNat) (h.toNat)) = true then x.length == ((h.toNat) * (((w.toNat) + 31) / 32)) && y.length == ((h.toNat) * (((w.toNat) + 31) / 32)) && z.length == ((h.toNat) * (((w.toNat) + 31) / 32)) else (x.isEmpty && y.isEmpty && z.isEmpty) || (x.length == ((h.toNat) * (((w.toNat) + 31) / 32)) && y.length == ((h.toNat) * (((w.toNat) + 31) / 32)) && z.length == ((h.toNat) * (((w.toNat) + 31) / 32)))))))))) = true := (Bool.and_eq_true_iff.mp hq).1
  obtain ⟨n_t, qq⟩ := Bool.and_eq_true_iff.mp qq
  obtain ⟨n_w, qq⟩ := Bool.and_eq_true_iff.mp qq
  obtain ⟨n_h, qq⟩ := Bool.and_eq_true_iff.mp qq
  obtain ⟨m_x, qq⟩ := Bool.and_eq_true_iff.mp qq
  obtain ⟨z_x, b_x⟩ := nats_all m_x
  obtain ⟨m_y, qq⟩ := Bool.and_eq_true_iff.mp qq
  obtain ⟨z_y, b_y⟩ := nats_all m_y
  obtain ⟨m_z, qq⟩ := Bool.and_eq_true_iff.mp qq
  obtain ⟨z_z, b_z⟩ := nats_all m_z
  have hl : three_bad (t.toNat) (w.toNat) (h.toNat) = false → (Sh56Neutral.nats x).length = h.toNat * many w.toNat ∧ (Sh56Neutral.nats y).length = h.toNat * many w.toNat ∧ (Sh56Neutral.nats z).length = h.toNat * many w.toNat := fun hb => len_if3 qq (three_bad_ok hb)
  refine ⟨hl, ?_, (nat32 n_t).1, (nat32 n_w).1, (nat32 n_h).1, z_x, z_y, z_z⟩
  have e : PySh56.do_three t w h x y z = Sh56Neutral.told (Sh56.answer (if (decide ((t.toNat) ≤ 255) && Sh56.sized (w.toNat) (h.toNat)) = true then .three (t.toNat) (w.toNat) (h.toNat) (Sh56Neutral.nats x) (Sh56Neutral.nats y) (Sh56Neutral.nats z) else .bad)) := rfl
  rw [e]
  exact law_words three_is rfl fun hb => Rep.th b_x b_y b_z
end Dp

namespace Dp
open PySem PySem.Spec PyProof.Rows L2

/-! ### what may be known of a value: it stays so as the heap grows -/
structure Rl where
  R : V → Hp → Prop
  mono : ∀ {v H H'}, Same H H' → R v H → R v H'
def AllR : List Rl → List V → Hp → Prop
  | [], [], _ => True
  | r :: rs, v :: vs, H => r.R v H ∧ AllR rs vs H
  | _, _, _ => False
theorem AllR.mono {H H' : Hp} (e : Same H H') : ∀ {rs : List Rl} {vs : List V}, AllR rs vs H → AllR rs vs H'
  | [], [], _ => trivial
  | _ :: _, _ :: _, h => ⟨Rl.mono _ e h.1, AllR.mono e h.2⟩
  | [], _ :: _, h => h.elim
  | _ :: _, [], h => h.elim
theorem AllR.length {H : Hp} : ∀ {rs : List Rl} {vs : List V}, AllR rs vs H → vs.length = rs.length
  | [], [], _ => rfl
  | _ :: _, _ :: _, h => congrArg (· + 1) (AllR.length h.2)
  | [], _ :: _, h => h.elim
  | _ :: _, [], h => h.elim
theorem AllR.append {H : Hp} : ∀ {rs ss : List Rl} {vs ws : List V}, AllR rs vs H → AllR ss ws H → AllR (rs ++ ss) (vs ++ ws) H
  | [], _, [], _, _, k => k
  | _ :: _, _, _ :: _, _, h, k => ⟨h.1, AllR.append h.2 k⟩
  | [], _, _ :: _, _, h, _ => h.elim
  | _ :: _, _, [], _, h, _ => h.elim
theorem AllR.get {H : Hp} : ∀ {rs : List Rl} {vs : List V} {i : Nat} {v : V}, AllR rs vs H → vs[i]? = some v → ∃ r, rs[i]? = some r ∧ r.R v H
  | [], [], _, _, _, e => by simp at e
  | r :: _, u :: _, 0, v, h, e => by
    have e' : u = v := Option.some.inj e
    subst e'
    exact ⟨r, rfl, h.1⟩
  | _ :: _, _ :: _, i + 1, v, h, e => AllR.get (i := i) h.2 e
  | [], _ :: _, _, _, h, _ => h.elim
  | _ :: _, [], _, _, h, _ => h.elim
theorem AllR.at {H : Hp} {rs : List Rl} {vs : List V} {i : Nat} {r : Rl} (h : AllR rs vs H) (e : rs[i]? = some r) : ∃ v, vs[i]? = some v ∧ r.R v H := by
  have hi : i < vs.length := by
    rw [h.length]
    exact (List.getElem?_eq_some_iff.mp e).1
  obtain ⟨r', e', hr⟩ := h.get (List.getElem?_eq_getElem hi)
  rw [e] at e'
  cases e'
  exact ⟨_, List.getElem?_eq_getElem hi, hr⟩
theorem AllR.drop {H : Hp} : ∀ {rs : List Rl} {vs : List V} (n : Nat), AllR rs vs H → AllR (rs.drop n) (vs.drop n) H
  | _, _, 0, h => h
  | [], [], n + 1, _ => by
    rw [List.drop_nil, List.drop_nil]
    trivial
  | _ :: _, _ :: _, n + 1, h => AllR.drop n h.2
  | [], _ :: _, _ + 1, h => h.elim
  | _ :: _, [], _ + 1, h => h.elim
theorem AllR.take {H : Hp} : ∀ {rs : List Rl} {vs : List V} (n : Nat), AllR rs vs H → AllR (rs.take n) (vs.take n) H
  | _, _, 0, _ => by
    rw [List.take_zero, List.take_zero]
    trivial
  | [], [], n + 1, _ => trivial
  | _ :: _, _ :: _, n + 1, h => ⟨h.1, AllR.take n h.2⟩
  | [], _ :: _, _ + 1, h => h.elim
  | _ :: _, [], _ + 1, h => h.elim
theorem AllR.reverse {H : Hp} : ∀ {rs : List Rl} {vs : List V}, AllR rs vs H → AllR rs.reverse vs.reverse H
  | [], [], _ => trivial
  | r :: _, v :: _, h => by
    rw [List.reverse_cons, List.reverse_cons]
    exact AllR.append (AllR.reverse h.2) ⟨h.1, trivial⟩
  | [], _ :: _, h => h.elim
  | _ :: _, [], h => h.elim
theorem AllR.repl {H : Hp} {r : Rl} {v : V} (h : r.R v H) : ∀ n : Nat, AllR (List.replicate n r) (List.replicate n v) H
  | 0 => trivial
  | n + 1 => ⟨h, AllR.repl h n⟩

def IsV (v : V) : Rl := ⟨fun u _ => u = v, fun _ h => h⟩
abbrev I (n : Int) : Rl := IsV (.int n)
abbrev N (n : Nat) : Rl := IsV (.int (n : Int))
abbrev Bo (b : Bool) : Rl := IsV (.bl b)
/-- a list, a tuple, its items as told -/
def Lo (rs : List Rl) : Rl := ⟨fun v H => ∃ p vs, v = .ref p ∧ H p = some (.lst vs) ∧ AllR rs vs H, fun e ⟨p, vs, a, b, c⟩ => ⟨p, vs, a, e _ _ b, c.mono e⟩⟩
def To (rs : List Rl) : Rl := ⟨fun v H => ∃ p vs, v = .ref p ∧ H p = some (.tup vs) ∧ AllR rs vs H, fun e ⟨p, vs, a, b, c⟩ => ⟨p, vs, a, e _ _ b, c.mono e⟩⟩
/-- a list that is handed in -/
def Sq (K : PySem.W.Frag) (ns : List Int) : Rl := ⟨fun v H => ∃ p, v = .ref p ∧ SqL K H p (ns.map V.int), fun e ⟨p, a, b⟩ => ⟨p, a, e.seq b⟩⟩
abbrev Ns (ns : List Nat) : Rl := Lo (ns.map N)
theorem all_ns {H : Hp} : ∀ {ns : List Nat} {vs : List V}, AllR (ns.map N) vs H → vs = ns.map fun (n : Nat) => V.int (n : Int)
  | [], [], _ => rfl
  | n :: ns, v :: vs, h => by
    have e : v = .int (n : Int) := h.1
    rw [e, all_ns h.2]
    rfl
  | [], _ :: _, h => h.elim
  | _ :: _, [], h => h.elim
theorem ns_all {H : Hp} : ∀ (ns : List Nat), AllR (ns.map N) (ns.map fun (n : Nat) => V.int (n : Int)) H
  | [] => trivial
  | _ :: ns => ⟨rfl, ns_all ns⟩
theorem all_is {H : Hp} : ∀ {as : List V} {vs : List V}, AllR (as.map IsV) vs H → vs = as
  | [], [], _ => rfl
  | a :: as, v :: vs, h => by
    have e : v = a := h.1
    rw [e, all_is h.2]
  | [], _ :: _, h => h.elim
  | _ :: _, [], h => h.elim
theorem is_all {H : Hp} : ∀ (as : List V), AllR (as.map IsV) as H
  | [] => trivial
  | _ :: as => ⟨rfl, is_all as⟩

/-! ### a run: from what is known, H, over the heap as it is, H1, to what is known then, K2, within the heap then, H2 -/
structure Gr (H H1 K2 H2 : Hp) : Prop where
  ext : Same H1 H2
  kn : Same H K2
  le : Same K2 H2
  new : ∀ b, K2 b ≠ none → H b ≠ none ∨ H1 b = none
theorem Gr.refl {H H1 : Hp} (e : Same H H1) : Gr H H1 H H1 := ⟨Same.refl _, Same.refl _, e, fun _ h => .inl h⟩
theorem Gr.trans {H H1 K2 H2 K3 H3 : Hp} (a : Gr H H1 K2 H2) (b : Gr K2 H2 K3 H3) : Gr H H1 K3 H3 :=
  ⟨a.ext.trans b.ext, a.kn.trans b.kn, b.le, fun x hx => (b.new x hx).elim (a.new x) fun e => .inr (a.ext.free e)⟩
theorem Gr.hid {H H1 K2 H2 : Hp} (g : Gr H H1 K2 H2) {p : Addr} (h : H p = none) (h1 : H1 p ≠ none) : K2 p = none := by
  cases e : K2 p with
  | none => rfl
  | some o => exact (g.new p (by rw [e]; exact Option.some_ne_none o)).elim (fun z => absurd h z) fun z => absurd z h1
theorem same_new {H : Hp} {p : Addr} {o : HO} (h : H p = none) : Same H (upd H p o) := fun b u e => by
  rw [upd_ne (ne_of_none e h)]
  exact e
theorem same_upd2 {H H' : Hp} {p : Addr} {o : HO} (e : Same H H') (h : H p = none) : Same H (upd H' p o) := fun b u hb => by
  rw [upd_ne (ne_of_none hb h)]
  exact e b u hb
theorem same_upd3 {H H' : Hp} {p : Addr} {o : HO} (e : Same H H') : Same (upd H p o) (upd H' p o) := fun b u hb => by
  by_cases hp : b = p
  · subst hp
    rw [upd_same] at hb ⊢
    exact hb
  · rw [upd_ne hp] at hb ⊢
    exact e b u hb
theorem Gr.alloc {H H1 : Hp} {p : Addr} {o : HO} (e : Same H H1) (h : H1 p = none) : Gr H H1 (upd H p o) (upd H1 p o) :=
  ⟨same_new h, same_new (e.free h), same_upd3 e, fun b hb => by
    by_cases hp : b = p
    · subst hp
      exact .inr h
    · rw [upd_ne hp] at hb
      exact .inl hb⟩
/-- both -/
def join (A B : Hp) : Hp := fun b => match A b with
  | some o => some o
  | none => B b
theorem join_l {A B : Hp} : Same A (join A B) := fun b o h => by
  unfold join
  rw [h]
theorem join_r {A B C : Hp} (a : Same A C) (c : Same B C) : Same B (join A B) := fun b o h => by
  unfold join
  cases e : A b with
  | none => exact h
  | some u =>
    have h1 := a b u e
    have h2 := c b o h
    rw [h1] at h2
    exact h2
theorem join_le {A B C : Hp} (a : Same A C) (c : Same B C) : Same (join A B) C := fun b o h => by
  unfold join at h
  cases e : A b with
  | none =>
    rw [e] at h
    exact c b o h
  | some u =>
    rw [e] at h
    cases h
    exact a b _ e

def Does {α : Type} (t : Hp → (α → Hp → Prop) → Prop) (H : Hp) (R : α → Hp → Prop) : Prop :=
  ∀ H1, Same H H1 → ∀ Q : α → Hp → Prop, (∀ a H2 K2, Gr H H1 K2 H2 → R a K2 → Q a H2) → t H1 Q
section
variable {α β : Type} {t : Hp → (α → Hp → Prop) → Prop} {H H1 K : Hp} {R : α → Hp → Prop} {S : β → Hp → Prop}
theorem Does.bind {u : α → Hp → (β → Hp → Prop) → Prop} (h : Does t H R) (k : ∀ a K, Same H K → R a K → Does (u a) K S) : Does (fun H1 Q => t H1 fun a H2 => u a H2 Q) H S :=
  fun H1 e Q q => h H1 e _ fun a H2 K2 g r => k a K2 g.kn r H2 g.le Q fun b H3 K3 g3 s => q b H3 K3 (g.trans g3) s
theorem Does.ret {a : α} (h : R a H) : Does (fun H1 Q => Q a H1) H R := fun H1 e Q q => q a H1 H (Gr.refl e) h
theorem Does.mono (h : Does t H R) (e : Same H K) (m : ∀ a K1 K2, Same K1 K2 → R a K1 → R a K2) : Does t K R := fun H1 e1 Q q =>
  h H1 (e.trans e1) Q fun a H2 K2 g r => q a H2 (join K K2)
    ⟨g.ext, join_l, join_le (e1.trans g.ext) g.le, fun b hb => by
      unfold join at hb
      cases eb : K b with
      | none =>
        rw [eb] at hb
        exact (g.new b hb).elim (fun z => .inl (by
          intro z2
          rw [← eb] at z2
          cases eh : H b with
          | none => exact z eh
          | some o =>
            have := e b o eh
            rw [eb] at this
            cases this)) .inr
      | some o => exact .inl (Option.some_ne_none o)⟩ (m a K2 _ (join_r (e1.trans g.ext) g.le) r)
theorem Does.imp {R' : α → Hp → Prop} (h : Does t H R) (m : ∀ a K, Same H K → R a K → R' a K) : Does t H R' := fun H1 e Q q => h H1 e Q fun a H2 K2 g r => q a H2 K2 g (m a K2 g.kn r)
theorem Does.alloc {o : HO} {R : V → Hp → Prop} (h : ∀ p, H p = none → R (.ref p) (upd H p o)) : Does (fun H1 Q => ∀ p, H1 p = none → Q (.ref p) (upd H1 p o)) H R := fun H1 e Q q p hp =>
  q (.ref p) (upd H1 p o) (upd H p o) (Gr.alloc e hp) (h p (e.free hp))
end

/-! ### expressions -/
abbrev Ev (te : TE) (σ : L2.St) (H : Hp) (r : Rl) : Prop := Does (te σ) H r.R
abbrev EvA (ta : TA) (σ : L2.St) (H : Hp) (rs : List Rl) : Prop := Does (ta σ) H (AllR rs)
abbrev EvT (tt : TT) (σ : L2.St) (H : Hp) (b : Bool) : Prop := Does (tt σ) H (fun c _ => c = b)
abbrev EvO (to : TO) (σ : L2.St) (H : Hp) (o : Option Int) : Prop := Does (to σ) H (fun c _ => c = o)
section
variable {K : PySem.W.Frag} {σ : L2.St} {H H' : Hp} {ta tb tc te : TE} {t u : TT} {x y z v : V} {r s q : Rl} {rs ss : List Rl}
theorem ev_mono (e : Same H H') (h : Ev te σ H r) : Ev te σ H' r := h.mono e fun _ _ _ e h => r.mono e h
theorem ea_mono {ta : TA} (e : Same H H') (h : EvA ta σ H rs) : EvA ta σ H' rs := h.mono e fun _ _ _ e h => h.mono e
theorem et_mono {b : Bool} (e : Same H H') (h : EvT t σ H b) : EvT t σ H' b := h.mono e fun _ _ _ _ h => h
theorem ev_is (h : Ev te σ H r) (e : r = s) : Ev te σ H s := e ▸ h
theorem ev_imp (h : Ev te σ H r) (m : ∀ v K, Same H K → r.R v K → s.R v K) : Ev te σ H s := h.imp m
theorem ev_var {i : Nat} (h : σ[i]? = some (some v)) (hr : r.R v H) : Ev (tVar i) σ H r := fun H1 e Q k => ⟨v, h, k v H1 H (Gr.refl e) hr⟩
theorem ev_c : Ev (tC v) σ H (IsV v) := Does.ret rfl
/-- the value of an expression, then what is done with it -/
theorem ev_op {f : R2} (ha : Ev ta σ H r) (hb : Ev tb σ H s) (hr : ∀ x y K, Same H K → r.R x K → s.R y K → Does (f x y) K q.R) : Ev (tOp f ta tb) σ H q :=
  fun H1 e1 Q k => ha H1 e1 _ fun x H2 K2 g2 hx => ev_mono g2.kn hb H2 g2.le _ fun y H3 K3 g3 hy => hr x y K3 (g2.kn.trans g3.kn) (r.mono g3.kn hx) hy H3 g3.le Q fun z H4 K4 g4 hz => k z H4 K4 ((g2.trans g3).trans g4) hz
theorem ev_i0 {g : Int → Int → V} {i j : Int} (ha : Ev ta σ H (I i)) (hb : Ev tb σ H (I j)) : Ev (tOp (rI0 g) ta tb) σ H (IsV (g i j)) :=
  ev_op ha hb fun x y K _ hx hy H1 e Q k => ⟨i, j, hx, hy, k _ H1 K (Gr.refl e) rfl⟩
theorem ev_iC {C : Int → Int → Prop} {g : Int → Int → V} {i j : Int} (ha : Ev ta σ H (I i)) (hb : Ev tb σ H (I j)) (hc : C i j) : Ev (tOp (rI C g) ta tb) σ H (IsV (g i j)) :=
  ev_op ha hb fun x y K _ hx hy H1 e Q k => ⟨i, j, hx, hy, hc, k _ H1 K (Gr.refl e) rfl⟩
theorem ev_un {f : V → Hp → VK → Prop} (ha : Ev ta σ H r) (hr : ∀ x K, Same H K → r.R x K → Does (f x) K q.R) : Ev (tUn f ta) σ H q :=
  fun H1 e1 Q k => ha H1 e1 _ fun x H2 K2 g2 hx => hr x K2 g2.kn hx H2 g2.le Q fun z H4 K4 g4 hz => k z H4 K4 (g2.trans g4) hz
theorem ev_iU {g : Int → V} {i : Int} (ha : Ev ta σ H (I i)) : Ev (tUn (rU g) ta) σ H (IsV (g i)) := ev_un ha fun x K _ hx H1 e Q k => ⟨i, hx, k _ H1 K (Gr.refl e) rfl⟩
theorem et_test {b : Bool} (h : Ev te σ H (Bo b)) : EvT (tTest te) σ H b := fun H1 e Q k => h H1 e _ fun v H2 K2 g hv => ⟨b, hv, k b H2 K2 g rfl⟩
theorem et_B {b : Bool} (h : Ev te σ H (Bo b)) : EvT (tB te) σ H b := fun H1 e Q k => h H1 e _ fun v H2 K2 g hv => ⟨b, hv, k b H2 K2 g rfl⟩
theorem et_is {a b : Bool} (h : EvT t σ H a) (e : a = b) : EvT t σ H b := e ▸ h
theorem et_not {a : Bool} (h : EvT t σ H a) : EvT (tNot t) σ H (!a) := fun H1 e Q k => h H1 e _ fun c H2 K2 g hc => k (!c) H2 K2 g (by rw [hc])
theorem et_and {a b : Bool} (h : EvT t σ H a) (h2 : a = true → EvT u σ H b) : EvT (tAnd t u) σ H (a && b) := fun H1 e Q k => h H1 e _ fun c H2 K2 g hc => by
  subst hc
  cases c with
  | true =>
    rw [if_pos rfl]
    exact et_mono g.kn (h2 rfl) H2 g.le Q fun c H3 K3 g3 h3 => k c H3 K3 (g.trans g3) h3
  | false =>
    rw [if_neg Bool.false_ne_true]
    exact k false H2 K2 g rfl
theorem et_or {a b : Bool} (h : EvT t σ H a) (h2 : a = false → EvT u σ H b) : EvT (tOr t u) σ H (a || b) := fun H1 e Q k => h H1 e _ fun c H2 K2 g hc => by
  subst hc
  cases c with
  | true =>
    rw [if_pos rfl]
    exact k true H2 K2 g rfl
  | false =>
    rw [if_neg Bool.false_ne_true]
    exact et_mono g.kn (h2 rfl) H2 g.le Q fun c H3 K3 g3 h3 => k c H3 K3 (g.trans g3) h3
theorem ev_andV {a b : Bool} (h : Ev ta σ H (Bo a)) (h2 : a = true → Ev tb σ H (Bo b)) : Ev (tAndV ta tb) σ H (Bo (a && b)) := fun H1 e Q k => h H1 e _ fun c H2 K2 g hc => ⟨a, hc, by
  cases a with
  | true =>
    rw [if_pos rfl]
    exact ev_mono g.kn (h2 rfl) H2 g.le Q fun c H3 K3 g3 h3 => k c H3 K3 (g.trans g3) h3
  | false =>
    rw [if_neg Bool.false_ne_true]
    exact k _ H2 K2 g rfl⟩
theorem ev_if {b : Bool} (h : EvT t σ H b) (h1 : b = true → Ev ta σ H r) (h2 : b = false → Ev tb σ H r) : Ev (tIf t ta tb) σ H r := fun H1 e Q k => h H1 e _ fun c H2 K2 g hc => by
  subst hc
  cases c with
  | true =>
    rw [if_pos rfl]
    exact ev_mono g.kn (h1 rfl) H2 g.le Q fun c H3 K3 g3 h3 => k c H3 K3 (g.trans g3) h3
  | false =>
    rw [if_neg Bool.false_ne_true]
    exact ev_mono g.kn (h2 rfl) H2 g.le Q fun c H3 K3 g3 h3 => k c H3 K3 (g.trans g3) h3
/-- a < b < c of whole numbers -/
theorem ev_chain {p p' : Int → Int → Bool} {i j k : Int} (ha : Ev ta σ H (I i)) (hb : Ev tb σ H (I j)) (hc : Ev tc σ H (I k)) : Ev (tChain (rI0 fun i j => .bl (p i j)) (rI0 fun i j => .bl (p' i j)) ta tb tc) σ H (Bo (p i j && p' j k)) :=
  fun H1 e1 Q q => ha H1 e1 _ fun x H2 K2 g2 hx => ev_mono g2.kn hb H2 g2.le _ fun y H3 K3 g3 hy => ⟨i, j, hx, hy, p i j, rfl, by
    cases hp : p i j with
    | true =>
      rw [if_pos rfl]
      exact ev_mono (g2.kn.trans g3.kn) hc H3 g3.le _ fun z H4 K4 g4 hz => ⟨j, k, hy, hz, q _ H4 K4 ((g2.trans g3).trans g4) (by rw [hp, Bool.true_and]; rfl)⟩
    | false =>
      rw [if_neg Bool.false_ne_true]
      exact q _ H3 K3 (g2.trans g3) (by rw [hp]; rfl)⟩
theorem ea_nil : EvA tNil σ H [] := Does.ret trivial
theorem ea_cons {tr : TA} (h : Ev te σ H r) (hr : EvA tr σ H rs) : EvA (tCons te tr) σ H (r :: rs) :=
  fun H1 e1 Q q => h H1 e1 _ fun x H2 K2 g2 hx => ea_mono g2.kn hr H2 g2.le _ fun xs H3 K3 g3 hxs => q _ H3 K3 (g2.trans g3) ⟨r.mono g3.kn hx, hxs⟩
theorem ev_lst {ta : TA} (h : EvA ta σ H rs) (hl : rs.length ≤ 100000) : Ev (tLst ta) σ H (Lo rs) :=
  fun H1 e1 Q q => h H1 e1 _ fun xs H2 K2 g2 hxs => ⟨by
    rw [hxs.length]
    exact Nat.le_trans hl (by decide), Does.alloc (R := (Lo rs).R) (fun p hp => ⟨p, xs, rfl, upd_same, hxs.mono (same_new hp)⟩) H2 g2.le Q fun z H3 K3 g3 hz => q z H3 K3 (g2.trans g3) hz⟩
theorem ev_tup {ta : TA} (h : EvA ta σ H rs) (hl : rs.length ≤ 100000) : Ev (tTup ta) σ H (To rs) :=
  fun H1 e1 Q q => h H1 e1 _ fun xs H2 K2 g2 hxs => ⟨by
    rw [hxs.length]
    exact Nat.le_trans hl (by decide), Does.alloc (R := (To rs).R) (fun p hp => ⟨p, xs, rfl, upd_same, hxs.mono (same_new hp)⟩) H2 g2.le Q fun z H3 K3 g3 hz => q z H3 K3 (g2.trans g3) hz⟩
theorem eo_none : EvO tNoPart σ H none := Does.ret rfl
theorem eo_some {i : Int} (h : Ev te σ H (I i)) : EvO (tPart te) σ H (some i) := fun H1 e Q k => h H1 e _ fun v H2 K2 g hv => ⟨i, hv, k _ H2 K2 g rfl⟩
theorem eo_mono {to : TO} {o : Option Int} (e : Same H H') (h : EvO to σ H o) : EvO to σ H' o := h.mono e fun _ _ _ _ h => h
/-- a slice -/
theorem all_cut {vs : List V} {lo hi : Option Int} (h : AllR rs vs H) : AllR ((rs.drop (HT.sIx rs.length 0 lo)).take (HT.sIx rs.length rs.length hi - HT.sIx rs.length 0 lo)) (cutV vs lo hi) H := by
  unfold cutV
  rw [h.length]
  exact (h.drop _).take _
theorem ev_sl {tl th : TO} {lo hi : Option Int} (h : Ev te σ H (Lo rs)) (h1 : EvO tl σ H lo) (h2 : EvO th σ H hi) :
    Ev (tSl (rSlL K) te tl th) σ H (Lo ((rs.drop (HT.sIx rs.length 0 lo)).take (HT.sIx rs.length rs.length hi - HT.sIx rs.length 0 lo))) :=
  fun H1 e1 Q q => h H1 e1 _ fun x H2 K2 g2 hx => eo_mono g2.kn h1 H2 g2.le _ fun a H3 K3 g3 ha => eo_mono (g2.kn.trans g3.kn) h2 H3 g3.le _ fun b H4 K4 g4 hb => by
    subst ha hb
    obtain ⟨p, vs, rfl, hp, hvs⟩ := (Lo rs).mono (g3.kn.trans g4.kn) hx
    exact ⟨p, vs, rfl, SqL.of (g4.le _ _ hp), Does.alloc (R := (Lo _).R) (fun l hl => ⟨l, _, rfl, upd_same, (all_cut hvs).mono (same_new hl)⟩) H4 g4.le Q fun z H5 K5 g5 hz => q z H5 K5 (((g2.trans g3).trans g4).trans g5) hz⟩
theorem ev_slQ {tl th : TO} {lo hi : Option Int} {ns : List Int} (h : Ev te σ H (Sq K ns)) (h1 : EvO tl σ H lo) (h2 : EvO th σ H hi) :
    Ev (tSl (rSlL K) te tl th) σ H (Lo (((ns.drop (HT.sIx ns.length 0 lo)).take (HT.sIx ns.length ns.length hi - HT.sIx ns.length 0 lo)).map I)) :=
  fun H1 e1 Q q => h H1 e1 _ fun x H2 K2 g2 hx => eo_mono g2.kn h1 H2 g2.le _ fun a H3 K3 g3 ha => eo_mono (g2.kn.trans g3.kn) h2 H3 g3.le _ fun b H4 K4 g4 hb => by
    subst ha hb
    obtain ⟨p, rfl, hp⟩ := (Sq K ns).mono (g3.kn.trans g4.kn) hx
    refine ⟨p, ns.map V.int, rfl, g4.le.seq hp, ?_⟩
    have e : cutV (ns.map V.int) a b = ((ns.drop (HT.sIx ns.length 0 a)).take (HT.sIx ns.length ns.length b - HT.sIx ns.length 0 a)).map V.int := by
      unfold cutV
      rw [List.length_map, ← List.map_drop, ← List.map_take]
    rw [e]
    refine Does.alloc (R := (Lo _).R) (fun l hl => ⟨l, _, rfl, upd_same, ?_⟩) H4 g4.le Q fun z H5 K5 g5 hz => q z H5 K5 (((g2.trans g3).trans g4).trans g5) hz
    have := is_all (H := upd K4 l (.lst ((List.map V.int ((ns.drop (HT.sIx ns.length 0 a)).take (HT.sIx ns.length ns.length b - HT.sIx ns.length 0 a)))))) (((ns.drop (HT.sIx ns.length 0 a)).take (HT.sIx ns.length ns.length b - HT.sIx ns.length 0 a)).map V.int)
    rw [List.map_map] at this
    exact this
/-- + of two lists -/
theorem ev_cat (ha : Ev ta σ H (Lo rs)) (hb : Ev tb σ H (Lo ss)) (hl : rs.length + ss.length ≤ 1000000) : Ev (tOp rCat ta tb) σ H (Lo (rs ++ ss)) :=
  ev_op ha hb fun x y K _ hx hy => by
    obtain ⟨p, vs, rfl, hp, hvs⟩ := hx
    obtain ⟨p', ws, rfl, hp', hws⟩ := hy
    exact fun H1 e1 Q q => ⟨p, p', vs, ws, rfl, rfl, e1 _ _ hp, e1 _ _ hp', by
      rw [hvs.length, hws.length]
      exact Nat.le_trans hl (by decide), Does.alloc (R := (Lo _).R) (fun l hl => ⟨l, _, rfl, upd_same, (hvs.append hws).mono (same_new hl)⟩) H1 e1 Q q⟩
theorem flat_single {α : Type} (v : α) : ∀ n : Nat, (List.replicate n [v]).flatten = List.replicate n v
  | 0 => rfl
  | n + 1 => by
    rw [List.replicate_succ, List.flatten_cons, flat_single v n]
    rfl
/-- [x] * k -/
theorem ev_rep {k : Nat} (ha : Ev ta σ H (Lo [r])) (hb : Ev tb σ H (N k)) (hk : k ≤ 100000) : Ev (tOp rRep ta tb) σ H (Lo (List.replicate k r)) :=
  ev_op ha hb fun x y K _ hx hy => by
    obtain ⟨p, vs, rfl, hp, hvs⟩ := hx
    have hy : y = .int (k : Int) := hy
    subst hy
    obtain ⟨v, rfl, hv⟩ : ∃ v, vs = [v] ∧ r.R v K := by
      match vs, hvs with
      | [v], h => exact ⟨v, rfl, h.1⟩
      | [], h => exact h.elim
      | _ :: _ :: _, h => exact h.2.elim
    refine fun H1 e1 Q q => ⟨p, (k : Int), [v], rfl, rfl, e1 _ _ hp, by omega, by omega, ?_, ?_⟩
    · rw [Int.toNat_natCast, List.length_singleton, Nat.one_mul]
      exact Nat.le_trans hk (by decide)
    · rw [Int.toNat_natCast, flat_single]
      exact Does.alloc (R := (Lo _).R) (fun l hl => ⟨l, _, rfl, upd_same, AllR.mono (same_new hl) (AllR.repl hv k)⟩) H1 e1 Q q
/-- xs[i] -/
theorem ev_ix {i : Nat} (ha : Ev ta σ H (Lo rs)) (hb : Ev tb σ H (N i)) (hi : rs[i]? = some r) : Ev (tOp (rIxL K) ta tb) σ H r :=
  ev_op ha hb fun x y K _ hx hy => by
    obtain ⟨p, vs, rfl, hp, hvs⟩ := hx
    have hy : y = .int (i : Int) := hy
    subst hy
    obtain ⟨v, hv, hr⟩ := hvs.at hi
    exact fun H1 e1 Q q => ⟨p, vs, (i : Int), v, rfl, rfl, SqL.of (e1 _ _ hp), atI_nat hv, q v H1 K (Gr.refl e1) hr⟩
/-- built-in functions by values -/
theorem ev_cb {f : List V → Hp → VK → Prop} {ta : TA} (h : EvA ta σ H rs) (hr : ∀ vs K, Same H K → AllR rs vs K → Does (f vs) K q.R) : Ev (tCB f ta) σ H q :=
  fun H1 e1 Q k => h H1 e1 _ fun x H2 K2 g2 hx => hr x K2 g2.kn hx H2 g2.le Q fun z H4 K4 g4 hz => k z H4 K4 (g2.trans g4) hz
end
end Dp

namespace Dp
open PySem PySem.Spec PyProof.Rows L2

/-! ### what is walked -/
structure Turns (J : It) (n : Nat) (it : Nat → Rl) (K : Hp) : Prop where
  go : ∀ i H', i < n → Same K H' → J.go i H'
  stop : ∀ H', Same K H' → J.stop n H'
  yld : ∀ i x H' H'' K', i < n → Same K K' → Same K' H' → J.yld i H' x H'' → ∃ K'', Gr K' H' K'' H'' ∧ (it i).R x K''
def Src (wi : TI) (σ : L2.St) (H : Hp) (n : Nat) (it : Nat → Rl) : Prop :=
  ∀ H1, Same H H1 → ∀ R : It → Hp → Prop, (∀ J H2 K2, Gr H H1 K2 H2 → Turns J n it K2 → R J H2) → wi σ H1 R
theorem same_seqT {K : PySem.W.Frag} {H H' : Hp} {a : Addr} {xs : List V} (e : Same H H') (h : SqT K H a xs) : SqT K H' a xs := by
  rcases h with (h | ⟨o, h⟩) | h
  · exact .inl (.inl (e _ _ h))
  · exact .inl (.inr ⟨o, e _ _ h⟩)
  · exact .inr h
section
variable {K : PySem.W.Frag} {σ : L2.St} {H H' : Hp} {ta tb tc te tl : TE} {t u : TT} {r s q : Rl} {rs ss : List Rl} {it : Nat → Rl} {n : Nat}
theorem all_at {rs : List Rl} {vs : List V} {it : Nat → Rl} {i : Nat} {x : V} (h : AllR rs vs H) (hit : ∀ i, i < rs.length → rs[i]? = some (it i)) (e : vs[i]? = some x) : (it i).R x H := by
  obtain ⟨r, hr, hx⟩ := h.get e
  have hi := (List.getElem?_eq_some_iff.mp hr).1
  rw [hit i hi] at hr
  cases hr
  exact hx
theorem src_list (h : Ev tl σ H (Lo rs)) (hit : ∀ i, i < rs.length → rs[i]? = some (it i)) : Src (iList K tl) σ H rs.length it := fun H1 e R q =>
  h H1 e _ fun v H2 K2 g hv => by
    obtain ⟨p, vs, rfl, hp, hvs⟩ := hv
    have hs : ∀ {H'}, Same K2 H' → SqL K H' p vs := fun e => SqL.of (e _ _ hp)
    have hl := hvs.length
    refine ⟨p, rfl, ⟨vs, hs g.le⟩, q _ H2 K2 g ⟨fun i H' hi e => ⟨vs, vs[i], hs e, List.getElem?_eq_getElem (by omega)⟩, fun H' e => ⟨vs, hs e, by omega⟩, fun i x H' H'' K' hi e e' y => ?_⟩⟩
    obtain ⟨rfl, hx⟩ := y
    exact ⟨K', Gr.refl e', (it i).mono e (all_at hvs hit (hx vs (hs (e.trans e'))))⟩
theorem src_listQ {ns : List Int} (h : Ev tl σ H (Sq K ns)) : Src (iList K tl) σ H ns.length (fun i => I (ns.getD i 0)) := fun H1 e R q =>
  h H1 e _ fun v H2 K2 g hv => by
    obtain ⟨p, rfl, hp⟩ := hv
    have hs : ∀ {H'}, Same K2 H' → SqL K H' p (ns.map V.int) := fun e => e.seq hp
    refine ⟨p, rfl, ⟨_, hs g.le⟩, q _ H2 K2 g ⟨fun i H' hi e => ⟨_, .int ns[i], hs e, by rw [List.getElem?_map, List.getElem?_eq_getElem hi]; rfl⟩, fun H' e => ⟨_, hs e, by rw [List.length_map]; exact Nat.le_refl _⟩, fun i x H' H'' K' hi e e' y => ?_⟩⟩
    obtain ⟨rfl, hx⟩ := y
    have := hx _ (hs (e.trans e'))
    rw [List.getElem?_map, List.getElem?_eq_getElem hi] at this
    refine ⟨K', Gr.refl e', ?_⟩
    rw [List.getD_eq_getElem?_getD, List.getElem?_eq_getElem hi]
    exact (Option.some.inj this).symm
theorem src_tup (h : Ev tl σ H (To rs)) (hit : ∀ i, i < rs.length → rs[i]? = some (it i)) : Src (iTup K tl) σ H rs.length it := fun H1 e R q =>
  h H1 e _ fun v H2 K2 g hv => by
    obtain ⟨p, vs, rfl, hp, hvs⟩ := hv
    have hs : ∀ {H'}, Same K2 H' → SqT K H' p vs := fun e => SqT.of (e _ _ hp)
    have hl := hvs.length
    refine ⟨p, rfl, ⟨vs, hs g.le⟩, q _ H2 K2 g ⟨fun i H' hi e => ⟨vs, vs[i], hs e, List.getElem?_eq_getElem (by omega)⟩, fun H' e => ⟨vs, hs e, by omega⟩, fun i x H' H'' K' hi e e' y => ?_⟩⟩
    obtain ⟨rfl, hx⟩ := y
    exact ⟨K', Gr.refl e', (it i).mono e (all_at hvs hit (hx vs (hs (e.trans e'))))⟩
theorem all1 {v : List V} (h : AllR [r] v H) : ∃ x, v = [x] ∧ r.R x H := by
  match v, h with
  | [x], h => exact ⟨x, rfl, h.1⟩
  | [], h => exact h.elim
  | _ :: _ :: _, h => exact h.2.elim
theorem all2 {v : List V} (h : AllR [r, s] v H) : ∃ x y, v = [x, y] ∧ r.R x H ∧ s.R y H := by
  match v, h with
  | [x, y], h => exact ⟨x, y, rfl, h.1, h.2.1⟩
  | [_], h => exact h.2.elim
  | [], h => exact h.elim
  | _ :: _ :: _ :: _, h => exact h.2.2.elim
theorem all3 {v : List V} (h : AllR [r, s, q] v H) : ∃ x y z, v = [x, y, z] ∧ r.R x H ∧ s.R y H ∧ q.R z H := by
  match v, h with
  | [x, y, z], h => exact ⟨x, y, z, rfl, h.1, h.2.1, h.2.2.1⟩
  | [_], h => exact h.2.elim
  | [_, _], h => exact h.2.2.elim
  | [], h => exact h.elim
  | _ :: _ :: _ :: _ :: _, h => exact h.2.2.2.elim
theorem src_rng1 {ta : TA} (h : EvA ta σ H [N n]) (hn : n ≤ 1000000) : Src (iRng1 ta) σ H n (fun i => N i) := fun H1 e R q =>
  h H1 e _ fun v H2 K2 g hv => by
    obtain ⟨x, rfl, hx⟩ := all1 hv
    have hx : x = .int (n : Int) := hx
    subst hx
    refine ⟨(n : Int), rfl, by omega, by omega, q _ H2 K2 g ?_⟩
    rw [Int.toNat_natCast]
    refine ⟨fun i H' hi e => hi, fun H' e => Nat.le_refl _, fun i x H' H'' K' hi e e' y => ?_⟩
    obtain ⟨rfl, rfl⟩ := y
    exact ⟨K', Gr.refl e', congrArg V.int (Int.zero_add _)⟩
theorem src_rng2 {ta : TA} {lo hi : Int} (h : EvA ta σ H [I lo, I hi]) (h1 : -1000000 ≤ lo ∧ lo ≤ 1000000 ∧ -1000000 ≤ hi ∧ hi ≤ 1000000) : Src (iRng2 ta) σ H (hi - lo).toNat (fun i => I (lo + (i : Int))) := fun H1 e R q =>
  h H1 e _ fun v H2 K2 g hv => by
    obtain ⟨x, y, rfl, hx, hy⟩ := all2 hv
    have hx : x = .int lo := hx
    have hy : y = .int hi := hy
    subst hx hy
    refine ⟨lo, hi, rfl, ⟨by omega, by omega, by omega, by omega⟩, q _ H2 K2 g ⟨fun i H' hi e => hi, fun H' e => Nat.le_refl _, fun i x H' H'' K' hi e e' y => ?_⟩⟩
    obtain ⟨rfl, rfl⟩ := y
    exact ⟨K', Gr.refl e', rfl⟩
theorem src_rng3 {ta : TA} {lo hi c : Int} (h : EvA ta σ H [I lo, I hi, I c]) (hg : RgC lo hi c n) : Src (iRng3 ta) σ H n (fun i => I (lo + (i : Int) * c)) := fun H1 e R q =>
  h H1 e _ fun v H2 K2 g hv => by
    obtain ⟨x, y, z, rfl, hx, hy, hz⟩ := all3 hv
    have hx : x = .int lo := hx
    have hy : y = .int hi := hy
    have hz : z = .int c := hz
    subst hx hy hz
    refine ⟨lo, hi, c, n, rfl, hg, q _ H2 K2 g ⟨fun i H' hi e => hi, fun H' e => Nat.le_refl _, fun i x H' H'' K' hi e e' y => ?_⟩⟩
    obtain ⟨rfl, rfl⟩ := y
    exact ⟨K', Gr.refl e', rfl⟩
theorem src_enum {ta : TA} (h : EvA ta σ H [Lo rs]) (hit : ∀ i, i < rs.length → rs[i]? = some (it i)) : Src (iEnum K ta) σ H rs.length (fun i => To [N i, it i]) := fun H1 e R q =>
  h H1 e _ fun v H2 K2 g hv => by
    obtain ⟨x, rfl, hx⟩ := all1 hv
    obtain ⟨p, vs, rfl, hp, hvs⟩ := hx
    have hs : ∀ {H'}, Same K2 H' → SqL K H' p vs := fun e => SqL.of (e _ _ hp)
    have hl := hvs.length
    refine ⟨p, vs, rfl, hs g.le, q _ H2 K2 g ⟨fun i H' hi e => ⟨vs, vs[i], hs e, List.getElem?_eq_getElem (by omega)⟩, fun H' e => ⟨vs, hs e, by omega⟩, fun i x H' H'' K' hi e e' y => ?_⟩⟩
    obtain ⟨T, z, rfl, hT, rfl, hx⟩ := y
    have hz := all_at hvs hit (hx vs (hs (e.trans e')))
    exact ⟨_, Gr.alloc e' hT, T, _, rfl, upd_same, rfl, (it i).mono (e.trans (same_new (e'.free hT))) hz, trivial⟩
theorem src_zip {ta : TA} {it' : Nat → Rl} (h : EvA ta σ H [Lo rs, Lo ss]) (hn : ss.length = rs.length) (hit : ∀ i, i < rs.length → rs[i]? = some (it i)) (hit' : ∀ i, i < ss.length → ss[i]? = some (it' i)) : Src (iZip K ta) σ H rs.length (fun i => To [it i, it' i]) := fun H1 e R q =>
  h H1 e _ fun v H2 K2 g hv => by
    obtain ⟨x, y, rfl, hx, hy⟩ := all2 hv
    obtain ⟨p, vs, rfl, hp, hvs⟩ := hx
    obtain ⟨p', ws, rfl, hp', hws⟩ := hy
    have hs : ∀ {H'}, Same K2 H' → SqL K H' p vs := fun e => SqL.of (e _ _ hp)
    have hs' : ∀ {H'}, Same K2 H' → SqL K H' p' ws := fun e => SqL.of (e _ _ hp')
    have hl := hvs.length
    have hl' := hws.length
    refine ⟨p, p', vs, ws, rfl, hs g.le, hs' g.le, q _ H2 K2 g ⟨fun i H' hi e => ⟨vs, ws, vs[i], ws[i], hs e, hs' e, List.getElem?_eq_getElem (by omega), List.getElem?_eq_getElem (by omega)⟩, fun H' e => ⟨vs, ws, hs e, hs' e, by omega⟩, fun i x H' H'' K' hi e e' y => ?_⟩⟩
    obtain ⟨T, z, z', rfl, hT, rfl, hx, hx'⟩ := y
    have hz := all_at hvs hit (hx vs (hs (e.trans e')))
    have hz' := all_at hws hit' (hx' ws (hs' (e.trans e')))
    have e2 := e.trans (same_new (o := .tup [z, z']) (e'.free hT))
    exact ⟨_, Gr.alloc e' hT, T, _, rfl, upd_same, (it i).mono e2 hz, (it' i).mono e2 hz', trivial⟩
theorem Src.cast {wi : TI} {n m : Nat} {it it' : Nat → Rl} (h : Src wi σ H n it) (e : n = m) (e' : ∀ i, i < n → it i = it' i) : Src wi σ H m it' := by
  subst e
  refine fun H1 e R q => h H1 e R fun J H2 K2 g t => q J H2 K2 g ⟨t.go, t.stop, fun i x H' H'' K' hi e1 e2 y => ?_⟩
  rw [← e' i hi]
  exact t.yld i x H' H'' K' hi e1 e2 y
theorem Src.mono {wi : TI} {n : Nat} {it : Nat → Rl} (h : Src wi σ H n it) (e : Same H H') : Src wi σ H' n it := fun H1 e1 R q => h H1 (e.trans e1) R fun J H2 K2 g t => by
  have g' : Gr H' H1 (join H' K2) H2 := ⟨g.ext, join_l, join_le (e1.trans g.ext) g.le, fun b hb => by
    unfold join at hb
    cases eb : H' b with
    | none =>
      rw [eb] at hb
      refine (g.new b hb).elim (fun z => .inl ?_) .inr
      cases eh : H b with
      | none => exact absurd eh z
      | some o =>
        rw [e b o eh] at eb
        cases eb
    | some o => exact .inl (Option.some_ne_none o)⟩
  have k := join_r (e1.trans g.ext) g.le
  exact q J H2 _ g' ⟨fun i H' hi e => t.go i H' hi (k.trans e), fun H' e => t.stop H' (k.trans e), fun i x H' H'' K' hi e e' y => t.yld i x H' H'' K' hi (k.trans e) e' y⟩
/-! ### comprehensions -/
theorem filt_yes {f : Nat → Bool} {os : Nat → Rl} {i : Nat} (h : f i = true) : (((List.range (i + 1)).filter f).map os) = ((List.range i).filter f).map os ++ [os i] := by
  rw [List.range_succ, List.filter_append, List.map_append, List.filter_cons, if_pos h] <;> rfl
theorem filt_no {f : Nat → Bool} {os : Nat → Rl} {i : Nat} (h : f i = false) : (((List.range (i + 1)).filter f).map os) = ((List.range i).filter f).map os := by
  rw [List.range_succ, List.filter_append, List.map_append, List.filter_cons, if_neg (by rw [h]; decide)]
  show _ ++ [] = _
  rw [List.append_nil]
theorem filt_len (f : Nat → Bool) (os : Nat → Rl) (i : Nat) : (((List.range i).filter f).map os).length ≤ i := by
  rw [List.length_map]
  have h := List.length_filter_le f (List.range i)
  rw [List.length_range] at h
  exact h
theorem ev_lcG {wi : TI} {g : TG} {vs : List Nat} {f : Nat → Bool} {os : Nat → Rl} (T : Nat → L2.St → Hp → Prop) (src : Src wi σ H n it) (hn : n ≤ 1000000)
    (hg : ∀ i x K, i < n → Same H K → (it i).R x K → Does (fun H1 Q => g x (wipe σ vs) H1 Q) K (fun σ2 K2 => wipe σ2 vs = wipe σ vs ∧ T i σ2 K2))
    (ht : ∀ i σ2 K, i < n → Same H K → T i σ2 K → EvT t σ2 K (f i)) (hT : ∀ i σ2 K K', Same K K' → T i σ2 K → T i σ2 K')
    (he : ∀ i σ2 K, i < n → Same H K → T i σ2 K → f i = true → Ev te σ2 K (os i)) : Ev (tLc wi g t te vs) σ H (Lo (((List.range n).filter f).map os)) := fun H1 e Q q =>
  src H1 e _ fun J H2 K2 gr tr D hD => by
    have hK2 : K2 D = none := gr.le.free hD
    refine ⟨fun i m H' => m = n - i ∧ i ≤ n ∧ ∃ Kc acc, Same K2 Kc ∧ Kc D = none ∧ Same Kc H' ∧ H' D = some (.lst acc) ∧ AllR (((List.range i).filter f).map os) acc Kc ∧ (∀ b, Kc b ≠ none → K2 b ≠ none ∨ H2 b = none) ∧ Same H2 H',
      ⟨n, rfl, Nat.zero_le _, K2, [], Same.refl _, hK2, gr.le.trans (same_new hD), upd_same, trivial, fun b hb => .inl hb, same_new hD⟩, ?_⟩
    rintro i m H' ⟨rfl, hi, Kc, acc, k1, k2, k3, k4, k5, k6, k7⟩
    by_cases hlt : i < n
    · refine .inr ⟨tr.go i H' hlt (k1.trans k3), fun H' => i + 1 ≤ n ∧ ∃ Kc acc, Same K2 Kc ∧ Kc D = none ∧ Same Kc H' ∧ H' D = some (.lst acc) ∧ AllR (((List.range (i + 1)).filter f).map os) acc Kc ∧ (∀ b, Kc b ≠ none → K2 b ≠ none ∨ H2 b = none) ∧ Same H2 H', fun H' p => ⟨n - (i + 1), by omega, rfl, p⟩, fun x H'' y => ?_⟩
      obtain ⟨K3, g3, hx⟩ := tr.yld i x H' H'' Kc hlt k1 k3 y
      refine hg i x K3 hlt ((gr.kn.trans k1).trans g3.kn) hx H'' g3.le _ fun σ2 H4 K4 g4 h4 => ⟨h4.1, ?_⟩
      have e4 := ((gr.kn.trans k1).trans g3.kn).trans g4.kn
      refine ht i σ2 K4 hlt e4 h4.2 H4 g4.le _ fun b H5 K5 g5 hb => ?_
      have g35 := (g3.trans g4).trans g5
      subst hb
      have hid : ∀ {Ka Ha : Hp}, Gr Kc H' Ka Ha → Ka D = none := fun g => g.hid k2 (by rw [k4]; exact Option.some_ne_none _)
      cases hf : f i with
      | true =>
        rw [if_pos rfl]
        refine he i σ2 K5 hlt (e4.trans g5.kn) (hT i σ2 _ _ g5.kn h4.2) hf H5 g5.le _ fun z H6 K6 g6 hz => ?_
        have g36 := g35.trans g6
        have hl : acc.length < sizeLine := by
          rw [k5.length]
          exact Nat.lt_of_le_of_lt (Nat.le_trans (filt_len f os i) (Nat.le_trans hi hn)) (by decide)
        refine ⟨acc, g36.ext _ _ k4, hl, hlt, K6, acc ++ [z], k1.trans g36.kn, hid g36, same_upd2 g36.le (hid g36), upd_same, ?_, fun b hb => ?_, same_upd2 (k7.trans g36.ext) hD⟩
        · rw [filt_yes hf]
          exact (k5.mono g36.kn).append ⟨hz, trivial⟩
        · exact (g36.new b hb).elim (k6 b) fun z => .inr (k7.free z)
      | false =>
        rw [if_neg Bool.false_ne_true]
        refine ⟨hlt, K5, acc, k1.trans g35.kn, hid g35, g35.le, g35.ext _ _ k4, ?_, fun b hb => ?_, k7.trans g35.ext⟩
        · rw [filt_no hf]
          exact k5.mono g35.kn
        · exact (g35.new b hb).elim (k6 b) fun z => .inr (k7.free z)
    · have ei : i = n := by omega
      subst ei
      refine .inl ⟨tr.stop H' (k1.trans k3), q (.ref D) H' (upd Kc D (.lst acc)) (gr.trans ⟨k7, k1.trans (same_new k2), fun b o hb => ?_, fun b hb => ?_⟩) ⟨D, acc, rfl, upd_same, k5.mono (same_new k2)⟩⟩
      · by_cases hb' : b = D
        · subst hb'
          rw [upd_same] at hb
          rw [← hb]
          exact k4
        · rw [upd_ne hb'] at hb
          exact k3 b o hb
      · by_cases hb' : b = D
        · subst hb'
          exact .inr hD
        · rw [upd_ne hb'] at hb
          exact k6 b hb
theorem filt_all {os : Nat → Rl} (n : Nat) : ((List.range n).filter fun _ => true).map os = (List.range n).map os := by
  rw [List.filter_eq_self.mpr (fun _ _ => rfl)]
theorem does_name {j : Nat} {x : V} {σ0 : L2.St} {P : L2.St → Hp → Prop} (h : P (σ0.set j (some x)) H) : Does (fun H1 Q => gName j x σ0 H1 Q) H P := fun H1 e Q q => q _ H1 H (Gr.refl e) h
/-- [te for name in ..] -/
theorem ev_lc {wi : TI} {j : Nat} {vs : List Nat} {os : Nat → Rl} (src : Src wi σ H n it) (hn : n ≤ 1000000) (hw : ∀ x, wipe ((wipe σ vs).set j (some x)) vs = wipe σ vs)
    (he : ∀ i x K, i < n → Same H K → (it i).R x K → Ev te ((wipe σ vs).set j (some x)) K (os i)) : Ev (tLc wi (gName j) tYes te vs) σ H (Lo ((List.range n).map os)) := by
  have h := ev_lcG (f := fun _ => true) (t := tYes) (fun i σ2 K => ∃ x, σ2 = (wipe σ vs).set j (some x) ∧ (it i).R x K) src hn (g := gName j) (vs := vs) (te := te) (os := os)
    (fun i x K hi e hx => does_name ⟨hw x, x, rfl, hx⟩) (fun i σ2 K _ _ _ => Does.ret rfl) (fun i σ2 K K' e ⟨x, a, b⟩ => ⟨x, a, (it i).mono e b⟩)
    (fun i σ2 K hi e ⟨x, a, b⟩ _ => by
      subst a
      exact he i x K hi e b)
  rw [filt_all] at h
  exact h
/-- [te for name in .. if t] -/
theorem ev_lcF {wi : TI} {j : Nat} {vs : List Nat} {f : Nat → Bool} {os : Nat → Rl} (src : Src wi σ H n it) (hn : n ≤ 1000000) (hw : ∀ x, wipe ((wipe σ vs).set j (some x)) vs = wipe σ vs)
    (ht : ∀ i x K, i < n → Same H K → (it i).R x K → EvT t ((wipe σ vs).set j (some x)) K (f i))
    (he : ∀ i x K, i < n → Same H K → (it i).R x K → f i = true → Ev te ((wipe σ vs).set j (some x)) K (os i)) : Ev (tLc wi (gName j) t te vs) σ H (Lo (((List.range n).filter f).map os)) :=
  ev_lcG (fun i σ2 K => ∃ x, σ2 = (wipe σ vs).set j (some x) ∧ (it i).R x K) src hn
    (fun i x K hi e hx => does_name ⟨hw x, x, rfl, hx⟩) (fun i σ2 K hi e ⟨x, a, b⟩ => by
      subst a
      exact ht i x K hi e b) (fun i σ2 K K' e ⟨x, a, b⟩ => ⟨x, a, (it i).mono e b⟩)
    (fun i σ2 K hi e ⟨x, a, b⟩ hf => by
      subst a
      exact he i x K hi e b hf)
abbrev gTwo (K : PySem.W.Frag) (j1 j2 : Nat) : TG := gTup K 2 (gCons (gName j1) (gCons (gName j2) gNil))
abbrev gThree (K : PySem.W.Frag) (j1 j2 j3 : Nat) : TG := gTup K 3 (gCons (gName j1) (gCons (gName j2) (gCons (gName j3) gNil)))
theorem does_two {j1 j2 : Nat} {x : V} {σ0 : L2.St} {P : L2.St → Hp → Prop} (hx : (To [r, s]).R x H) (h : ∀ y z, r.R y H → s.R z H → P ((σ0.set j1 (some y)).set j2 (some z)) H) : Does (fun H1 Q => gTwo K j1 j2 x σ0 H1 Q) H P := fun H1 e Q q => by
  obtain ⟨p, vs, rfl, hp, hvs⟩ := hx
  obtain ⟨y, z, rfl, hy, hz⟩ := all2 hvs
  exact ⟨p, _, rfl, SqT.of (e _ _ hp), rfl, y, _, rfl, z, _, rfl, rfl, q _ H1 H (Gr.refl e) (h y z hy hz)⟩
theorem does_three {j1 j2 j3 : Nat} {x : V} {σ0 : L2.St} {P : L2.St → Hp → Prop} (hx : (To [r, s, q]).R x H) (h : ∀ y z w, r.R y H → s.R z H → q.R w H → P (((σ0.set j1 (some y)).set j2 (some z)).set j3 (some w)) H) : Does (fun H1 Q => gThree K j1 j2 j3 x σ0 H1 Q) H P := fun H1 e Q k => by
  obtain ⟨p, vs, rfl, hp, hvs⟩ := hx
  obtain ⟨y, z, w, rfl, hy, hz, hw⟩ := all3 hvs
  exact ⟨p, _, rfl, SqT.of (e _ _ hp), rfl, y, _, rfl, z, _, rfl, w, _, rfl, rfl, k _ H1 H (Gr.refl e) (h y z w hy hz hw)⟩
/-- [te for a, b in ..] -/
theorem ev_lc2 {wi : TI} {j1 j2 : Nat} {vs : List Nat} {os : Nat → Rl} {r1 r2 : Nat → Rl} (src : Src wi σ H n (fun i => To [r1 i, r2 i])) (hn : n ≤ 1000000) (hw : ∀ x y, wipe (((wipe σ vs).set j1 (some x)).set j2 (some y)) vs = wipe σ vs)
    (he : ∀ i x y K, i < n → Same H K → (r1 i).R x K → (r2 i).R y K → Ev te (((wipe σ vs).set j1 (some x)).set j2 (some y)) K (os i)) : Ev (tLc wi (gTwo K j1 j2) tYes te vs) σ H (Lo ((List.range n).map os)) := by
  have h := ev_lcG (f := fun _ => true) (t := tYes) (fun i σ2 K => ∃ x y, σ2 = ((wipe σ vs).set j1 (some x)).set j2 (some y) ∧ (r1 i).R x K ∧ (r2 i).R y K) src hn (g := gTwo K j1 j2) (vs := vs) (te := te) (os := os)
    (fun i x K hi e hx => does_two hx fun y z hy hz => ⟨hw y z, y, z, rfl, hy, hz⟩) (fun i σ2 K _ _ _ => Does.ret rfl) (fun i σ2 K K' e ⟨x, y, a, b, c⟩ => ⟨x, y, a, (r1 i).mono e b, (r2 i).mono e c⟩)
    (fun i σ2 K hi e ⟨x, y, a, b, c⟩ _ => by
      subst a
      exact he i x y K hi e b c)
  rw [filt_all] at h
  exact h
theorem ev_lc3 {wi : TI} {j1 j2 j3 : Nat} {vs : List Nat} {os : Nat → Rl} {r1 r2 r3 : Nat → Rl} (src : Src wi σ H n (fun i => To [r1 i, r2 i, r3 i])) (hn : n ≤ 1000000) (hw : ∀ x y z, wipe ((((wipe σ vs).set j1 (some x)).set j2 (some y)).set j3 (some z)) vs = wipe σ vs)
    (he : ∀ i x y z K, i < n → Same H K → (r1 i).R x K → (r2 i).R y K → (r3 i).R z K → Ev te ((((wipe σ vs).set j1 (some x)).set j2 (some y)).set j3 (some z)) K (os i)) : Ev (tLc wi (gThree K j1 j2 j3) tYes te vs) σ H (Lo ((List.range n).map os)) := by
  have h := ev_lcG (f := fun _ => true) (t := tYes) (fun i σ2 K => ∃ x y z, σ2 = (((wipe σ vs).set j1 (some x)).set j2 (some y)).set j3 (some z) ∧ (r1 i).R x K ∧ (r2 i).R y K ∧ (r3 i).R z K) src hn (g := gThree K j1 j2 j3) (vs := vs) (te := te) (os := os)
    (fun i x K hi e hx => does_three hx fun y z w hy hz hw' => ⟨hw y z w, y, z, w, rfl, hy, hz, hw'⟩) (fun i σ2 K _ _ _ => Does.ret rfl) (fun i σ2 K K' e ⟨x, y, z, a, b, c, d⟩ => ⟨x, y, z, a, (r1 i).mono e b, (r2 i).mono e c, (r3 i).mono e d⟩)
    (fun i σ2 K hi e ⟨x, y, z, a, b, c, d⟩ _ => by
      subst a
      exact he i x y z K hi e b c d)
  rw [filt_all] at h
  exact h
end
end Dp

namespace Dp
open PySem PySem.Spec PyProof.Rows L2
/-! ### bodies and statements -/
/-- a body that returns -/
def Bd (ts : TS) (σ : L2.St) (H : Hp) (r : Rl) : Prop := ∀ (D : Ends) (H1 : Hp), Same H H1 → (∀ v H2 K2, Gr H H1 K2 H2 → r.R v K2 → D.rt v H2) → ts D σ H1
/-- a statement that is gone through -/
def Go (ts : TS) (σ : L2.St) (H : Hp) (P : L2.St → Hp → Prop) : Prop := ∀ (D : Ends) (H1 : Hp), Same H H1 → (∀ σ2 H2 K2, Gr H H1 K2 H2 → P σ2 K2 → D.nx σ2 H2) → ts D σ H1
/-- a run beside a list that nothing else knows -/
structure Gx (p : Addr) (H H1 K2 H2 : Hp) : Prop where
  ext : ∀ b o, b ≠ p → H1 b = some o → H2 b = some o
  kn : Same H K2
  le : Same K2 H2
  new : ∀ b, K2 b ≠ none → H b ≠ none ∨ H1 b = none
/-- a statement that is gone through, and makes the list at p longer -/
def Gl' (ts : TS) (σ : L2.St) (H : Hp) (p : Addr) (rs : List Rl) (P : L2.St → Hp → List Rl → Prop) : Prop := ∀ (D : Ends) (H1 : Hp) acc, Same H H1 → H p = none → H1 p = some (.lst acc) → AllR rs acc H →
  (∀ σ2 H2 K2 rs2 acc2, Gx p H H1 K2 H2 → H2 p = some (.lst acc2) → AllR rs2 acc2 K2 → P σ2 K2 rs2 → D.nx σ2 H2) → ts D σ H1
section
variable {K : PySem.W.Frag} {σ : L2.St} {H H' : Hp} {ta tb tc te tl : TE} {t u : TT} {r s q : Rl} {rs ss : List Rl} {it : Nat → Rl} {n : Nat} {ts tu tw : TS} {P P' : L2.St → Hp → Prop} {L L' : L2.St → Hp → List Rl → Prop} {p : Addr}
theorem Gx.of {H1 K2 H2 : Hp} (g : Gr H H1 K2 H2) : Gx p H H1 K2 H2 := ⟨fun b o _ e => g.ext b o e, g.kn, g.le, g.new⟩
theorem Gx.hid {H1 K2 H2 : Hp} (g : Gx p H H1 K2 H2) (h : H p = none) (h1 : H1 p ≠ none) : K2 p = none := by
  cases e : K2 p with
  | none => rfl
  | some o => exact (g.new p (by rw [e]; exact Option.some_ne_none o)).elim (fun z => absurd h z) fun z => absurd z h1
theorem Gx.trans {H1 K2 H2 K3 H3 : Hp} (a : Gx p H H1 K2 H2) (b : Gx p K2 H2 K3 H3) (hp : H p = none) (h1 : H1 p ≠ none) (h2 : H2 p ≠ none) : Gx p H H1 K3 H3 :=
  ⟨fun x o hx e => b.ext x o hx (a.ext x o hx e), a.kn.trans b.kn, b.le, fun x hx => (b.new x hx).elim (a.new x) fun e => .inr (by
    by_cases hxp : x = p
    · subst hxp
      exact absurd e h2
    · cases e1 : H1 x with
      | none => rfl
      | some o =>
        rw [a.ext x o hxp e1] at e
        cases e)⟩
/-- behind: the list told as a whole -/
theorem Gx.end {H1 K2 H2 : Hp} {acc : List V} (g : Gx p H H1 K2 H2) (hp : H1 p = none ∨ True) (h2 : H2 p = some (.lst acc)) (hk : K2 p = none) : Same K2 (upd K2 p (.lst acc)) ∧ Same (upd K2 p (.lst acc)) H2 :=
  ⟨same_new hk, fun b o hb => by
    by_cases e : b = p
    · subst e
      rw [upd_same] at hb
      rw [← hb]
      exact h2
    · rw [upd_ne e] at hb
      exact g.le b o hb⟩

theorem bd_ret (h : Ev te σ H r) : Bd (tRet te) σ H r := fun D H1 e k => h H1 e _ k
theorem bd_seq (h : Go ts σ H P) (k : ∀ σ2 K, Same H K → P σ2 K → Bd tu σ2 K r) : Bd (tSeq ts tu) σ H r := fun D H1 e q =>
  h { D with nx := tu D } H1 e fun σ2 H2 K2 g hp => k σ2 K2 g.kn hp D H2 g.le fun v H3 K3 g3 hv => q v H3 K3 (g.trans g3) hv
theorem go_asg {i : Nat} (h : Ev te σ H s) : Go (tAsg te (gName i)) σ H (fun σ2 K => ∃ v, σ2 = σ.set i (some v) ∧ s.R v K) := fun D H1 e q => h H1 e _ fun v H2 K2 g hv => q _ H2 K2 g ⟨v, rfl, hv⟩
theorem bd_asg {i : Nat} (h : Ev te σ H s) (k : ∀ v K, Same H K → s.R v K → Bd tu (σ.set i (some v)) K r) : Bd (tSeq (tAsg te (gName i)) tu) σ H r :=
  bd_seq (go_asg h) fun σ2 K e ⟨v, a, b⟩ => by
    subst a
    exact k v K e b
theorem go_seq (h : Go ts σ H P) (k : ∀ σ2 K, Same H K → P σ2 K → Go tu σ2 K P') : Go (tSeq ts tu) σ H P' := fun D H1 e q =>
  h { D with nx := tu D } H1 e fun σ2 H2 K2 g hp => k σ2 K2 g.kn hp D H2 g.le fun σ3 H3 K3 g3 hv => q σ3 H3 K3 (g.trans g3) hv
theorem go_next (h : P σ H) : Go tNext σ H P := fun D H1 e q => q σ H1 H (Gr.refl e) h
theorem go_imp (h : Go ts σ H P) (k : ∀ σ2 K, Same H K → P σ2 K → P' σ2 K) : Go ts σ H P' := fun D H1 e q => h D H1 e fun σ2 H2 K2 g hp => q σ2 H2 K2 g (k σ2 K2 g.kn hp)
theorem go_aug {i : Nat} {f : Int → Int → Int} {a b : Int} (hx : σ[i]? = some (some (.int a))) (h : Ev te σ H (I b)) : Go (tAug i te (ipI f)) σ H (fun σ2 K => σ2 = σ.set i (some (.int (f a b)))) := fun D H1 e q =>
  ⟨.int a, hx, h H1 e _ fun v H2 K2 g hv => ⟨a, b, rfl, hv, q _ H2 K2 g rfl⟩⟩
theorem bd_mono (h : Bd ts σ H r) (e : Same H H') : Bd ts σ H' r := fun D H1 e1 q => h D H1 (e.trans e1) fun v H2 K2 g hv => q v H2 (join H' K2) ⟨g.ext, join_l, join_le (e1.trans g.ext) g.le, fun b hb => by
    unfold join at hb
    cases eb : H' b with
    | none =>
      rw [eb] at hb
      refine (g.new b hb).elim (fun z => .inl ?_) .inr
      cases eh : H b with
      | none => exact absurd eh z
      | some o =>
        rw [e b o eh] at eb
        cases eb
    | some o => exact .inl (Option.some_ne_none o)⟩ (r.mono (join_r (e1.trans g.ext) g.le) hv)
/-- if t: return ..; the rest -/
theorem bd_if {b : Bool} (h : EvT t σ H b) (h1 : b = true → Bd ts σ H r) (h2 : b = false → Bd tu σ H r) : Bd (tSeq (tIfS t ts tNext) tu) σ H r := fun D H1 e q =>
  h H1 e _ fun c H2 K2 g hc => by
    subst hc
    cases c with
    | true =>
      rw [if_pos rfl]
      exact bd_mono (h1 rfl) g.kn _ H2 g.le fun v H3 K3 g3 hv => q v H3 K3 (g.trans g3) hv
    | false =>
      rw [if_neg Bool.false_ne_true]
      exact bd_mono (h2 rfl) g.kn D H2 g.le fun v H3 K3 g3 hv => q v H3 K3 (g.trans g3) hv
/-- if t: statements -/
theorem go_if {b : Bool} (h : EvT t σ H b) (h1 : ∀ K, Same H K → b = true → Go ts σ K P) (h2 : ∀ K, Same H K → b = false → Go tu σ K P) : Go (tIfS t ts tu) σ H P := fun D H1 e q =>
  h H1 e _ fun c H2 K2 g hc => by
    subst hc
    cases c with
    | true =>
      rw [if_pos rfl]
      exact h1 K2 g.kn rfl D H2 g.le fun v H3 K3 g3 hv => q v H3 K3 (g.trans g3) hv
    | false =>
      rw [if_neg Bool.false_ne_true]
      exact h2 K2 g.kn rfl D H2 g.le fun v H3 K3 g3 hv => q v H3 K3 (g.trans g3) hv
/-- a loop: P by the turn, the slots and what is known -/
theorem go_for {wi : TI} {g : TG} (src : Src wi σ H n it) (P : Nat → L2.St → Hp → Prop) (hm : ∀ i σ' K K', Same K K' → P i σ' K → P i σ' K') (h0 : ∀ K, Same H K → P 0 σ K)
    (hs : ∀ i x σ' K, i < n → Same H K → P i σ' K → (it i).R x K → ∀ (D : Ends) H1, Same K H1 → (∀ σ2 H2 K2, Gr K H1 K2 H2 → P (i + 1) σ2 K2 → D.nx σ2 H2) → g x σ' H1 fun σ2 H2 => ts D σ2 H2) : Go (tFor wi g ts) σ H (P n) := fun D H1 e q =>
  src H1 e _ fun J H2 K2 gr tr => by
    refine ⟨fun i m σ' H' => m = n - i ∧ i ≤ n ∧ ∃ Kc, Gr K2 H2 Kc H' ∧ P i σ' Kc, ⟨n, rfl, Nat.zero_le _, K2, Gr.refl gr.le, h0 K2 gr.kn⟩, ?_⟩
    rintro i m σ' H' ⟨rfl, hi, Kc, gc, pc⟩
    by_cases hlt : i < n
    · refine .inr ⟨tr.go i H' hlt (gc.kn.trans gc.le), fun σ' H' => ∃ Kc, Gr K2 H2 Kc H' ∧ P (i + 1) σ' Kc, fun σ' H' p => ⟨n - (i + 1), by omega, rfl, hlt, p⟩, fun x H'' y => ?_⟩
      obtain ⟨K3, g3, hx⟩ := tr.yld i x H' H'' Kc hlt gc.kn gc.le y
      exact hs i x σ' K3 hlt ((gr.kn.trans gc.kn).trans g3.kn) (hm _ _ _ _ g3.kn pc) hx { D with nx := _, ct := _, bk := D.nx } H'' g3.le fun σ2 H4 K4 g4 p4 => ⟨K4, (gc.trans g3).trans g4, p4⟩
    · have ei : i = n := by omega
      subst ei
      exact .inl ⟨tr.stop H' (gc.kn.trans gc.le), q σ' H' Kc (gr.trans gc) pc⟩
theorem go_forN {wi : TI} {j : Nat} (src : Src wi σ H n it) (P : Nat → L2.St → Hp → Prop) (hm : ∀ i σ' K K', Same K K' → P i σ' K → P i σ' K') (h0 : ∀ K, Same H K → P 0 σ K)
    (hs : ∀ i x σ' K, i < n → Same H K → P i σ' K → (it i).R x K → Go ts (σ'.set j (some x)) K (P (i + 1))) : Go (tFor wi (gName j) ts) σ H (P n) :=
  go_for src P hm h0 fun i x σ' K hi e p hx D H1 e1 k => hs i x σ' K hi e p hx D H1 e1 k
theorem go_forT {wi : TI} {j1 j2 : Nat} {r1 r2 : Nat → Rl} (src : Src wi σ H n (fun i => To [r1 i, r2 i])) (P : Nat → L2.St → Hp → Prop) (hm : ∀ i σ' K K', Same K K' → P i σ' K → P i σ' K') (h0 : ∀ K, Same H K → P 0 σ K)
    (hs : ∀ i x y σ' K, i < n → Same H K → P i σ' K → (r1 i).R x K → (r2 i).R y K → Go ts ((σ'.set j1 (some x)).set j2 (some y)) K (P (i + 1))) : Go (tFor wi (gTwo K j1 j2) ts) σ H (P n) :=
  go_for src P hm h0 fun i x σ' Kc hi e p hx D H1 e1 k => by
    obtain ⟨a, vs, rfl, hp, hvs⟩ := hx
    obtain ⟨y, z, rfl, hy, hz⟩ := all2 hvs
    exact ⟨a, _, rfl, SqT.of (e1 _ _ hp), rfl, y, _, rfl, z, _, rfl, rfl, hs i y z σ' Kc hi e p hy hz D H1 e1 k⟩
/-- while: W by a number that falls, the slots and what is known -/
theorem go_while {W : Nat → L2.St → Hp → Prop} {m0 : Nat} (h0 : W m0 σ H)
    (hs : ∀ m σ' K, Same H K → W m σ' K → ∃ b, EvT t σ' K b ∧ (b = true → ∀ K', Same K K' → Go ts σ' K' (fun σ2 K2 => ∃ m', m' < m ∧ W m' σ2 K2)) ∧ (b = false → ∀ K', Same K K' → P σ' K')) : Go (tWhile t ts) σ H P := fun D H1 e q =>
  ⟨fun m σ' H' => ∃ Kc, Gr H H1 Kc H' ∧ W m σ' Kc, ⟨m0, H, Gr.refl e, h0⟩, fun m σ' H' ⟨Kc, gc, w⟩ => by
    obtain ⟨b, hb, h1, h2⟩ := hs m σ' Kc gc.kn w
    refine hb H' gc.le _ fun c H2 K2 g hc => ?_
    subst hc
    cases c with
    | true =>
      rw [if_pos rfl]
      refine ⟨fun σ' H' => ∃ m', m' < m ∧ ∃ Kc, Gr H H1 Kc H' ∧ W m' σ' Kc, fun σ' H' h => h, h1 rfl K2 g.kn { D with nx := _, ct := _, bk := D.nx } H2 g.le fun σ3 H3 K3 g3 ⟨m', hm, w'⟩ => ⟨m', hm, K3, (gc.trans g).trans g3, w'⟩⟩
    | false =>
      rw [if_neg Bool.false_ne_true]
      exact q σ' H2 K2 (gc.trans g) (h2 rfl K2 g.kn)⟩

/-! ### beside a list that grows -/
theorem gl_of (h : Go ts σ H P) : Gl' ts σ H p rs (fun σ2 K rs2 => rs2 = rs ∧ P σ2 K) := fun D H1 acc e hp h1 ha q =>
  h D H1 e fun σ2 H2 K2 g hP => q σ2 H2 K2 rs acc (Gx.of g) (g.ext _ _ h1) (ha.mono g.kn) ⟨rfl, hP⟩
theorem gl_seq (h : Gl' ts σ H p rs L) (k : ∀ σ2 K rs2, Same H K → L σ2 K rs2 → Gl' tu σ2 K p rs2 L') : Gl' (tSeq ts tu) σ H p rs L' := fun D H1 acc e hp h1 ha q =>
  h { D with nx := tu D } H1 acc e hp h1 ha fun σ2 H2 K2 rs2 acc2 g h2 ha2 hL => k σ2 K2 rs2 g.kn hL D H2 acc2 g.le (g.hid hp (by rw [h1]; exact Option.some_ne_none _)) h2 ha2 fun σ3 H3 K3 rs3 acc3 g3 h3 ha3 hL3 =>
    q σ3 H3 K3 rs3 acc3 (g.trans g3 hp (by rw [h1]; exact Option.some_ne_none _) (by rw [h2]; exact Option.some_ne_none _)) h3 ha3 hL3
theorem gl_imp (h : Gl' ts σ H p rs L) (k : ∀ σ2 K rs2, Same H K → L σ2 K rs2 → L' σ2 K rs2) : Gl' ts σ H p rs L' := fun D H1 acc e hp h1 ha q => h D H1 acc e hp h1 ha fun σ2 H2 K2 rs2 acc2 g h2 ha2 hL => q σ2 H2 K2 rs2 acc2 g h2 ha2 (k σ2 K2 rs2 g.kn hL)
theorem gl_asg {i : Nat} (h : Ev te σ H s) (k : ∀ v K, Same H K → s.R v K → Gl' tu (σ.set i (some v)) K p rs L) : Gl' (tSeq (tAsg te (gName i)) tu) σ H p rs L :=
  gl_seq (gl_of (go_asg h)) fun σ2 K rs2 e ⟨a, v, b, c⟩ => by
    subst a b
    exact k v K e c
/-- xs.append(te) -/
theorem gl_app {i : Nat} (hi : σ[i]? = some (some (.ref p))) (h : Ev te σ H r) (hl : rs.length < 1000000) : Gl' (tDrop (tBM K "list" rAppend (tVar i) (tCons te tNil))) σ H p rs (fun σ2 _ rs2 => σ2 = σ ∧ rs2 = rs ++ [r]) := fun D H1 acc e hp h1 ha q =>
  ⟨.ref p, hi, .inl ⟨rfl, acc, SqL.of h1⟩, h H1 e _ fun v H2 K2 g hv => ⟨p, acc, v, rfl, rfl, g.ext _ _ h1, by
    rw [ha.length]
    exact Nat.lt_of_lt_of_le hl (by decide), q σ _ K2 (rs ++ [r]) (acc ++ [v]) ⟨fun b o hb e => by
      rw [upd_ne hb]
      exact g.ext b o e, g.kn, same_upd2 g.le (g.hid hp (by rw [h1]; exact Option.some_ne_none _)), g.new⟩ upd_same ((ha.mono g.kn).append ⟨hv, trivial⟩) ⟨rfl, rfl⟩⟩⟩
/-- xs.extend(te), te a new list -/
theorem gl_ext {i : Nat} (hi : σ[i]? = some (some (.ref p))) (h : Ev te σ H (Lo ss)) (hl : rs.length + ss.length < 1000000) : Gl' (tDrop (tBM K "list" rExtend (tVar i) (tCons te tNil))) σ H p rs (fun σ2 _ rs2 => σ2 = σ ∧ rs2 = rs ++ ss) := fun D H1 acc e hp h1 ha q =>
  ⟨.ref p, hi, .inl ⟨rfl, acc, SqL.of h1⟩, h H1 e _ fun v H2 K2 g hv => by
    obtain ⟨p', ws, rfl, hp', hws⟩ := hv
    refine ⟨p, p', acc, ws, rfl, rfl, g.ext _ _ h1, g.le _ _ hp', ?_, q σ _ K2 (rs ++ ss) (acc ++ ws) ⟨fun b o hb e => by
      rw [upd_ne hb]
      exact g.ext b o e, g.kn, same_upd2 g.le (g.hid hp (by rw [h1]; exact Option.some_ne_none _)), g.new⟩ upd_same ((ha.mono g.kn).append hws) ⟨rfl, rfl⟩⟩
    rw [ha.length, hws.length]
    exact Nat.le_trans (Nat.le_of_lt hl) (by decide)⟩
theorem gl_for {wi : TI} {g : TG} (src : Src wi σ H n it) (L : Nat → L2.St → Hp → List Rl → Prop) (hm : ∀ i σ' K K' rs, Same K K' → L i σ' K rs → L i σ' K' rs) (h0 : ∀ K, Same H K → L 0 σ K rs)
    (hs : ∀ i x σ' K rs', i < n → Same H K → L i σ' K rs' → (it i).R x K → ∀ (D : Ends) H1 acc, Same K H1 → K p = none → H1 p = some (.lst acc) → AllR rs' acc K → (∀ σ2 H2 K2 rs2 acc2, Gx p K H1 K2 H2 → H2 p = some (.lst acc2) → AllR rs2 acc2 K2 → L (i + 1) σ2 K2 rs2 → D.nx σ2 H2) → g x σ' H1 fun σ2 H2 => ts D σ2 H2) :
    Gl' (tFor wi g ts) σ H p rs (L n) := fun D H1 acc e hp h1 ha q =>
  src H1 e _ fun J H2 K2 gr tr => by
    have h1n : H1 p ≠ none := by
      rw [h1]
      exact Option.some_ne_none _
    refine ⟨fun i m σ' H' => m = n - i ∧ i ≤ n ∧ ∃ Kc rs' acc', Gx p H H1 Kc H' ∧ Same K2 Kc ∧ H' p = some (.lst acc') ∧ AllR rs' acc' Kc ∧ L i σ' Kc rs', ⟨n, rfl, Nat.zero_le _, K2, rs, acc, Gx.of gr, Same.refl _, gr.ext _ _ h1, ha.mono gr.kn, h0 K2 gr.kn⟩, ?_⟩
    rintro i m σ' H' ⟨rfl, hi, Kc, rs', acc', gc, kc, hc, ac, pc⟩
    have hpc : Kc p = none := gc.hid hp h1n
    have hcn : H' p ≠ none := by
      rw [hc]
      exact Option.some_ne_none _
    by_cases hlt : i < n
    · refine .inr ⟨tr.go i H' hlt (kc.trans gc.le), fun σ' H' => ∃ Kc rs' acc', Gx p H H1 Kc H' ∧ Same K2 Kc ∧ H' p = some (.lst acc') ∧ AllR rs' acc' Kc ∧ L (i + 1) σ' Kc rs', fun σ' H' p => ⟨n - (i + 1), by omega, rfl, hlt, p⟩, fun x H'' y => ?_⟩
      obtain ⟨K3, g3, hx⟩ := tr.yld i x H' H'' Kc hlt kc gc.le y
      have gc3 := gc.trans (Gx.of (p := p) g3) hp h1n hcn
      refine hs i x σ' K3 rs' hlt gc3.kn (hm _ _ _ _ _ g3.kn pc) hx { D with nx := _, ct := _, bk := D.nx } H'' acc' g3.le (g3.hid hpc hcn) (g3.ext _ _ hc) (ac.mono g3.kn) fun σ2 H4 K4 rs4 acc4 g4 h4 a4 p4 => ⟨K4, rs4, acc4, gc3.trans g4 hp h1n ?_, (kc.trans g3.kn).trans g4.kn, h4, a4, p4⟩
      rw [g3.ext _ _ hc]
      exact Option.some_ne_none _
    · have ei : i = n := by omega
      subst ei
      exact .inl ⟨tr.stop H' (kc.trans gc.le), q σ' H' Kc rs' acc' gc hc ac pc⟩
theorem gl_forN {wi : TI} {j : Nat} (src : Src wi σ H n it) (L : Nat → L2.St → Hp → List Rl → Prop) (hm : ∀ i σ' K K' rs, Same K K' → L i σ' K rs → L i σ' K' rs) (h0 : ∀ K, Same H K → L 0 σ K rs)
    (hs : ∀ i x σ' K rs', i < n → Same H K → L i σ' K rs' → (it i).R x K → Gl' ts (σ'.set j (some x)) K p rs' (L (i + 1))) : Gl' (tFor wi (gName j) ts) σ H p rs (L n) :=
  gl_for src L hm h0 fun i x σ' K rs' hi e p hx D H1 acc e1 hp h1 ha k => hs i x σ' K rs' hi e p hx D H1 acc e1 hp h1 ha k
theorem gl_forT {wi : TI} {j1 j2 : Nat} {r1 r2 : Nat → Rl} (src : Src wi σ H n (fun i => To [r1 i, r2 i])) (L : Nat → L2.St → Hp → List Rl → Prop) (hm : ∀ i σ' K K' rs, Same K K' → L i σ' K rs → L i σ' K' rs) (h0 : ∀ K, Same H K → L 0 σ K rs)
    (hs : ∀ i x y σ' K rs', i < n → Same H K → L i σ' K rs' → (r1 i).R x K → (r2 i).R y K → Gl' ts ((σ'.set j1 (some x)).set j2 (some y)) K p rs' (L (i + 1))) : Gl' (tFor wi (gTwo K j1 j2) ts) σ H p rs (L n) :=
  gl_for src L hm h0 fun i x σ' Kc rs' hi e pL hx D H1 acc e1 hp h1 ha k => by
    obtain ⟨a, vs, rfl, hpa, hvs⟩ := hx
    obtain ⟨y, z, rfl, hy, hz⟩ := all2 hvs
    exact ⟨a, _, rfl, SqT.of (e1 _ _ hpa), rfl, y, _, rfl, z, _, rfl, rfl, hs i y z σ' Kc rs' hi e pL hy hz D H1 acc e1 hp h1 ha k⟩
/-- xs = [..]; what makes it longer; the rest -/
theorem bd_coll {i : Nat} {ta : TA} (L : Addr → L2.St → Hp → List Rl → Prop) (h : EvA ta σ H rs) (hl : rs.length ≤ 1000) (hS : ∀ p K, Same H K → Gl' ts (σ.set i (some (.ref p))) K p rs (L p))
    (k : ∀ σ2 K p rs2, Same H K → (Lo rs2).R (.ref p) K → L p σ2 K rs2 → Bd tu σ2 K r) (hm : ∀ p σ' K K' rs, Same K K' → L p σ' K rs → L p σ' K' rs) : Bd (tSeq (tAsg (tLst ta) (gName i)) (tSeq ts tu)) σ H r := fun D H1 e q =>
  h H1 e _ fun xs H2 K2 g hxs => ⟨by
    rw [hxs.length]
    exact Nat.le_trans hl (by decide), fun p hp => by
    have hk2 : K2 p = none := g.le.free hp
    refine hS p K2 g.kn { D with nx := tu D } (upd H2 p (.lst xs)) xs (g.le.trans (same_new hp)) hk2 upd_same hxs fun σ3 H3 K3 rs3 acc3 g3 h3 a3 hL => ?_
    have hk3 : K3 p = none := g3.hid hk2 (by rw [upd_same]; exact Option.some_ne_none _)
    have ge := g3.end (.inr trivial) h3 hk3
    have gr : Gr H H1 (upd K3 p (.lst acc3)) H3 := ⟨fun b o hb => ?_, (g.kn.trans g3.kn).trans ge.1, ge.2, fun b hb => ?_⟩
    · exact k σ3 _ p rs3 gr.kn ⟨p, acc3, rfl, upd_same, a3.mono ge.1⟩ (hm _ _ _ _ _ ge.1 hL) D H3 gr.le fun v H4 K4 g4 hv => q v H4 K4 (gr.trans g4) hv
    · have hb2 := g.ext b o hb
      exact g3.ext b o (ne_of_none hb2 hp) (by
        rw [upd_ne (ne_of_none hb2 hp)]
        exact hb2)
    · by_cases e : b = p
      · subst e
        exact .inr (g.ext.free hp)
      · rw [upd_ne e] at hb
        refine (g3.new b hb).elim (g.new b) fun z => .inr ?_
        rw [upd_ne e] at z
        exact g.ext.free z⟩
end

/-! ### defs and their calls -/
def spOf {α : Type} (args : α → List Rl) (pre : α → Prop) (res : α → Rl) : Sp := fun vs H Q _ => ∃ a, pre a ∧ ∃ K, Same K H ∧ AllR (args a) vs K ∧ ∀ v H2 K2, Gr K H K2 H2 → (res a).R v K2 → Q v H2
section
variable {K : PySem.W.Frag} {σ : L2.St} {H : Hp} {α : Type} {args : α → List Rl} {pre : α → Prop} {res : α → Rl}
theorem ev_call {ta : TA} {E : XK} (a : α) (h : EvA ta σ H (args a)) (hp : pre a) : Ev (tCall (spOf args pre res) [] E ta) σ H (res a) := fun H1 e Q q =>
  h H1 e _ fun vs H2 K2 g hvs => ⟨a, hp, K2, g.le, by
    rw [List.append_nil]
    exact hvs, fun v H3 K3 g3 hv => q v H3 K3 (g.trans g3) hv⟩
theorem fn_by {P : Program} {w : World} {mg : Str → Option Value} {base : Heap} {x qual : Str} {st : Stmt} {f : Addr} {fd : FuncData} {N ps : List Str} {k : Nat} (F : Fun K x qual st f fd) (S : FnScope N ps (defScope st)) (hl : ∀ a, (args a).length = ps.length)
    (h : ∀ (cdv : Value) (A : Around) (outer : List Env) (s : Shared) (H : Hp) (E : XK), Room k (A.deeper (envOfC qual (defScope st) s.heap.objs.size f cdv)) →
      ∃ t, PSs (cxOf CX0 P w K mg base N qual (defScope st) f cdv A outer s H E).nox (defBody st) t ∧ ∀ (a : α) (vs : List V) (K0 : Hp), pre a → AllR (args a) vs K0 → Bd t (start N vs) K0 (res a)) :
    FnOk P w K mg base CX0 (k + 1) f fd ps (spOf args pre res) := by
  refine F.ok S (fun vs H Q E hs => ?_) (fun cdv A outer s H vs Q E hr hs => ?_)
  · obtain ⟨a, _, K0, _, ha, _⟩ := hs
    rw [ha.length, hl a]
  · obtain ⟨a, hp, K0, e, ha, q⟩ := hs
    obtain ⟨t, ht, hb⟩ := h cdv A outer s H E hr
    exact ⟨t, ht, hb a vs K0 hp ha _ H e q⟩
end

/-! ### pages -/
def pgF (w : Nat) (l : Addr) : List (Str × V) := [("wide", .int (w : Int)), ("rows", .ref l)]
/-- an instance of the class at C: so wide, these rows -/
def Pg (C : Addr) (w : Nat) (ns : List Nat) : Rl := ⟨fun v H => ∃ p dx l, v = .ref p ∧ H p = some (.ins C dx (pgF w l)) ∧ (Ns ns).R (.ref l) H, fun e ⟨p, dx, l, a, b, c⟩ => ⟨p, dx, l, a, e _ _ b, (Ns ns).mono e c⟩⟩
theorem lk_here {k : Str} {v : V} {r : List (Str × V)} : List.lookup k ((k, v) :: r) = some v := by
  have e : (k == k) = true := beq_self_eq_true k
  simp only [List.lookup, e]
theorem lk_past {k g : Str} {v : V} {r : List (Str × V)} (h : (k == g) = false) : List.lookup k ((g, v) :: r) = List.lookup k r := by
  simp only [List.lookup, h]
theorem pgF_wide (w : Nat) (l : Addr) : (pgF w l).lookup ("wide" : Str) = some (.int (w : Int)) := lk_here
theorem pgF_rows (w : Nat) (l : Addr) : (pgF w l).lookup ("rows" : Str) = some (.ref l) := (lk_past (by decide +kernel)).trans lk_here
theorem pgF_mask (w : Nat) (l : Addr) : (pgF w l).lookup ("mask" : Str) = none := (lk_past (by decide +kernel)).trans ((lk_past (by decide +kernel)).trans rfl)
theorem pgF_row (w : Nat) (l : Addr) : (pgF w l).lookup ("row" : Str) = none := (lk_past (by decide +kernel)).trans ((lk_past (by decide +kernel)).trans rfl)
theorem pgF_high (w : Nat) (l : Addr) : (pgF w l).lookup ("high" : Str) = none := (lk_past (by decide +kernel)).trans ((lk_past (by decide +kernel)).trans rfl)
def spInit (C : Addr) : Sp := fun vs H Q _ => ∃ (p dx l : Addr) (w : Nat), vs = [.ref p, .int (w : Int), .ref l] ∧ H p = some (.ins C dx []) ∧ Q .non (upd H p (.ins C dx (pgF w l)))
section
variable {K : PySem.W.Frag} {σ : L2.St} {H : Hp} {ta te : TE} {C : Addr} {w : Nat} {ns : List Nat} {α : Type} {args : α → List Rl} {pre : α → Prop} {res : α → Rl}
theorem ev_wide (c : Cls K C) (n : NoAttr K C "wide") (h : Ev te σ H (Pg C w ns)) : Ev (tFld K te "wide") σ H (N w) := fun H1 e Q q => h H1 e _ fun v H2 K2 g hv => by
  obtain ⟨p, dx, l, rfl, hp, hl⟩ := hv
  exact ⟨p, C, dx, _, _, rfl, g.le _ _ hp, c, n, pgF_wide w l, q _ H2 K2 g rfl⟩
theorem ev_rows (c : Cls K C) (n : NoAttr K C "rows") (h : Ev te σ H (Pg C w ns)) : Ev (tFld K te "rows") σ H (Ns ns) := fun H1 e Q q => h H1 e _ fun v H2 K2 g hv => by
  obtain ⟨p, dx, l, rfl, hp, hl⟩ := hv
  exact ⟨p, C, dx, _, _, rfl, g.le _ _ hp, c, n, pgF_rows w l, q _ H2 K2 g hl⟩
/-- page.m(..) -/
theorem ev_meth {m : Str} {t : TA} {rs : List Rl} {E : XK} (hm : ∀ l, (pgF w l).lookup m = none) (a : α) (ha : args a = Pg C w ns :: rs) (h : Ev te σ H (Pg C w ns)) (ht : EvA t σ H rs) (hp : pre a) : Ev (tMeth C m (spOf args pre res) [] E te t) σ H (res a) := fun H1 e Q q =>
  h H1 e _ fun v H2 K2 g hv => by
    obtain ⟨p, dx, l, rfl, hp', hl⟩ := hv
    refine ⟨p, dx, _, rfl, g.le _ _ hp', hm l, ea_mono g.kn ht H2 g.le _ fun vs H3 K3 g3 hvs => ⟨a, hp, K3, g3.le, ?_, fun v H4 K4 g4 hv => q v H4 K4 ((g.trans g3).trans g4) hv⟩⟩
    rw [ha, List.append_nil]
    exact ⟨⟨p, dx, l, rfl, g3.kn _ _ hp', (Ns ns).mono g3.kn hl⟩, hvs⟩
/-- Page(wide, rows) -/
theorem ev_make {t : TA} {E : XK} (h : EvA t σ H [N w, Ns ns]) : Ev (tMake C (spInit C) [] E t) σ H (Pg C w ns) := fun H1 e Q q =>
  h H1 e _ fun vs H2 K2 g hvs x dx hx hdx hne => by
    obtain ⟨a, b, rfl, ha, hb⟩ := all2 hvs
    have ha : a = .int (w : Int) := ha
    obtain ⟨l, ws, rfl, hl, hws⟩ := hb
    subst ha
    refine ⟨x, dx, l, w, rfl, upd_same, rfl, ?_⟩
    rw [upd_upd]
    have g1 : Gr K2 H2 (upd K2 dx (.own x)) (upd H2 dx (.own x)) := Gr.alloc g.le hdx
    have g2 : Gr (upd K2 dx (.own x)) (upd H2 dx (.own x)) (upd (upd K2 dx (.own x)) x (.ins C dx (pgF w l))) (upd (upd H2 dx (.own x)) x (.ins C dx (pgF w l))) := Gr.alloc g1.le (by
      rw [upd_ne hne.symm]
      exact hx)
    exact q _ _ _ ((g.trans g1).trans g2) ⟨x, dx, l, rfl, upd_same, l, ws, rfl, (g1.kn.trans g2.kn) _ _ hl, hws.mono (g1.kn.trans g2.kn)⟩
end
end Dp

namespace Dp
open PySem PySem.Spec PyProof.Rows L2
/-! ### bits of whole numbers from 0 on -/
theorem nat_or_xor (n : Nat) : ∀ a b : Nat, a < 2 ^ n → (a ^^^ b) + (a &&& b) = a ||| b := by
  induction n with
  | zero =>
    intro a b h
    have e : a = 0 := by simpa using h
    subst e
    rw [Nat.zero_xor, Nat.zero_and, Nat.zero_or, Nat.add_zero]
  | succ n ih =>
    intro a b h
    have h2 : a / 2 < 2 ^ n := by
      rw [Nat.pow_succ] at h
      omega
    have q := ih (a / 2) (b / 2) h2
    rw [← Nat.xor_div_two, ← Nat.and_div_two, ← Nat.or_div_two] at q
    have m1 : (a ^^^ b) % 2 = a % 2 ^^^ b % 2 := Nat.xor_mod_two_pow (n := 1)
    have m2 : (a &&& b) % 2 = (a % 2 &&& b % 2) := Nat.and_mod_two_pow (n := 1)
    have m3 : (a ||| b) % 2 = a % 2 ||| b % 2 := Nat.or_mod_two_pow (n := 1)
    have c1 : a % 2 = 0 ∨ a % 2 = 1 := by omega
    have c2 : b % 2 = 0 ∨ b % 2 = 1 := by omega
    have m : (a ^^^ b) % 2 + (a &&& b) % 2 = (a ||| b) % 2 := by
      rw [m1, m2, m3]
      rcases c1 with c1 | c1 <;> rcases c2 with c2 | c2 <;> rw [c1, c2] <;> rfl
    omega
theorem bit_and (a b : Nat) : Builtin.bitAnd (a : Int) (b : Int) = ((a &&& b : Nat) : Int) := by
  rw [bitAnd_pp (by omega) (by omega), Int.toNat_natCast, Int.toNat_natCast]
theorem bit_or (a b : Nat) : Builtin.bitOr (a : Int) (b : Int) = ((a ||| b : Nat) : Int) := by
  rw [bitOr_nn (by omega) (by omega), Int.toNat_natCast, Int.toNat_natCast]
theorem bit_xor (a b : Nat) : Builtin.bitXor (a : Int) (b : Int) = ((a ^^^ b : Nat) : Int) := by
  have h := nat_or_xor a a b Nat.lt_two_pow_self
  show Builtin.bitOr (a : Int) (b : Int) - Builtin.bitAnd (a : Int) (b : Int) = _
  rw [bit_and, bit_or]
  omega
section
variable {K : PySem.W.Frag} {σ : L2.St} {H H' : Hp} {ta tb tc te tl : TE} {t u : TT} {r s q : Rl} {rs ss : List Rl} {a b : Nat} {i j : Int}
theorem isv_congr {v w : V} (h : v = w) : IsV v = IsV w := by rw [h]
theorem en_add (ha : Ev ta σ H (N a)) (hb : Ev tb σ H (N b)) : Ev (tOp (rI0 fun i j => .int (i + j)) ta tb) σ H (N (a + b)) := ev_is (ev_i0 ha hb) (isv_congr (congrArg V.int (Int.natCast_add a b).symm))
theorem en_sub (h : b ≤ a) (ha : Ev ta σ H (N a)) (hb : Ev tb σ H (N b)) : Ev (tOp (rI0 fun i j => .int (i - j)) ta tb) σ H (N (a - b)) := ev_is (ev_i0 ha hb) (isv_congr (congrArg V.int (Int.ofNat_sub h).symm))
theorem ei_add (ha : Ev ta σ H (I i)) (hb : Ev tb σ H (I j)) : Ev (tOp (rI0 fun i j => .int (i + j)) ta tb) σ H (I (i + j)) := ev_i0 ha hb
theorem ei_sub (ha : Ev ta σ H (I i)) (hb : Ev tb σ H (I j)) : Ev (tOp (rI0 fun i j => .int (i - j)) ta tb) σ H (I (i - j)) := ev_i0 ha hb
theorem en_mulL (h : a < 2 ^ 64) (ha : Ev ta σ H (N a)) (hb : Ev tb σ H (N b)) : Ev (tOp (rI CMul fun i j => .int (i * j)) ta tb) σ H (N (a * b)) := ev_is (ev_iC ha hb (.inl ⟨by omega, by omega⟩)) (isv_congr (congrArg V.int (Int.natCast_mul a b).symm))
theorem en_mulR (h : b < 2 ^ 64) (ha : Ev ta σ H (N a)) (hb : Ev tb σ H (N b)) : Ev (tOp (rI CMul fun i j => .int (i * j)) ta tb) σ H (N (a * b)) := ev_is (ev_iC ha hb (.inr ⟨by omega, by omega⟩)) (isv_congr (congrArg V.int (Int.natCast_mul a b).symm))
theorem en_and (ha : Ev ta σ H (N a)) (hb : Ev tb σ H (N b)) : Ev (tOp (rI0 fun i j => .int (Builtin.bitAnd i j)) ta tb) σ H (N (a &&& b)) := ev_is (ev_i0 ha hb) (isv_congr (congrArg V.int (bit_and a b)))
theorem en_or (ha : Ev ta σ H (N a)) (hb : Ev tb σ H (N b)) : Ev (tOp (rI0 fun i j => .int (Builtin.bitOr i j)) ta tb) σ H (N (a ||| b)) := ev_is (ev_i0 ha hb) (isv_congr (congrArg V.int (bit_or a b)))
theorem en_xor (ha : Ev ta σ H (N a)) (hb : Ev tb σ H (N b)) : Ev (tOp (rI0 fun i j => .int (Builtin.bitXor i j)) ta tb) σ H (N (a ^^^ b)) := ev_is (ev_i0 ha hb) (isv_congr (congrArg V.int (bit_xor a b)))
theorem en_shr (ha : Ev ta σ H (N a)) (hb : Ev tb σ H (N b)) : Ev (tOp (rI (fun _ j => 0 ≤ j) fun i j => .int (i / 2 ^ j.toNat)) ta tb) σ H (N (a >>> b)) :=
  ev_is (ev_iC ha hb (Int.natCast_nonneg b)) (isv_congr (congrArg V.int (by
    rw [Int.toNat_natCast, Nat.shiftRight_eq_div_pow, Int.natCast_ediv, Int.natCast_pow]
    rfl)))
theorem en_shl {n : Nat} (h : a < 2 ^ n) (hn : n + b ≤ 100000) (ha : Ev ta σ H (N a)) (hb : Ev tb σ H (N b)) : Ev (tOp (rI CShl fun i j => .int (i * 2 ^ j.toNat)) ta tb) σ H (N (a <<< b)) :=
  ev_is (ev_iC ha hb (shl_ok (n := n) (by rw [Int.natAbs_natCast]; exact h) (by omega))) (isv_congr (congrArg V.int (by
    rw [Int.toNat_natCast, Nat.shiftLeft_eq, Int.natCast_mul, Int.natCast_pow]
    rfl)))
theorem en_fdiv (h : b ≠ 0) (h2 : b < 1073741824) (ha : Ev ta σ H (N a)) (hb : Ev tb σ H (N b)) : Ev (tOp (rI CDivN fun i j => .int (i.fdiv j)) ta tb) σ H (N (a / b)) :=
  ev_is (ev_iC ha hb ⟨by omega, by omega⟩) (isv_congr (congrArg V.int (by
    rw [Int.fdiv_eq_ediv_of_nonneg _ (by omega), Int.natCast_ediv])))
theorem en_mod (h : b ≠ 0) (ha : Ev ta σ H (N a)) (hb : Ev tb σ H (N b)) : Ev (tOp (rI (fun _ j => j ≠ 0) fun i j => .int (i.fmod j)) ta tb) σ H (N (a % b)) :=
  ev_is (ev_iC ha hb (by omega)) (isv_congr (congrArg V.int (by
    rw [Int.fmod_eq_emod_of_nonneg _ (by omega), Int.natCast_emod])))
theorem bo_congr {x y : Bool} (h : x = y) : Bo x = Bo y := by rw [h]
theorem en_lt (ha : Ev ta σ H (N a)) (hb : Ev tb σ H (N b)) : Ev (tOp (rI0 fun i j => .bl (decide (i < j))) ta tb) σ H (Bo (decide (a < b))) := ev_is (ev_i0 ha hb) (bo_congr (decide_eq_decide.mpr Int.ofNat_lt))
theorem en_le (ha : Ev ta σ H (N a)) (hb : Ev tb σ H (N b)) : Ev (tOp (rI0 fun i j => .bl (decide (i ≤ j))) ta tb) σ H (Bo (decide (a ≤ b))) := ev_is (ev_i0 ha hb) (bo_congr (decide_eq_decide.mpr Int.ofNat_le))
theorem en_gt (ha : Ev ta σ H (N a)) (hb : Ev tb σ H (N b)) : Ev (tOp (rI0 fun i j => .bl (decide (j < i))) ta tb) σ H (Bo (decide (b < a))) := ev_is (ev_i0 ha hb) (bo_congr (decide_eq_decide.mpr Int.ofNat_lt))
theorem en_ge (ha : Ev ta σ H (N a)) (hb : Ev tb σ H (N b)) : Ev (tOp (rI0 fun i j => .bl (decide (j ≤ i))) ta tb) σ H (Bo (decide (b ≤ a))) := ev_is (ev_i0 ha hb) (bo_congr (decide_eq_decide.mpr Int.ofNat_le))
theorem ei_ge (ha : Ev ta σ H (I i)) (hb : Ev tb σ H (I j)) : Ev (tOp (rI0 fun i j => .bl (decide (j ≤ i))) ta tb) σ H (Bo (decide (j ≤ i))) := ev_i0 ha hb
theorem ei_gt (ha : Ev ta σ H (I i)) (hb : Ev tb σ H (I j)) : Ev (tOp (rI0 fun i j => .bl (decide (j < i))) ta tb) σ H (Bo (decide (j < i))) := ev_i0 ha hb
theorem en_eq (ha : Ev ta σ H (N a)) (hb : Ev tb σ H (N b)) : Ev (tOp rEq ta tb) σ H (Bo (decide (a = b))) :=
  ev_op ha hb fun x y K _ hx hy H1 e Q k => by
    have hx : x = .int (a : Int) := hx
    have hy : y = .int (b : Int) := hy
    subst hx hy
    refine ⟨rfl, k _ H1 K (Gr.refl e) (congrArg V.bl (decide_eq_decide.mpr ?_))⟩
    rw [V.int.injEq]
    exact Int.ofNat_inj
theorem en_ne (ha : Ev ta σ H (N a)) (hb : Ev tb σ H (N b)) : Ev (tOp rNe ta tb) σ H (Bo (!decide (a = b))) :=
  ev_op ha hb fun x y K _ hx hy H1 e Q k => by
    have hx : x = .int (a : Int) := hx
    have hy : y = .int (b : Int) := hy
    subst hx hy
    refine ⟨rfl, k _ H1 K (Gr.refl e) (congrArg V.bl (congrArg Bool.not (decide_eq_decide.mpr ?_)))⟩
    rw [V.int.injEq]
    exact Int.ofNat_inj
/-- a <= b <= c, a <= b < c -/
theorem en_chain {c : Nat} {p p' : Int → Int → Bool} (ha : Ev ta σ H (N a)) (hb : Ev tb σ H (N b)) (hc : Ev tc σ H (N c)) : Ev (tChain (rI0 fun i j => .bl (p i j)) (rI0 fun i j => .bl (p' i j)) ta tb tc) σ H (Bo (p a b && p' b c)) := ev_chain ha hb hc
/-! ### built-in functions -/
abbrev rLen (K : PySem.W.Frag) : List V → Hp → VK → Prop := fun xs H Q => ∃ p ys, xs = [.ref p] ∧ (SqL K H p ys ∨ SqT K H p ys) ∧ Q (.int ys.length) H
theorem en_len (h : Ev te σ H (Lo rs)) : Ev (tCB (rLen K) (tCons te tNil)) σ H (N rs.length) := ev_cb (ea_cons h ea_nil) fun vs K' e hvs H1 e1 Q q => by
  obtain ⟨x, rfl, hx⟩ := all1 hvs
  obtain ⟨p, ws, rfl, hp, hws⟩ := hx
  exact ⟨p, ws, rfl, .inl (SqL.of (e1 _ _ hp)), q _ H1 K' (Gr.refl e1) (by rw [hws.length]; rfl)⟩
theorem en_lenQ {ns : List Int} (h : Ev te σ H (Sq K ns)) : Ev (tCB (rLen K) (tCons te tNil)) σ H (N ns.length) := ev_cb (ea_cons h ea_nil) fun vs K' e hvs H1 e1 Q q => by
  obtain ⟨x, rfl, hx⟩ := all1 hvs
  obtain ⟨p, rfl, hp⟩ := hx
  exact ⟨p, ns.map V.int, rfl, .inl (e1.seq hp), q _ H1 K' (Gr.refl e1) (by rw [List.length_map]; rfl)⟩
theorem sum_cast : ∀ ns : List Nat, (ns.map fun (n : Nat) => (n : Int)).sum = ((ns.sum : Nat) : Int)
  | [] => rfl
  | n :: r => by
    rw [List.map_cons, List.sum_cons, List.sum_cons, sum_cast r, Int.natCast_add]
theorem en_sum {ns : List Nat} (h : Ev te σ H (Ns ns)) : Ev (tCB (rSum K) (tCons te tNil)) σ H (N ns.sum) := ev_cb (ea_cons h ea_nil) fun vs K' e hvs H1 e1 Q q => by
  obtain ⟨x, rfl, hx⟩ := all1 hvs
  obtain ⟨p, ws, rfl, hp, hws⟩ := hx
  have e2 := all_ns hws
  subst e2
  refine ⟨p, ns.map fun (n : Nat) => (n : Int), rfl, ?_, q _ H1 K' (Gr.refl e1) (congrArg V.int (sum_cast ns))⟩
  rw [List.map_map]
  exact SqL.of (e1 _ _ hp)
theorem all_bs {H : Hp} : ∀ {ns : List Bool} {vs : List V}, AllR (ns.map Bo) vs H → vs = ns.map V.bl
  | [], [], _ => rfl
  | n :: ns, v :: vs, h => by
    have e : v = .bl n := h.1
    rw [e, all_bs h.2]
    rfl
  | [], _ :: _, h => h.elim
  | _ :: _, [], h => h.elim
theorem en_any {bs : List Bool} (h : Ev te σ H (Lo (bs.map Bo))) : Ev (tCB (rAny K) (tCons te tNil)) σ H (Bo (bs.any id)) := ev_cb (ea_cons h ea_nil) fun vs K' e hvs H1 e1 Q q => by
  obtain ⟨x, rfl, hx⟩ := all1 hvs
  obtain ⟨p, ws, rfl, hp, hws⟩ := hx
  have e2 := all_bs hws
  subst e2
  exact ⟨p, bs, rfl, SqL.of (e1 _ _ hp), q _ H1 K' (Gr.refl e1) rfl⟩
abbrev rAbs : List V → Hp → VK → Prop := fun xs H Q => ∃ i, xs = [.int i] ∧ Q (.int (if i < 0 then -i else i)) H
theorem ei_abs (h : Ev te σ H (I i)) : Ev (tCB rAbs (tCons te tNil)) σ H (I (if i < 0 then -i else i)) := ev_cb (ea_cons h ea_nil) fun vs K' e hvs H1 e1 Q q => by
  obtain ⟨x, rfl, hx⟩ := all1 hvs
  have hx : x = .int i := hx
  exact ⟨i, by rw [hx], q _ H1 K' (Gr.refl e1) rfl⟩
abbrev rMx : List V → Hp → VK → Prop := fun xs H Q => ∃ i j, xs = [.int i, .int j] ∧ Q (.int (if j > i then j else i)) H
theorem ei_max (h : Ev ta σ H (I i)) (h2 : Ev tb σ H (I j)) : Ev (tCB rMx (tCons ta (tCons tb tNil))) σ H (I (if j > i then j else i)) := ev_cb (ea_cons h (ea_cons h2 ea_nil)) fun vs K' e hvs H1 e1 Q q => by
  obtain ⟨x, y, rfl, hx, hy⟩ := all2 hvs
  have hx : x = .int i := hx
  have hy : y = .int j := hy
  exact ⟨i, j, by rw [hx, hy], q _ H1 K' (Gr.refl e1) rfl⟩
abbrev rInt : List V → Hp → VK → Prop := fun xs H Q => (∃ i, xs = [.int i] ∧ Q (.int i) H) ∨ ∃ k, xs = [.bl k] ∧ Q (.int (if k then 1 else 0)) H
theorem en_int {k : Bool} (h : Ev te σ H (Bo k)) : Ev (tCB rInt (tCons te tNil)) σ H (N (if k then 1 else 0)) := ev_cb (ea_cons h ea_nil) fun vs K' e hvs H1 e1 Q q => by
  obtain ⟨x, rfl, hx⟩ := all1 hvs
  have hx : x = .bl k := hx
  exact .inr ⟨k, by rw [hx], q _ H1 K' (Gr.refl e1) (by cases k <;> rfl)⟩
/-! ### slices by whole numbers from 0 on -/
theorem cut_nat {α : Type} (l : List α) (lo hi : Nat) : (l.drop (min lo l.length)).take (min hi l.length - min lo l.length) = (l.drop lo).take (hi - lo) := by
  by_cases c : lo ≤ l.length
  · rw [Nat.min_eq_left c]
    by_cases d : hi ≤ l.length
    · rw [Nat.min_eq_left d]
    · rw [Nat.min_eq_right (by omega), List.take_of_length_le (by rw [List.length_drop]; omega), List.take_of_length_le (by rw [List.length_drop]; omega)]
  · have e : min lo l.length = l.length := by omega
    rw [e, List.drop_of_length_le (Nat.le_refl _), List.drop_of_length_le (by omega), List.take_nil, List.take_nil]
theorem ev_slN {tl th : TO} {lo hi : Nat} (h : Ev te σ H (Lo rs)) (h1 : EvO tl σ H (some (lo : Int))) (h2 : EvO th σ H (some (hi : Int))) : Ev (tSl (rSlL K) te tl th) σ H (Lo ((rs.drop lo).take (hi - lo))) :=
  ev_is (ev_sl h h1 h2) (congrArg Lo (by
    rw [HT.sIx_nat, HT.sIx_nat]
    exact cut_nat rs lo hi))
theorem ev_slNQ {tl th : TO} {lo hi : Nat} {ns : List Int} (h : Ev te σ H (Sq K ns)) (h1 : EvO tl σ H (some (lo : Int))) (h2 : EvO th σ H (some (hi : Int))) : Ev (tSl (rSlL K) te tl th) σ H (Lo (((ns.drop lo).take (hi - lo)).map I)) :=
  ev_is (ev_slQ h h1 h2) (congrArg (fun l : List Int => Lo (l.map I)) (by
    rw [HT.sIx_nat, HT.sIx_nat]
    exact cut_nat ns lo hi))
/-- xs[a:] -/
theorem ev_slFrom {tl : TO} {lo : Nat} (h : Ev te σ H (Lo rs)) (h1 : EvO tl σ H (some (lo : Int))) : Ev (tSl (rSlL K) te tl tNoPart) σ H (Lo (rs.drop lo)) :=
  ev_is (ev_sl h h1 eo_none) (congrArg Lo (by
    rw [HT.sIx_nat, HT.sIx_none]
    by_cases c : lo ≤ rs.length
    · rw [Nat.min_eq_left c, List.take_of_length_le (by rw [List.length_drop]; omega)]
    · rw [Nat.min_eq_right (by omega), List.drop_of_length_le (Nat.le_refl _), List.drop_of_length_le (by omega)]
      simp))
/-- xs[:b] -/
theorem ev_slTo {th : TO} {hi : Nat} (h : Ev te σ H (Lo rs)) (h2 : EvO th σ H (some (hi : Int))) : Ev (tSl (rSlL K) te tNoPart th) σ H (Lo (rs.take hi)) :=
  ev_is (ev_sl h eo_none h2) (congrArg Lo (by
    rw [HT.sIx_nat, HT.sIx_none, List.drop_zero, Nat.sub_zero]
    by_cases d : hi ≤ rs.length
    · rw [Nat.min_eq_left d]
    · rw [Nat.min_eq_right (by omega), List.take_of_length_le (Nat.le_refl _), List.take_of_length_le (by omega)]))
/-- xs[::-1] -/
theorem ev_rev (h : Ev te σ H (Lo rs)) : Ev (tRevL K te) σ H (Lo rs.reverse) := fun H1 e Q q => h H1 e _ fun v H2 K2 g hv => by
  obtain ⟨p, vs, rfl, hp, hvs⟩ := hv
  exact ⟨p, vs, rfl, SqL.of (g.le _ _ hp), Does.alloc (R := (Lo _).R) (fun l hl => ⟨l, _, rfl, upd_same, hvs.reverse.mono (same_new hl)⟩) H2 g.le Q fun z H3 K3 g3 hz => q z H3 K3 (g.trans g3) hz⟩
end
end Dp

namespace Dp
open PySem PySem.Spec PyProof.Rows L2
/-! ### what stands behind the top -/
/-- a def that keeps its promise -/
def Cal (P : Program) (w : World) (K : PySem.W.Frag) (mg : Str → Option Value) (base : Heap) (k : Nat) (x : Str) (ps : List Str) (sp : Sp) : Prop :=
  ∃ f fd, FnOk P w K mg base CX0 k f fd ps sp ∧ mg x = some (.ref f) ∧ PySem.W.keepIn K (.ref f) = true ∧ Binds K fd ps []
/-- a method of the class at C -/
def Mtd (P : Program) (w : World) (K : PySem.W.Frag) (mg : Str → Option Value) (base : Heap) (k : Nat) (C : Addr) (m : Str) (ps : List Str) (sp : Sp) : Prop :=
  ∃ f fd, FnOk P w K mg base CX0 k f fd ps sp ∧ Meth K C m f ∧ Binds K fd ps [] ∧ Cls K C
/-- the class itself -/
def Mkr (P : Program) (w : World) (K : PySem.W.Frag) (mg : Str → Option Value) (base : Heap) (C : Addr) (x : Str) (ps : List Str) (sp : Sp) : Prop :=
  ∃ f fd, FnOk P w K mg base CX0 1 f fd ps sp ∧ Mk K C f ∧ Binds K fd ps [] ∧ mg x = some (.ref C)
section
variable {X : Cx}
theorem pe_cal {k : Nat} {x : Str} {ps : List Str} {sp : Sp} {e : Expr} {es : List Expr} {t : TA} {p pos : Pos} (c : Cal X.prog X.w X.K X.mg X.base k x ps sp) (hr : Room k X.A) (hg : Gl X x) (ha : PA X (e :: es) t)
    (hdb : (x == ("__debug__" : Str)) = false := by decide) (he : starEach (e :: es) X.env = (false, eval e X.env) :: starEach es X.env := by rfl) (hpl : (backTo pos (starEach es X.env)).any (·.1) = false := by rfl) : PE X (.Call (.Name x p) (e :: es) [] pos) (tCall sp [] E0 t) := by
  obtain ⟨f, fd, F, hm, kp, b⟩ := c
  exact pe_call F hr hg hm kp b .nil pass0 ha hdb he hpl
theorem pe_mkp {C : Addr} {x : Str} {ps : List Str} {sp : Sp} {e : Expr} {es : List Expr} {t : TA} {p pos : Pos} (c : Mkr X.prog X.w X.K X.mg X.base C x ps sp) (hr : Room 2 X.A) (hg : Gl X x) (ha : PA X (e :: es) t)
    (hdb : (x == ("__debug__" : Str)) = false := by decide) (he : starEach (e :: es) X.env = (false, eval e X.env) :: starEach es X.env := by rfl) (hpl : (backTo pos (starEach es X.env)).any (·.1) = false := by rfl) : PE X (.Call (.Name x p) (e :: es) [] pos) (tMake C sp [] E0 t) := by
  obtain ⟨f, fd, F, hm, b, g⟩ := c
  exact pe_make hm F hr hg g b .nil pass0 ha hdb he hpl
theorem pe_mth {C : Addr} {k : Nat} {m : Str} {ps : List Str} {sp : Sp} {o e : Expr} {es : List Expr} {ta : TE} {t : TA} {apos pos : Pos} {pl : Sem Bool} (c : Mtd X.prog X.w X.K X.mg X.base k C m ps sp) (hr : Room k X.A) (ho : PE X o ta) (ha : PA X (e :: es) t)
    (hst : starEach (e :: es) X.env = (false, eval e X.env) :: starEach es X.env := by rfl) (hpl : (backTo pos (starEach es X.env)).any (·.1) = false := by rfl)
    (ht : eval (.Call (.Attribute o m apos) (e :: es) [] pos) X.env = (do
      let ov ← eval o X.env
      standAt apos.atName
      let (f, first) ← holding [ov] (getMethod ov m pl)
      callWith pos f first (backTo pos (starEach (e :: es) X.env)) (backToKw pos (keywordEach [] X.env))) := by rfl) : PE X (.Call (.Attribute o m apos) (e :: es) [] pos) (tMeth C m sp [] E0 ta t) := by
  obtain ⟨f, fd, F, hm, b, cl⟩ := c
  exact pe_meth ho cl hm F hr b .nil pass0 ha hst hpl ht
theorem pe_mth0 {C : Addr} {k : Nat} {m : Str} {ps : List Str} {sp : Sp} {o : Expr} {ta : TE} {apos pos : Pos} {pl : Sem Bool} (c : Mtd X.prog X.w X.K X.mg X.base k C m ps sp) (hr : Room k X.A) (ho : PE X o ta)
    (ht : eval (.Call (.Attribute o m apos) [] [] pos) X.env = (do
      let ov ← eval o X.env
      standAt apos.atName
      let (f, first) ← holding [ov] (getMethod ov m pl)
      callWith pos f first (backTo pos (starEach [] X.env)) (backToKw pos (keywordEach [] X.env))) := by rfl) : PE X (.Call (.Attribute o m apos) [] [] pos) (tMeth C m sp [] E0 ta tNil) := by
  obtain ⟨f, fd, F, hm, b, cl⟩ := c
  exact pe_meth0 ho cl hm F hr b .nil pass0 ht
theorem slK (K : PySem.W.Frag) (hk : X.K = K := by rfl) : SlR X (rSlL K) := hk ▸ sl_list
theorem ixK (K : PySem.W.Frag) (hk : X.K = K := by rfl) : IxR X (rIxL K) := hk ▸ ix_list
theorem lenK (K : PySem.W.Frag) (hk : X.K = K := by rfl) : CallR X (.builtin "len") (rLen K) := hk ▸ call_len_seq
theorem sumK (K : PySem.W.Frag) (hc : X.calm = true) (hk : X.K = K := by rfl) : CallR X (.builtin "sum") (rSum K) := hk ▸ cr_sum hc
theorem anyK (K : PySem.W.Frag) (hc : X.calm = true) (hk : X.K = K := by rfl) : CallR X (.builtin "any") (rAny K) := hk ▸ cr_any hc
theorem fldK (K : PySem.W.Frag) {e : Expr} {f : Str} {pos : Pos} {ta : TE} (he : PE X e ta) (hb : attributeBase e f X.env (eval e X.env) = eval e X.env) (hk : X.K = K := by rfl) : PE X (.Attribute e f pos) (tFld K ta f) := hk ▸ pe_fld he hb
theorem revK (K : PySem.W.Frag) {e : Expr} {te : TE} {k : Nat} {p1 p2 p3 pos : Pos} (he : PE X e te) (hk : X.K = K := by rfl) : PE X (.Subscript e (.Slice none none (some (.UnaryOp .USub (.Constant (.int 1) k p1) p2)) p3) pos) (tRevL K te) := hk ▸ pe_revL he
theorem listK (K : PySem.W.Frag) {tg l : Expr} {tl : TE} (hl : PE X l tl) (hk : X.K = K := by rfl) : PI X tg l (iList K tl) := hk ▸ pi_list hl
theorem tupK (K : PySem.W.Frag) {tg l : Expr} {tl : TE} (hl : PE X l tl) (hk : X.K = K := by rfl) : PI X tg l (iTup K tl) := hk ▸ pi_tup hl
theorem enumK (K : PySem.W.Frag) {e : Expr} {ta : TA} {p pos tpos : Pos} {elts : List Expr} {kk : Nat} (hg : Gl X "enumerate") (hm : X.mg "enumerate" = none) (ha : PA X [e] ta) (hs : starEach [e] X.env = [(false, eval e X.env)] := by rfl) (hk : X.K = K := by rfl) :
    PI X (.Tuple elts kk tpos) (.Call (.Name "enumerate" p) [e] [] pos) (iEnum K ta) := hk ▸ pi_enum hg hm ha hs
theorem zipK (K : PySem.W.Frag) {e e2 : Expr} {ta : TA} {p pos tpos : Pos} {elts : List Expr} {kk : Nat} (hg : Gl X "zip") (hm : X.mg "zip" = none) (ha : PA X [e, e2] ta)
    (hs : starEach [e, e2] X.env = (false, eval e X.env) :: starEach [e2] X.env := by rfl) (hpl : (backTo pos (starEach [e2] X.env)).any (·.1) = false := by rfl) (hk : X.K = K := by rfl) :
    PI X (.Tuple elts kk tpos) (.Call (.Name "zip" p) [e, e2] [] pos) (iZip K ta) := hk ▸ pi_zip hg hm ha hs hpl
theorem ptupK (K : PySem.W.Frag) {es : List Expr} {k : Nat} {t : TGs} {n : Nat} {pos : Pos} (hc : X.calm = true) (h : PGs X es t)
    (hn : (assignEach es X.env).length = n := by rfl) (hst : (assignEach es X.env).findIdx? (·.1) = none := by rfl) (hk : X.K = K := by rfl) : PG X (.Tuple es k pos) (gTup K n t) := hk ▸ pg_tup hc h hn hst
theorem pe_gl {x : Str} {i : Int} {pos : Pos} (h : ∃ t, X.mg x = some (.int i t)) (hg : Gl X x) (hd : (x == ("__debug__" : Str)) = false := by decide) : PE X (.Name x pos) (tC (.int i)) := by
  obtain ⟨t, h⟩ := h
  exact pe_glob hg h ⟨_, rfl⟩ hd
end
/-! ### the last steps -/
theorem dw_list {K : PySem.W.Frag} {H K2 : Hp} {v : V} {l : List Int} (h : (Lo (l.map I)).R v K2) (e : Same K2 H) : Dw K H v (PySem.W.WData.list (l.map PySem.W.WData.int)) := by
  obtain ⟨p, vs, rfl, hp, hvs⟩ := h
  have e2 : vs = l.map V.int := by
    have : AllR ((l.map V.int).map IsV) vs K2 := by
      rw [List.map_map]
      exact hvs
    exact all_is this
  rw [e2] at hp
  exact .lst (SqL.of (e _ _ hp)) (dw_ints _)
section
variable {K : PySem.W.Frag} {σ : L2.St} {H : Hp}
theorem vn {i : Nat} (n : Nat) (h : σ[i]? = some (some (.int (n : Int))) := by rfl) : Ev (tVar i) σ H (N n) := ev_var h rfl
theorem vi {i : Nat} (n : Int) (h : σ[i]? = some (some (.int n)) := by rfl) : Ev (tVar i) σ H (I n) := ev_var h rfl
theorem vr {i : Nat} {v : V} {r : Rl} (hr : r.R v H) (h : σ[i]? = some (some v) := by rfl) : Ev (tVar i) σ H r := ev_var h hr
theorem cn (n : Nat) : Ev (tC (.int (n : Int))) σ H (N n) := ev_c
end
theorem n_of {r : Nat} {v : V} {H : Hp} (h : (N r).R v H) : v = .int (r : Int) := h
theorem n_int {a : Int} {H : Hp} (h : 0 ≤ a) : (N a.toNat).R (.int a) H := congrArg V.int (Int.toNat_of_nonneg h).symm
end Dp

namespace Dp
open PySem PySem.Spec PyProof.Rows L2
theorem rangeUp {n c : Nat} (hc : 1 ≤ c) : Builtin.Range.rangeSize 0 ((n * c : Nat) : Int) (c : Int) = (n : Int) := by
  unfold Builtin.Range.rangeSize
  rw [if_pos (by omega)]
  by_cases h : n = 0
  · subst h
    simp
  · have h1 : 1 ≤ n * c := Nat.le_trans (by omega) (Nat.le_mul_of_pos_right n hc)
    rw [if_pos (by omega)]
    have e : ((n * c : Nat) : Int) - 0 - 1 = ((n - 1 : Nat) : Int) * (c : Int) + ((c - 1 : Nat) : Int) := by
      have e2 : n * c = (n - 1) * c + c := by
        rw [← Nat.succ_mul]
        congr 1
        omega
      rw [e2, Int.natCast_add, Int.natCast_mul]
      omega
    rw [e, Int.add_comm (((n - 1 : Nat) : Int) * (c : Int)), Int.add_mul_ediv_right _ _ (by omega), Int.ediv_eq_zero_of_lt (by omega) (by omega)]
    omega
theorem rgUp {n c : Nat} (hc : 1 ≤ c) (hc2 : c ≤ 1000) (hn : n ≤ 1000000) : RgC 0 ((n * c : Nat) : Int) (c : Int) n := by
  refine ⟨by omega, by omega, ?_, rangeUp hc⟩
  have h : n * c ≤ 1000000 * 1000 := Nat.mul_le_mul hn hc2
  unfold Builtin.Range.small
  rw [rangeUp hc]
  simp only [Builtin.Range.rangeFitsLong, Bool.and_eq_true, Bool.or_eq_true, decide_eq_true_eq, beq_iff_eq]
  have h2 : n * c = n * c := rfl
  generalize n * c = m at h ⊢
  have hcc : (c : Int) > 0 := by omega
  simp only [hcc, if_true, Bool.and_eq_true, decide_eq_true_eq]
  omega
theorem all4 {H : Hp} {a b c d : Rl} {vs : List V} (h : AllR [a, b, c, d] vs H) : ∃ v1 v2 v3 v4, vs = [v1, v2, v3, v4] ∧ a.R v1 H ∧ b.R v2 H ∧ c.R v3 H ∧ d.R v4 H := by
  match vs, h with
  | [v1, v2, v3, v4], h => exact ⟨v1, v2, v3, v4, rfl, h.1, h.2.1, h.2.2.1, h.2.2.2.1⟩
theorem all5 {H : Hp} {a b c d e : Rl} {vs : List V} (h : AllR [a, b, c, d, e] vs H) : ∃ v1 v2 v3 v4 v5, vs = [v1, v2, v3, v4, v5] ∧ a.R v1 H ∧ b.R v2 H ∧ c.R v3 H ∧ d.R v4 H ∧ e.R v5 H := by
  match vs, h with
  | [v1, v2, v3, v4, v5], h => exact ⟨v1, v2, v3, v4, v5, rfl, h.1, h.2.1, h.2.2.1, h.2.2.2.1, h.2.2.2.2.1⟩
theorem all6 {H : Hp} {a b c d e f : Rl} {vs : List V} (h : AllR [a, b, c, d, e, f] vs H) : ∃ v1 v2 v3 v4 v5 v6, vs = [v1, v2, v3, v4, v5, v6] ∧ a.R v1 H ∧ b.R v2 H ∧ c.R v3 H ∧ d.R v4 H ∧ e.R v5 H ∧ f.R v6 H := by
  match vs, h with
  | [v1, v2, v3, v4, v5, v6], h => exact ⟨v1, v2, v3, v4, v5, v6, rfl, h.1, h.2.1, h.2.2.1, h.2.2.2.1, h.2.2.2.2.1, h.2.2.2.2.2.1⟩
theorem all7 {H : Hp} {a b c d e f g : Rl} {vs : List V} (h : AllR [a, b, c, d, e, f, g] vs H) : ∃ v1 v2 v3 v4 v5 v6 v7, vs = [v1, v2, v3, v4, v5, v6, v7] ∧ a.R v1 H ∧ b.R v2 H ∧ c.R v3 H ∧ d.R v4 H ∧ e.R v5 H ∧ f.R v6 H ∧ g.R v7 H := by
  match vs, h with
  | [v1, v2, v3, v4, v5, v6, v7], h => exact ⟨v1, v2, v3, v4, v5, v6, v7, rfl, h.1, h.2.1, h.2.2.1, h.2.2.2.1, h.2.2.2.2.1, h.2.2.2.2.2.1, h.2.2.2.2.2.2.1⟩
theorem ns_at (ns : List Nat) : ∀ i, i < (ns.map N).length → (ns.map N)[i]? = some (N (ns.getD i 0)) := fun i hi => by
  rw [List.length_map] at hi
  rw [List.getElem?_map, List.getElem?_eq_getElem hi, List.getD_eq_getElem?_getD, List.getElem?_eq_getElem hi]
  rfl
theorem ns_rev_at (ns : List Nat) : ∀ i, i < (ns.map N).reverse.length → (ns.map N).reverse[i]? = some (N (ns.getD (ns.length - 1 - i) 0)) := fun i hi => by
  rw [List.length_reverse] at hi
  have hi' := hi
  rw [List.length_map] at hi'
  rw [List.getElem?_reverse hi, List.length_map, ns_at ns _ (by rw [List.length_map]; omega)]
theorem zs_cut (l : List Nat) (a b : Nat) : (((zs l).drop a).take b).map I = ((l.drop a).take b).map N := by
  unfold zs
  rw [← List.map_drop, ← List.map_take, List.map_map]
  rfl
theorem lo_range {n : Nat} {f : Nat → Nat} {l : List Nat} (h : l = (List.range n).map f) : Lo ((List.range n).map fun i => N (f i)) = Ns l := by
  rw [h, Ns, List.map_map]
  rfl
theorem range_getD {β : Type} (ns : List Nat) (f : Nat → β) : (List.range ns.length).map (fun i => f (ns.getD i 0)) = ns.map f := by
  refine List.ext_getElem? fun i => ?_
  rw [List.getElem?_map, List.getElem?_map]
  by_cases h : i < ns.length
  · rw [List.getElem?_range h, List.getElem?_eq_getElem h, Option.map_some, Option.map_some, List.getD_eq_getElem?_getD, List.getElem?_eq_getElem h]
    rfl
  · rw [List.getElem?_eq_none (by rw [List.length_range]; omega), List.getElem?_eq_none (by omega)]
    rfl
theorem lo_map {ns : List Nat} {f : Nat → Nat} : Lo ((List.range (ns.map N).length).map fun i => N (f (ns.getD i 0))) = Ns (ns.map f) := by
  rw [List.length_map, range_getD ns (fun n => N (f n)), Ns, List.map_map]
  rfl
theorem lo_len {n : Nat} {ns : List Nat} (h : (ns.map N).length = n) {f : Nat → Rl} : Lo ((List.range (ns.map N).length).map f) = Lo ((List.range n).map f) := by rw [h]
theorem lo_cut (l : List Nat) (a b : Nat) : Lo (((l.map N).drop a).take b) = Ns ((l.drop a).take b) := by
  rw [← List.map_drop, ← List.map_take]
theorem sq_int {K : PySem.W.Frag} {H : Hp} {p : Addr} {l : List Int} (h : l = zs (Sh56Neutral.nats l)) (hs : SqL K H p (l.map V.int)) : (Sq K (zs (Sh56Neutral.nats l))).R (.ref p) H := ⟨p, rfl, by rw [← h]; exact hs⟩
theorem any_take {ns : List Nat} {i : Nat} (h : i < ns.length) : anyN (ns.take (i + 1)) = anyN (ns.take i) ||| ns.getD i 0 := by
  rw [take_succ_getD h]
  unfold anyN
  rw [List.foldl_append]
  rfl
section
variable {K : PySem.W.Frag} {σ : L2.St} {H : Hp} {te : TE} {t : TT}
theorem bd_refuse : Bd (tRet (tLst (tCons (tC (.int (-2))) tNil))) σ H (Lo (([-2] : List Int).map I)) := bd_ret (ev_lst (ea_cons ev_c ea_nil) (by decide))
theorem lo_zero (z : Nat) (ws : List Nat) : Lo ([N z] ++ ws.map N) = Lo ((((z : Nat) : Int) :: zs ws).map I) := by
  unfold zs
  rw [List.map_cons, List.map_map]
  rfl
theorem lo_zs (ws : List Nat) : Ns ws = Lo ((zs ws).map I) := by
  unfold zs
  rw [List.map_map]
  rfl
theorem ev_words {ws : List Nat} (h : Ev te σ H (Ns ws)) (hl : ws.length ≤ 100000) : Ev (tOp rCat (tLst (tCons (tC (.int 0)) tNil)) te) σ H (Lo ((0 :: zs ws).map I)) :=
  ev_is (ev_cat (ev_lst (ea_cons (cn 0) ea_nil) (by simp)) h (by rw [List.length_map]; simp; omega)) (lo_zero 0 ws)
theorem bd_wrd {b : Bool} {w : Nat} {rows : List Nat} (ht : EvT t σ H b) (he : b = false → Ev te σ H (Ns (wordsOf w rows))) (hl : b = false → (wordsOf w rows).length ≤ 100000) :
    Bd (tSeq (tIfS t (tRet (tLst (tCons (tC (.int (-2))) tNil))) tNext) (tRet (tOp rCat (tLst (tCons (tC (.int 0)) tNil)) te))) σ H (Lo ((wrd b w rows).map I)) :=
  bd_if ht (fun hb => by
    rw [wrd_yes hb]
    exact bd_refuse) (fun hb => by
    rw [wrd_no hb]
    exact bd_ret (ev_words (he hb) (hl hb)))
theorem words_le {w : Nat} {rows : List Nat} (hw : w ≤ 600) (hr : rows.length ≤ 600) : (wordsOf w rows).length ≤ 100000 := by
  rw [words_len]
  exact Nat.le_trans (Nat.mul_le_mul hr (many_le hw)) (by decide)
end
end Dp

namespace Dp
open PySem PySem.Spec PyProof.Rows L2
section
variable {K : PySem.W.Frag} {σ : L2.St} {H : Hp} {ta tb te : TE} {t : TT} {r s : Rl}
/-- a, b = e1, e2 -/
theorem go_par {i j : Nat} {t : TA} (h : EvA t σ H [r, s]) : Go (tPar i j t) σ H (fun σ2 K => ∃ v w, σ2 = (σ.set i (some v)).set j (some w) ∧ r.R v K ∧ s.R w K) := fun D H1 e q => h H1 e _ fun vs H2 K2 g hvs => by
  obtain ⟨v, w, rfl, hv, hw⟩ := all2 hvs
  exact ⟨v, w, rfl, q _ H2 K2 g ⟨v, w, rfl, hv, hw⟩⟩
theorem dp_ints (K : PySem.W.Frag) (H : Hp) : ∀ ns : List Nat, DpAll K H (ns.map fun (n : Nat) => V.int (n : Int)) (ns.map fun (n : Nat) => PyData.int (n : Int))
  | [] => .nil
  | n :: r => .cons (.int _) (dp_ints K H r)
theorem lay_ints : ∀ ns : List Nat, PyData.canLayAll0 (ns.map fun (n : Nat) => PyData.int (n : Int)) = true ∧ PyData.depthAll (ns.map fun (n : Nat) => PyData.int (n : Int)) = 0
  | [] => ⟨rfl, rfl⟩
  | n :: r => by
    obtain ⟨a, b⟩ := lay_ints r
    refine ⟨?_, ?_⟩
    · show (true && PyData.canLayAll0 _) = true
      rw [a]
      rfl
    · show max 0 (PyData.depthAll _) = 0
      rw [b]
      rfl
theorem shaped_ints (ns : List Nat) : SeqAt.shaped (.list (ns.map fun (n : Nat) => PyData.int (n : Int))) = true := by
  unfold SeqAt.shaped
  rw [Bool.and_eq_true, decide_eq_true_eq]
  refine ⟨(lay_ints ns).1, ?_⟩
  show PyData.depthAll _ + 1 ≤ 64
  rw [(lay_ints ns).2]
  decide
/-- a list of whole numbers == [] -/
theorem en_eqNil {ns : List Nat} (ha : Ev ta σ H (Ns ns)) (hb : Ev tb σ H (Lo [])) : Ev (tOp (rEqD K) ta tb) σ H (Bo (decide (ns = []))) :=
  ev_op ha hb fun x y K' _ hx hy H1 e Q k => by
    obtain ⟨p, vs, rfl, hp, hvs⟩ := hx
    obtain ⟨p', ws, rfl, hp', hws⟩ := hy
    have e1 := all_ns hvs
    have e2 : ws = [] := List.length_eq_zero_iff.mp hws.length
    subst e1 e2
    refine ⟨.list (ns.map fun (n : Nat) => PyData.int (n : Int)), .list [], .lst (SqL.of (e _ _ hp)) (dp_ints K H1 ns), .lst (SqL.of (e _ _ hp')) .nil, shaped_ints ns, rfl, k _ H1 K' (Gr.refl e) ?_⟩
    cases ns with
    | nil => rfl
    | cons n r => rfl
/-- xs[-1] -/
theorem en_last {ns : List Nat} (hn : ns ≠ []) (ha : Ev ta σ H (Ns ns)) : Ev (tOp (rIxL K) ta (tUn (rU fun i => .int (-i)) (tC (.int 1)))) σ H (N (lastN ns)) :=
  ev_op (s := I (-1)) ha (ev_iU (i := 1) ev_c) fun x y K' _ hx hy H1 e Q k => by
    obtain ⟨p, vs, rfl, hp, hvs⟩ := hx
    have hy : y = .int (-1) := hy
    subst hy
    have e1 := all_ns hvs
    subst e1
    have ed : ns.map (fun (n : Nat) => V.int (n : Int)) = ns.dropLast.map (fun (n : Nat) => V.int (n : Int)) ++ [V.int ((lastN ns : Nat) : Int)] := by
      conv => lhs; rw [← List.dropLast_concat_getLast hn]
      rw [List.map_append]
      have : ns.getLast hn = lastN ns := by
        unfold lastN
        rw [List.getLast_eq_getElem, List.getD_eq_getElem?_getD, List.getElem?_eq_getElem (by have := List.length_pos_iff.mpr hn; omega)]
        rfl
      rw [this]
      rfl
    refine ⟨p, _, -1, V.int ((lastN ns : Nat) : Int), rfl, rfl, SqL.of (e _ _ hp), ?_, k _ H1 K' (Gr.refl e) rfl⟩
    rw [ed]
    exact atI_last _ _
theorem lo_mapB {ns : List Nat} {f : Nat → Bool} : Lo ((List.range (ns.map N).length).map fun i => Bo (f (ns.getD i 0))) = Lo ((ns.map f).map Bo) := by
  rw [List.length_map, range_getD ns (fun n => Bo (f n)), List.map_map]
  rfl
end
end Dp

namespace Dp
open PySem PySem.Spec PyProof.Rows L2
/-! ### a written tuple of pairs of whole numbers -/
structure GlT (K : PySem.W.Frag) (mg : Str → Option Value) (x : Str) (a : Addr) (ds : List (Int × Int)) : Prop where
  gl : mg x = some (.ref a)
  at' : ∃ vs, (∀ H, SqT K H a vs) ∧ Paired (fun (v : V) (d : Int × Int) => ∃ b, v = .ref b ∧ ∀ H, SqT K H b [.int d.1, .int d.2]) vs ds
/-- a pair of whole numbers, written or not -/
def Pr (K : PySem.W.Frag) (d : Int × Int) : Rl := ⟨fun v H => ∃ b, v = .ref b ∧ SqT K H b [.int d.1, .int d.2], fun e ⟨b, h1, h2⟩ => ⟨b, h1, same_seqT e h2⟩⟩
theorem pe_glT {X : Cx} {K : PySem.W.Frag} {mg : Str → Option Value} {x : Str} {a : Addr} {ds : List (Int × Int)} {pos : Pos} (h : GlT K mg x a ds) (hg : Gl X x) (hm : X.mg = mg := by rfl) (hd : (x == ("__debug__" : Str)) = false := by decide) : PE X (.Name x pos) (tC (.ref a)) :=
  pe_glob hg (by rw [hm]; exact h.gl) rfl hd
theorem paired_get {α β : Type} {R : α → β → Prop} : ∀ {xs : List α} {ys : List β} {i : Nat} {x : α} {y : β}, Paired R xs ys → xs[i]? = some x → ys[i]? = some y → R x y
  | x :: _, y :: _, 0, x', y', .cons h _, e1, e2 => by
    have e1 : x = x' := Option.some.inj e1
    have e2 : y = y' := Option.some.inj e2
    rw [← e1, ← e2]
    exact h
  | _ :: _, _ :: _, i + 1, _, _, .cons _ h, e1, e2 => paired_get (i := i) h e1 e2
section
variable {K : PySem.W.Frag} {σ : L2.St} {H : Hp} {ta tb te : TE} {t : TT} {r s : Rl} {rs : List Rl}
theorem src_glT {mg : Str → Option Value} {x : Str} {a : Addr} {ds : List (Int × Int)} (h : GlT K mg x a ds) : Src (iTup K (tC (.ref a))) σ H ds.length (fun i => Pr K (ds.getD i (0, 0))) := fun H1 e R q => by
  obtain ⟨vs, hv, hp⟩ := h.at'
  have hl := hp.length
  refine ⟨a, rfl, ⟨vs, hv _⟩, q _ H1 H (Gr.refl e) ⟨fun i H' hi e => ⟨vs, vs[i], hv _, List.getElem?_eq_getElem (by omega)⟩, fun H' e => ⟨vs, hv _, by omega⟩, fun i z H' H'' K' hi e e' y => ?_⟩⟩
  obtain ⟨rfl, hz⟩ := y
  refine ⟨K', Gr.refl e', ?_⟩
  have hz := hz vs (hv _)
  obtain ⟨b, rfl, hb⟩ := paired_get hp hz (List.getElem?_eq_getElem hi)
  rw [List.getD_eq_getElem?_getD, List.getElem?_eq_getElem hi]
  exact ⟨b, rfl, hb K'⟩
/-- [te for a, b in pairs] -/
theorem ev_lcP {wi : TI} {j1 j2 n : Nat} {vs : List Nat} {os : Nat → Rl} {ds : Nat → Int × Int} (src : Src wi σ H n (fun i => Pr K (ds i))) (hn : n ≤ 1000000) (hw : ∀ x y, wipe (((wipe σ vs).set j1 (some x)).set j2 (some y)) vs = wipe σ vs)
    (he : ∀ i K', i < n → Same H K' → Ev te (((wipe σ vs).set j1 (some (.int (ds i).1))).set j2 (some (.int (ds i).2))) K' (os i)) : Ev (tLc wi (gTwo K j1 j2) tYes te vs) σ H (Lo ((List.range n).map os)) := by
  have h := ev_lcG (f := fun _ => true) (t := tYes) (fun i σ2 K' => σ2 = ((wipe σ vs).set j1 (some (.int (ds i).1))).set j2 (some (.int (ds i).2))) src hn (g := gTwo K j1 j2) (vs := vs) (te := te) (os := os)
    (fun i x K' hi e hx H1 e1 Q q => by
      obtain ⟨b, rfl, hb⟩ := hx
      exact ⟨b, _, rfl, same_seqT e1 hb, rfl, _, _, rfl, _, _, rfl, rfl, q _ H1 K' (Gr.refl e1) ⟨hw _ _, rfl⟩⟩) (fun i σ2 K' _ _ _ => Does.ret rfl) (fun i σ2 K' K'' e h => h)
    (fun i σ2 K' hi e h _ => by
      subst h
      exact he i K' hi e)
  rw [filt_all] at h
  exact h
/-- xs[:-1] -/
theorem ev_slInit (h : Ev te σ H (Lo rs)) (hr : rs ≠ []) : Ev (tSl (rSlL K) te tNoPart (tPart (tUn (rU fun i => .int (-i)) (tC (.int 1))))) σ H (Lo rs.dropLast) :=
  ev_is (ev_sl h eo_none (eo_some (i := -1) (ev_iU (i := 1) ev_c))) (congrArg Lo (by
    have hl := List.length_pos_iff.mpr hr
    rw [HT.sIx_none, List.drop_zero, Nat.sub_zero]
    have e : HT.sIx rs.length rs.length (some (-1)) = rs.length - 1 := by
      show (if (-1 : Int) < 0 then ((-1 : Int) + (rs.length : Int)).toNat else min (-1 : Int).toNat rs.length) = _
      rw [if_pos (by decide)]
      omega
    rw [e, List.dropLast_eq_take]))
/-- a, b = te -/
theorem go_asgT {i j : Nat} (h : Ev te σ H (To [r, s])) : Go (tAsg te (gTwo K i j)) σ H (fun σ2 K' => ∃ v w, σ2 = (σ.set i (some v)).set j (some w) ∧ r.R v K' ∧ s.R w K') := fun D H1 e q => h H1 e _ fun v H2 K2 g hv => by
  obtain ⟨p, vs, rfl, hp, hvs⟩ := hv
  obtain ⟨x, y, rfl, hx, hy⟩ := all2 hvs
  exact ⟨p, _, rfl, SqT.of (g.le _ _ hp), rfl, x, _, rfl, y, _, rfl, rfl, q _ H2 K2 g ⟨x, y, rfl, hx, hy⟩⟩
theorem list_at {α : Type} (l : List α) (d : α) (f : α → Rl) : ∀ i, i < (l.map f).length → (l.map f)[i]? = some (f (l.getD i d)) := fun i hi => by
  rw [List.length_map] at hi
  rw [List.getElem?_map, List.getElem?_eq_getElem hi, List.getD_eq_getElem?_getD, List.getElem?_eq_getElem hi]
  rfl
theorem range_getD' {α β : Type} (l : List α) (d : α) (f : α → β) : (List.range l.length).map (fun i => f (l.getD i d)) = l.map f := by
  refine List.ext_getElem? fun i => ?_
  rw [List.getElem?_map, List.getElem?_map]
  by_cases h : i < l.length
  · rw [List.getElem?_range h, List.getElem?_eq_getElem h, Option.map_some, Option.map_some, List.getD_eq_getElem?_getD, List.getElem?_eq_getElem h]
    rfl
  · rw [List.getElem?_eq_none (by rw [List.length_range]; omega), List.getElem?_eq_none (by omega)]
    rfl
end
end Dp

namespace Dp
open PySem PySem.Spec PyProof.Rows L2
/-! ### three lists of one length, side by side -/
def It3 (K : PySem.W.Frag) (p q r : Addr) : It where
  go := fun i H => ∃ (ls ms ns : List V) (x y u : V), SqL K H p ls ∧ SqL K H q ms ∧ SqL K H r ns ∧ ls[i]? = some x ∧ ms[i]? = some y ∧ ns[i]? = some u
  yld := fun i H v H' => ∃ T x y u, v = .ref T ∧ H T = none ∧ H' = upd H T (.tup [x, y, u]) ∧ (∀ ls, SqL K H p ls → ls[i]? = some x) ∧ (∀ ls, SqL K H q ls → ls[i]? = some y) ∧ ∀ ls, SqL K H r ls → ls[i]? = some u
  stop := fun i H => ∃ ls ms ns : List V, SqL K H p ls ∧ SqL K H q ms ∧ SqL K H r ns ∧ ls.length = i ∧ ms.length = i ∧ ns.length = i
abbrev Tn3 (p q r z TI TO j1 j2 j3 : Addr) (i : Nat) (h : Heap) : Prop :=
  IsZip h z TI TO .none ∧ IsTupOf3 h TI (.ref j1) (.ref j2) (.ref j3) ∧ (∃ x y u, IsTupOf3 h TO x y u) ∧ h.IsListIter j1 p i ∧ h.IsListIter j2 q i ∧ h.IsListIter j3 r i
theorem six_of {a z TI TO j1 j2 j3 : Addr} (h : a ∈ [z, TI, TO, j1, j2, j3]) : a = z ∨ a = TI ∨ a = TO ∨ a = j1 ∨ a = j2 ∨ a = j3 := by simpa using h
theorem lit_live {h : Heap} {j p : Addr} {i : Nat} (st : h.IsListIter j p i) : ∃ o, h.get? j = some o ∧ ∀ v, o.data ≠ .cell v := by
  obtain ⟨o, e, _, d⟩ := st
  exact ⟨o, e, fun v k => by rw [d] at k; cases k⟩
theorem turn_zip3 {P : Program} {w : World} {K : PySem.W.Frag} {elts : List Expr} {kk : Nat} {tpos : Pos} {p q r z TI TO j1 j2 j3 : Addr} (S : ZipSep3 z TI TO j1 j2 j3 [j1, p] [j2, q] [j3, r]) (m1 : p ≠ j1) (m2 : q ≠ j2) (m3 : r ≠ j3) :
    Turn P w K (.Tuple elts kk tpos) (It3 K p q r) [z, TI, TO, j1, j2, j3] z (Tn3 p q r z TI TO j1 j2 j3) where
  mem := List.mem_cons_self ..
  obj := fun i h st a ha => by
    obtain ⟨s1, s2, ⟨x, y, u, s3⟩, s4, s5, s6⟩ := st
    rcases six_of ha with e | e | e | e | e | e
    · subst e; exact ⟨_, s1, fun v k => nomatch k⟩
    · subst e; exact ⟨_, s2, fun v k => nomatch k⟩
    · subst e; exact ⟨_, s3, fun v k => nomatch k⟩
    · subst e; exact lit_live s4
    · subst e; exact lit_live s5
    · subst e; exact lit_live s6
  keep := fun i h h' st k => by
    obtain ⟨s1, s2, ⟨x, y, u, s3⟩, s4, s5, s6⟩ := st
    exact ⟨k z (by simp) _ s1, k TI (by simp) _ s2, ⟨x, y, u, k TO (by simp) _ s3⟩, s4.at fun o e => k j1 (by simp) o e, s5.at fun o e => k j2 (by simp) o e, s6.at fun o e => k j3 (by simp) o e⟩
  item := by
    intro X eP ew eK calm i pins s σ H E I hf st hg
    subst eP ew eK
    obtain ⟨s1, s2, ⟨x0, y0, u0, s3⟩, s4, s5, s6⟩ := st
    obtain ⟨ls, ms, ns, x, y, u, hp, hq, hr, hx, hy, hu⟩ := hg
    obtain ⟨its1, v1, g1, _⟩ := I.list hp
    obtain ⟨its2, v2, g2, _⟩ := I.list hq
    obtain ⟨its3, v3, g3, _⟩ := I.list hr
    obtain ⟨a1, k1, r1⟩ := v1.get hx
    obtain ⟨a2, k2, r2⟩ := v2.get hy
    obtain ⟨a3, k3, r3⟩ := v3.get hu
    have c1 : its1.toArray[i]? = some a1 := by simpa using k1
    have c2 : its2.toArray[i]? = some a2 := by simpa using k2
    have c3 : its3.toArray[i]? = some a3 := by simpa using k3
    have hd : X.A.in1.handled = none := I.ok.hd calm
    have zl : z < s.heap.objs.size := Heap.lt_size s1
    refine wpAny_pyNext_zipD3_item S (Draws.list hd j1 p m1 its1.toArray) (Draws.list hd j2 q m2 its2.toArray) (Draws.list hd j3 r m3 its3.toArray) s1 s2 s3 ⟨s4, g1.isList⟩ ⟨s5, g2.isList⟩ ⟨s6, g3.isList⟩
      (Array.getElem?_eq_some_iff.mp c1).1 (Array.getElem?_eq_some_iff.mp c2).1 (Array.getElem?_eq_some_iff.mp c3).1 fun b1 b2 b3 h1 tk e1 e2 e3 w1 w2 t1 t2 t3 hT hsz hk => ?_
    cases e1.symm.trans c1
    cases e2.symm.trans c2
    cases e3.symm.trans c3
    refine ⟨_, rfl, wpAny_letOwnedTupleGo_zip (s := { s with heap := h1, toks := tk }) w1 fun h2 w3 sb => ?_⟩
    have gT : IsTupOf3 h2 s.heap.objs.size a1 a2 a3 := (sb.2 _ (Nat.ne_of_gt zl)).trans hT
    have new : ObjOk X.prog X.w (upd H s.heap.objs.size (.tup [x, y, u])) h2 s.heap.objs.size (.tup [x, y, u]) :=
      ⟨by show 3 ≤ sizeLine; decide, [a1, a2, a3], .cons r1 (.cons r2 (.cons r3 .nil)), ⟨_, gT, rfl, _, rfl⟩⟩
    have I1 : Inv X pins σ (upd H s.heap.objs.size (.tup [x, y, u])) { s with heap := h2, toks := tk } :=
      I.turnedNew (ch := [z, TI, TO, j1, j2, j3]) (fun a o ha e => (sb.2 a fun k => ha (by simp [k])).trans (hk a o (fun k => ha (by simp [k])) (fun k => ha (by simp [k])) (fun k => ha (by simp [k])) (fun k => ha (by simp [k])) (fun k => ha (by simp [k])) e)) hf (Nat.le_refl _) new
    refine ⟨.ref s.heap.objs.size, _, I1, rfl, ⟨_, x, y, u, rfl, I.hok.fresh (Nat.le_refl _), rfl, fun l hl => ?_, fun l hl => ?_, fun l hl => ?_⟩, ⟨w3, ?_, ⟨a1, a2, a3, ?_⟩, ?_, ?_, ?_⟩, fun a ha => ?_⟩
    · rw [I.list_inj hl hp]; exact hx
    · rw [I.list_inj hl hq]; exact hy
    · rw [I.list_inj hl hr]; exact hu
    · exact (sb.2 _ S.TIz).trans (hk _ _ S.TIz S.TITO S.TIi1 S.TIi2 S.TIi3 s2)
    · exact (sb.2 _ S.TOz).trans w2
    · exact t1.1.at fun o e => (sb.2 _ S.zi1.symm).trans e
    · exact t2.1.at fun o e => (sb.2 _ S.zi2.symm).trans e
    · exact t3.1.at fun o e => (sb.2 _ S.zi3.symm).trans e
    · have al : a < s.heap.objs.size := by
        rcases six_of ha with e | e | e | e | e | e
        · rw [e]; exact zl
        · rw [e]; exact Heap.lt_size s2
        · rw [e]; exact Heap.lt_size s3
        · rw [e]; obtain ⟨_, k, _⟩ := lit_live s4; exact Heap.lt_size k
        · rw [e]; obtain ⟨_, k, _⟩ := lit_live s5; exact Heap.lt_size k
        · rw [e]; obtain ⟨_, k, _⟩ := lit_live s6; exact Heap.lt_size k
      rw [upd_ne (Nat.ne_of_lt al)]
      exact (hf a ha).1
  done := by
    intro X eP ew eK calm i pins s σ H E I hf st hg
    subst eP ew eK
    obtain ⟨s1, s2, ⟨x0, y0, u0, s3⟩, s4, s5, s6⟩ := st
    obtain ⟨ls, ms, ns, hp, hq, hr, l1, l2, l3⟩ := hg
    obtain ⟨its1, v1, g1, _⟩ := I.list hp
    obtain ⟨its2, v2, g2, _⟩ := I.list hq
    obtain ⟨its3, v3, g3, _⟩ := I.list hr
    have z1 : its1.toArray.size = i := by rw [← l1, v1.length]; rfl
    have z2 : its2.toArray.size = i := by rw [← l2, v2.length]; rfl
    have z3 : its3.toArray.size = i := by rw [← l3, v3.length]; rfl
    have hd : X.A.in1.handled = none := I.ok.hd calm
    exact wpAny_pyNext_zipD3_end S (Draws.list hd j1 p m1 its1.toArray) (Draws.list hd j2 q m2 its2.toArray) (Draws.list hd j3 r m3 its3.toArray) s1 s2 s3 ⟨s4, g1.isList⟩ ⟨s5, g2.isList⟩ ⟨s6, g3.isList⟩
      (Nat.le_of_eq z1.symm) (Nat.le_of_eq z2.symm) (Nat.le_of_eq z3.symm) (.inl z1.symm) fun h1 tk hk => ⟨rfl, I.turnedL (ch := [z, TI, TO, j1, j2, j3]) (fun a o ha e =>
        hk a o (fun k => ha (by simp [k])) (fun k => ha (by simp [k])) (fun k => ha (by simp [k])) (fun k => ha (by simp [k])) (fun k => ha (by simp [k])) e) hf⟩
  self := fun A i s Q E st h => wpAny_pyIter_zip st.1 h
def iZip3 (K : PySem.W.Frag) (ta : TA) : TI := fun σ H R => ta σ H fun vs H1 => ∃ p q r ls ms ns, vs = [.ref p, .ref q, .ref r] ∧ SqL K H1 p ls ∧ SqL K H1 q ms ∧ SqL K H1 r ns ∧ R (It3 K p q r) H1
theorem pi_zip3 {X : Cx} {e1 e2 e3 : Expr} {ta : TA} {fpos pos tpos : Pos} {elts : List Expr} {kk : Nat} (hg : Gl X "zip") (hm : X.mg "zip" = none) (ha : PA X [e1, e2, e3] ta)
    (hs : starEach [e1, e2, e3] X.env = (false, eval e1 X.env) :: starEach [e2, e3] X.env := by rfl) (hpl : (backTo pos (starEach [e2, e3] X.env)).any (·.1) = false := by rfl) :
    PI X (.Tuple elts kk tpos) (.Call (.Name "zip" fpos) [e1, e2, e3] [] pos) (iZip3 X.K ta) := by
  refine ⟨fun pins s σ H R I h => ?_⟩
  refine Call_ (ld_blt I hg hm PyProof.Rows.boot_zip (PyProof.Rows.callWith_type1 (thn (ha.run pos pins s σ H _ I h) fun us s1 ⟨vs, H1, I1, rs, k⟩ => ?_) hs hpl))
  obtain ⟨p, q, r, ls, ms, ns, ex, hp, hq, hr, k⟩ := k
  subst ex
  cases rs with
  | cons a rs =>
    cases rs with
    | cons b rs =>
      cases rs with
      | cons c rs =>
        cases rs
        cases a
        cases b
        cases c
        obtain ⟨its1, v1, g1, _⟩ := I1.list hp
        obtain ⟨its2, v2, g2, _⟩ := I1.list hq
        obtain ⟨its3, v3, g3, _⟩ := I1.list hr
        have lp : p < s1.heap.objs.size := g1.lt
        have lq : q < s1.heap.objs.size := g2.lt
        have lr : r < s1.heap.objs.size := g3.lt
        refine zip_begins3 (begins_list p its1.toArray) (begins_list q its2.toArray) (begins_list r its3.toArray) g1.isList g2.isList g3.isList fun h1 w1 w2 w3 t1 t2 t3 hsz hk => wpAny_pyIter_zip w1 ?_
        have I2 : Inv X pins σ H1 { s1 with heap := h1 } := I1.kept (t' := s1.toks) hk
        refine ⟨s1.heap.objs.size + 5, [s1.heap.objs.size + 5, s1.heap.objs.size + 3, s1.heap.objs.size + 4, s1.heap.objs.size, s1.heap.objs.size + 1, s1.heap.objs.size + 2], _, _, H1, rfl, I2,
          turn_zip3 (zip_sep3 (fp1 := [p]) (fp2 := [q]) (fp3 := [r]) (fun b hb => by rw [List.mem_singleton.mp hb]; exact lp) (fun b hb => by rw [List.mem_singleton.mp hb]; exact lq) (fun b hb => by rw [List.mem_singleton.mp hb]; exact lr))
            (Nat.ne_of_lt lp) (Nat.ne_of_lt (Nat.lt_succ_of_lt lq)) (Nat.ne_of_lt (Nat.lt_of_lt_of_le lr (Nat.le_add_right _ 2))), ⟨w1, w2, ⟨_, _, _, w3⟩, ⟨_, t1, rfl, rfl⟩, ⟨_, t2, rfl, rfl⟩, ⟨_, t3, rfl, rfl⟩⟩, fun a ha => ?_, k⟩
        have le : s1.heap.objs.size ≤ a := by
          rcases six_of ha with e | e | e | e | e | e
          · rw [e]; exact Nat.le_add_right _ _
          · rw [e]; exact Nat.le_add_right _ _
          · rw [e]; exact Nat.le_add_right _ _
          · rw [e]; exact Nat.le_refl _
          · rw [e]; exact Nat.le_add_right _ _
          · rw [e]; exact Nat.le_add_right _ _
        exact I1.fpOk le (I1.hok.fresh le)
section
variable {X : Cx}
theorem zip3K (K : PySem.W.Frag) {e1 e2 e3 : Expr} {ta : TA} {fpos pos tpos : Pos} {elts : List Expr} {kk : Nat} (hg : Gl X "zip") (hm : X.mg "zip" = none) (ha : PA X [e1, e2, e3] ta)
    (hs : starEach [e1, e2, e3] X.env = (false, eval e1 X.env) :: starEach [e2, e3] X.env := by rfl) (hpl : (backTo pos (starEach [e2, e3] X.env)).any (·.1) = false := by rfl) (hk : X.K = K := by rfl) :
    PI X (.Tuple elts kk tpos) (.Call (.Name "zip" fpos) [e1, e2, e3] [] pos) (iZip3 K ta) := hk ▸ pi_zip3 hg hm ha hs hpl
end
section
variable {K : PySem.W.Frag} {σ : L2.St} {H H' : Hp} {rs ss qs : List Rl} {it it' it3 : Nat → Rl} {n : Nat}
theorem src_zip3 {ta : TA} (h : EvA ta σ H [Lo rs, Lo ss, Lo qs]) (n1 : rs.length = n) (n2 : ss.length = n) (n3 : qs.length = n) (hit : ∀ i, i < rs.length → rs[i]? = some (it i)) (hit' : ∀ i, i < ss.length → ss[i]? = some (it' i)) (hit3 : ∀ i, i < qs.length → qs[i]? = some (it3 i)) :
    Src (iZip3 K ta) σ H n (fun i => To [it i, it' i, it3 i]) := fun H1 e R k =>
  h H1 e _ fun v H2 K2 g hv => by
    obtain ⟨x, y, z, rfl, hx, hy, hz⟩ := all3 hv
    obtain ⟨p1, us, rfl, hp1, hus⟩ := hx
    obtain ⟨p2, vs, rfl, hp2, hvs⟩ := hy
    obtain ⟨p3, ws, rfl, hp3, hws⟩ := hz
    have c1 : ∀ {H'}, Same K2 H' → SqL K H' p1 us := fun e => SqL.of (e _ _ hp1)
    have c2 : ∀ {H'}, Same K2 H' → SqL K H' p2 vs := fun e => SqL.of (e _ _ hp2)
    have c3 : ∀ {H'}, Same K2 H' → SqL K H' p3 ws := fun e => SqL.of (e _ _ hp3)
    have l1 := hus.length
    have l2 := hvs.length
    have l3 := hws.length
    refine ⟨p1, p2, p3, us, vs, ws, rfl, c1 g.le, c2 g.le, c3 g.le, k _ H2 K2 g ⟨fun i H' hi e => ⟨us, vs, ws, us[i], vs[i], ws[i], c1 e, c2 e, c3 e, List.getElem?_eq_getElem (by omega), List.getElem?_eq_getElem (by omega), List.getElem?_eq_getElem (by omega)⟩,
      fun H' e => ⟨us, vs, ws, c1 e, c2 e, c3 e, by omega, by omega, by omega⟩, fun i x H' H'' K' hi e e' y => ?_⟩⟩
    obtain ⟨T, a, b, c, rfl, hT, rfl, ha, hb, hc⟩ := y
    have ra := all_at hus hit (ha us (c1 (e.trans e')))
    have rb := all_at hvs hit' (hb vs (c2 (e.trans e')))
    have rc := all_at hws hit3 (hc ws (c3 (e.trans e')))
    have e2 := e.trans (same_new (o := .tup [a, b, c]) (e'.free hT))
    exact ⟨_, Gr.alloc e' hT, T, _, rfl, upd_same, (it i).mono e2 ra, (it' i).mono e2 rb, (it3 i).mono e2 rc, trivial⟩
theorem go_asg3 {te : TE} {i j k : Nat} {r s q : Rl} (h : Ev te σ H (To [r, s, q])) : Go (tAsg te (gThree K i j k)) σ H (fun σ2 K' => ∃ u v w, σ2 = ((σ.set i (some u)).set j (some v)).set k (some w) ∧ r.R u K' ∧ s.R v K' ∧ q.R w K') := fun D H1 e m => h H1 e _ fun v H2 K2 g hv => by
  obtain ⟨p, vs, rfl, hp, hvs⟩ := hv
  obtain ⟨x, y, z, rfl, hx, hy, hz⟩ := all3 hvs
  exact ⟨p, _, rfl, SqT.of (g.le _ _ hp), rfl, x, _, rfl, y, _, rfl, z, _, rfl, rfl, m _ H2 K2 g ⟨x, y, z, rfl, hx, hy, hz⟩⟩
end
end Dp

namespace Dp
open PySem PySem.Spec PyProof.Rows L2
def topS (i : Nat) : Stmt := PySem.Challenge.pw_dotpages_s03_do_three.main.body.getD i (.Pass ⟨0, 0, 0, 0⟩)
abbrev s___init__ : Stmt := inClass (topS 4) 0
abbrev s_mask : Stmt := inClass (topS 4) 1
abbrev s_words_in : Stmt := topS 5
abbrev s_is_side : Stmt := topS 6
abbrev s_are_sides : Stmt := topS 7
abbrev s_row_of : Stmt := topS 8
abbrev s_page_of : Stmt := topS 9
abbrev s_words_of : Stmt := topS 10
abbrev s_by_table : Stmt := topS 11
abbrev s_do_three : Stmt := topS 14
theorem sc___init__ : FnScope ["self", "wide", "rows"] ["self", "wide", "rows"] (defScope s___init__) := ⟨rfl, rfl, rfl, by decide +kernel, rfl, by decide +kernel, by decide +kernel⟩
theorem sc_mask : FnScope ["self"] ["self"] (defScope s_mask) := ⟨rfl, rfl, rfl, by decide +kernel, rfl, by decide +kernel, by decide +kernel⟩
theorem sc_words_in : FnScope ["wide"] ["wide"] (defScope s_words_in) := ⟨rfl, rfl, rfl, by decide +kernel, rfl, by decide +kernel, by decide +kernel⟩
theorem sc_is_side : FnScope ["number"] ["number"] (defScope s_is_side) := ⟨rfl, rfl, rfl, by decide +kernel, rfl, by decide +kernel, by decide +kernel⟩
theorem sc_are_sides : FnScope ["wide", "high"] ["wide", "high"] (defScope s_are_sides) := ⟨rfl, rfl, rfl, by decide +kernel, rfl, by decide +kernel, by decide +kernel⟩
theorem sc_row_of : FnScope ["words", "found", "word"] ["words"] (defScope s_row_of) := ⟨rfl, rfl, rfl, by decide +kernel, rfl, by decide +kernel, by decide +kernel⟩
theorem sc_page_of : FnScope ["wide", "words", "many", "mask", "at"] ["wide", "words"] (defScope s_page_of) := ⟨rfl, rfl, rfl, by decide +kernel, rfl, by decide +kernel, by decide +kernel⟩
theorem sc_words_of : FnScope ["page", "found", "row", "k"] ["page"] (defScope s_words_of) := ⟨rfl, rfl, rfl, by decide +kernel, rfl, by decide +kernel, by decide +kernel⟩
theorem sc_by_table : FnScope ["t", "x", "y", "z", "mask", "found", "k", "one", "two", "three"] ["t", "x", "y", "z", "mask"] (defScope s_by_table) := ⟨rfl, rfl, rfl, by decide +kernel, rfl, by decide +kernel, by decide +kernel⟩
theorem sc_do_three : FnScope ["t", "w", "h", "x", "y", "z", "one", "two", "three", "rows", "a", "b", "c"] ["t", "w", "h", "x", "y", "z"] (defScope s_do_three) := ⟨rfl, rfl, rfl, by decide +kernel, rfl, by decide +kernel, by decide +kernel⟩
section
variable {P : Program} {w : World} {K : PySem.W.Frag} {mg : Str → Option Value} {base : Heap} {C aCL : Addr}
theorem ok_init {f : Addr} {fd : FuncData} (F : Fun K "__init__" "Page.__init__" s___init__ f fd) (cl : Cls K C) (nW : NoAttr K C "wide") (nR : NoAttr K C "rows") : FnOk P w K mg base CX0 1 f fd ["self", "wide", "rows"] (spInit C) := by
  refine F.ok sc___init__ (fun vs H Q E h => ?_) (fun cdv A outer s H vs Q E hr h => ⟨_, pss_cons (ps_fld (pv 0) (pv 1) rfl) (pss_one (ps_fld (pv 0) (pv 2) rfl)), ?_⟩)
  · obtain ⟨p, dx, l, v, rfl, _⟩ := h
    rfl
  · obtain ⟨p, dx, l, v, rfl, hp, q⟩ := h
    refine ⟨_, rfl, _, rfl, p, C, dx, [], rfl, hp, cl, nW, by decide, ?_⟩
    refine ⟨_, rfl, _, rfl, p, C, dx, _, rfl, upd_same, cl, nR, show 1 < 1000 by decide, ?_⟩
    rw [upd_upd]
    exact q

def sp_mask (K : PySem.W.Frag) (C : Addr) : Sp := spOf (fun a : Nat × List Nat => match a with | (w, ns) => [Pg C w ns]) (fun a => a.1 ≤ 1000) (fun a => N (mask a.1))
theorem ok_mask {f : Addr} {fd : FuncData} (F : Fun K "mask" "Page.mask" s_mask f fd) (cl : Cls K C) (nW : NoAttr K C "wide") (nR : NoAttr K C "rows") : FnOk P w K mg base CX0 1 f fd ["self"] (sp_mask K C) := by
  refine fn_by F sc_mask (fun _ => rfl) fun cdv A outer s H E hr => ⟨_, (pss_one (ps_ret (pe_op op_sub (pe_op op_shlW pe_int (fldK K (pv 0) rfl)) pe_int))), ?_⟩
  rintro ⟨w, ns⟩ vs K0 hp ha
  obtain ⟨v1, rfl, h1⟩ := all1 ha
  have hp : w ≤ 1000 := hp
  exact bd_ret (ev_is (en_sub (a := 1 <<< w) (b := 1) (by rw [Nat.one_shiftLeft]; exact Nat.one_le_two_pow) (en_shl (n := 1) (by decide) (by omega) (cn 1) (ev_wide cl nW (vr h1))) (cn 1)) (by rw [Nat.one_shiftLeft]; rfl))

def sp_words_in (K : PySem.W.Frag) (C : Addr) : Sp := spOf (fun a : Nat => [N a]) (fun _ => True) (fun a => N (many a))
theorem ok_words_in {f : Addr} {fd : FuncData} (F : Fun K "words_in" "words_in" s_words_in f fd) (c_IN_WORD : ∃ t, mg "IN_WORD" = some (.int 32 t)) : FnOk P w K mg base CX0 1 f fd ["wide"] (sp_words_in K C) := by
  refine fn_by F sc_words_in (fun _ => rfl) fun cdv A outer s H E hr => ⟨_, (pss_one (ps_ret (pe_op op_fdivN (pe_op op_sub (pe_op op_add (pv 0) (pe_gl c_IN_WORD (by rfl))) pe_int) (pe_gl c_IN_WORD (by rfl))))), ?_⟩
  intro w vs K0 _ ha
  obtain ⟨v1, rfl, h1⟩ := all1 ha
  rw [n_of h1]
  exact bd_ret (en_fdiv (a := w + 32 - 1) (b := 32) (by decide) (by decide) (en_sub (by omega) (en_add (vn w) (cn 32)) (cn 1)) (cn 32))

def sp_is_side (K : PySem.W.Frag) (C : Addr) : Sp := spOf (fun a : Nat => [N a]) (fun _ => True) (fun a => Bo (side a))
theorem ok_is_side {f : Addr} {fd : FuncData} (F : Fun K "is_side" "is_side" s_is_side f fd) (c_MOST_SIDE : ∃ t, mg "MOST_SIDE" = some (.int 256 t)) : FnOk P w K mg base CX0 1 f fd ["number"] (sp_is_side K C) := by
  refine fn_by F sc_is_side (fun _ => rfl) fun cdv A outer s H E hr => ⟨_, (pss_one (ps_ret (pe_chain op_le op_le pe_int (pv 0) (pe_gl c_MOST_SIDE (by rfl))))), ?_⟩
  intro w vs K0 _ ha
  obtain ⟨v1, rfl, h1⟩ := all1 ha
  rw [n_of h1]
  refine bd_ret (ev_is (en_chain (p := fun i j => decide (i ≤ j)) (p' := fun i j => decide (i ≤ j)) (cn 1) (vn w) (cn 256)) (bo_congr ?_))
  unfold side
  rw [decide_eq_decide.mpr (show ((1 : Nat) : Int) ≤ (w : Int) ↔ 1 ≤ w by omega), decide_eq_decide.mpr (show (w : Int) ≤ ((256 : Nat) : Int) ↔ w ≤ 256 by omega)]

def sp_are_sides (K : PySem.W.Frag) (C : Addr) : Sp := spOf (fun a : Nat × Nat => [N a.1, N a.2]) (fun _ => True) (fun a => Bo (side a.1 && side a.2))
theorem ok_are_sides {f : Addr} {fd : FuncData} (F : Fun K "are_sides" "are_sides" s_are_sides f fd) (d_is_side : Cal P w K mg base 1 "is_side" ["number"] (sp_is_side K C)) : FnOk P w K mg base CX0 2 f fd ["wide", "high"] (sp_are_sides K C) := by
  refine fn_by F sc_are_sides (fun _ => rfl) fun cdv A outer s H E hr => ⟨_, (pss_one (ps_ret (pe_and (pe_cal d_is_side (hr.mono (by decide)) (by rfl) (pa_cons (pv 0) pa_nil)) (pe_one (pe_cal d_is_side (hr.mono (by decide)) (by rfl) (pa_cons (pv 1) pa_nil)))))), ?_⟩
  rintro ⟨w, h⟩ vs K0 _ ha
  obtain ⟨v1, v2, rfl, h1, h2⟩ := all2 ha
  rw [n_of h1, n_of h2]
  exact bd_ret (ev_andV (ev_call (a := w) (ea_cons (vn w) ea_nil) trivial) fun _ => ev_call (a := h) (ea_cons (vn h) ea_nil) trivial)

def sp_row_of (K : PySem.W.Frag) (C : Addr) : Sp := spOf (fun a : List Nat => [Ns a]) (fun a => a.length ≤ 1000) (fun a => N (rowOf a))
theorem ok_row_of {f : Addr} {fd : FuncData} (F : Fun K "row_of" "row_of" s_row_of f fd) (c_WORD : ∃ t, mg "WORD" = some (.int 4294967296 t)) : FnOk P w K mg base CX0 1 f fd ["words"] (sp_row_of K C) := by
  refine fn_by F sc_row_of (fun _ => rfl) fun cdv A outer s H E hr => ⟨_, (pss_cons (ps_set (i := 1) sc_row_of.nd rfl (Or.inl rfl) pe_int) (pss_cons (ps_for PassesOwn.never rfl (listK K (revK K (pv 0))) (pg_name (i := 2) sc_row_of.nd rfl (Or.inl rfl)) (pss_one (ps_set (i := 1) sc_row_of.nd rfl (Or.inl rfl) (pe_op op_add (pe_op op_mul (pv 1) (pe_gl c_WORD (by rfl))) (pv 2))))) (pss_one (ps_ret (pv 1))))), ?_⟩
  intro ws vs K0 hp ha
  have hp : ws.length ≤ 1000 := hp
  obtain ⟨v1, rfl, h1⟩ := all1 ha
  refine bd_asg (cn 0) fun v K1 e1 hv => ?_
  rw [n_of (r := 0) hv]
  have h1' := (Ns ws).mono e1 h1
  refine bd_seq (go_forN (src_list (ev_rev (vr h1')) (ns_rev_at ws)) (fun i σ _ => ∃ x, σ = [some v1, some (.int (rowOf (ws.drop (ws.length - i)) : Nat)), x])
    (fun _ _ _ _ _ h => h) (fun _ _ => ?_) fun i x σ' K2 hi e2 hP hx => ?_) fun σ2 K2 e2 hP => ?_
  · rw [Nat.sub_zero, List.drop_length]
    exact ⟨_, rfl⟩
  · obtain ⟨x', rfl⟩ := hP
    rw [List.length_reverse, List.length_map] at hi
    rw [n_of hx]
    refine go_imp (go_asg (en_add (en_mulR (b := 4294967296) (by decide) (vn (rowOf (ws.drop (ws.length - i)))) (cn 4294967296)) (vn (ws.getD (ws.length - 1 - i) 0)))) fun σ3 K3 e3 ⟨v, a, b⟩ => ?_
    subst a
    rw [n_of b]
    have e : rowOf (ws.drop (ws.length - (i + 1))) = rowOf (ws.drop (ws.length - i)) * 4294967296 + ws.getD (ws.length - 1 - i) 0 := by
      have hlt : ws.length - (i + 1) < ws.length := by omega
      rw [List.drop_eq_getElem_cons hlt, show ws.length - (i + 1) + 1 = ws.length - i by omega, List.getD_eq_getElem?_getD, show ws.length - 1 - i = ws.length - (i + 1) by omega, List.getElem?_eq_getElem hlt]
      rfl
    rw [e]
    exact ⟨_, rfl⟩
  · obtain ⟨x', rfl⟩ := hP
    rw [List.length_reverse, List.length_map, Nat.sub_self, List.drop_zero]
    exact bd_ret (vn (rowOf ws))

def sp_page_of (K : PySem.W.Frag) (C : Addr) : Sp := spOf (fun a : Nat × Nat × List Nat => match a with | (w, _, xs) => [N w, Sq K (zs xs)]) (fun a => match a with | (w, h, xs) => (1 ≤ w ∧ w ≤ 256 ∧ h ≤ 256) ∧ xs.length = h * many w) (fun a => match a with | (w, h, xs) => Pg C w (pageOf w h xs))
theorem ok_page_of {f : Addr} {fd : FuncData} (F : Fun K "page_of" "page_of" s_page_of f fd) (d_words_in : Cal P w K mg base 1 "words_in" ["wide"] (sp_words_in K C)) (mk : Mkr P w K mg base C "Page" ["self", "wide", "rows"] (spInit C)) (b_range : mg "range" = none) (b_len : mg "len" = none) (d_row_of : Cal P w K mg base 1 "row_of" ["words"] (sp_row_of K C)) : FnOk P w K mg base CX0 3 f fd ["wide", "words"] (sp_page_of K C) := by
  refine fn_by F sc_page_of (fun _ => rfl) fun cdv A outer s H E hr => ⟨_, (pss_cons (ps_set (i := 2) sc_page_of.nd rfl (Or.inr rfl) (pe_cal d_words_in (hr.mono (by decide)) (by rfl) (pa_cons (pv 0) pa_nil))) (pss_cons (ps_set (i := 3) sc_page_of.nd rfl (Or.inr rfl) (pe_op op_sub (pe_op op_shlW pe_int (pv 0)) pe_int)) (pss_one (ps_ret (pe_mkp mk (hr.mono (by decide)) (by rfl) (pa_cons (pv 0) (pa_cons (pe_lc (own := [("at", 4)]) (g := gName 4) (tt := tYes) rfl sc_page_of.nd (pi_range3 (by rfl) b_range (pa_cons pe_int (pa_cons (pe_callB (lenK K) (by rfl) b_len (by decide +kernel) (pa_cons (pv 1) pa_nil)) (pa_cons (pv 2) pa_nil)))) (blkOk_by (by kernel_rfl)) (fun _ _ _ _ _ => (pg_name (i := 4) sc_page_of.nd rfl (Or.inl rfl))) (fun _ _ _ _ _ => pts_nil) (fun _ _ _ _ _ => (pe_op op_and (pe_cal d_row_of (hr.mono (by decide)) (by rfl) (pa_cons (pe_slice (slK K) (pv 1) (po_some (pv 4)) (po_some (pe_op op_add (pv 4) (pv 2)))) pa_nil)) (pv 3)))) pa_nil))))))), ?_⟩
  rintro ⟨w, h, xs⟩ vs K0 hp ha
  obtain ⟨⟨w1, w2, hh⟩, hl⟩ := hp
  obtain ⟨v1, v2, rfl, h1, h2⟩ := all2 ha
  rw [n_of h1]
  have m1 : 1 ≤ many w := by
    unfold many
    omega
  have m2 : many w ≤ 1000 := by
    unfold many
    omega
  refine bd_asg (ev_call (a := w) (ea_cons (vn w) ea_nil) trivial) fun v K1 e1 hv => ?_
  rw [n_of hv]
  refine bd_asg (ev_is (en_sub (a := 1 <<< w) (b := 1) (by rw [Nat.one_shiftLeft]; exact Nat.one_le_two_pow) (en_shl (n := 1) (by decide) (by omega) (cn 1) (vn w)) (cn 1)) (show N (1 <<< w - 1) = N (mask w) by rw [Nat.one_shiftLeft]; rfl)) fun v K2 e2 hv => ?_
  rw [n_of hv]
  have h2' := (Sq K (zs xs)).mono (e1.trans e2) h2
  refine bd_ret (ev_make (ea_cons (vn w) (ea_cons (ev_is (ev_lc (os := fun i => N (rowOf ((xs.drop (i * many w)).take (many w)) &&& mask w)) (src_rng3 (n := h) (lo := 0) (hi := ((h * many w : Nat) : Int)) (c := (many w : Int)) (ea_cons (cn 0) (ea_cons (ev_is (en_lenQ (vr h2')) (by rw [zs_len, hl])) (ea_cons (vn (many w)) ea_nil))) (rgUp m1 m2 (by omega))) (by omega) (fun _ => rfl) fun i x K3 hi e3 hx => ?_) (lo_range rfl)) ea_nil)))
  have hx : x = .int ((i * many w : Nat) : Int) := by
    have hx : x = .int (0 + (i : Int) * (many w : Int)) := hx
    rw [hx, Int.zero_add, Int.natCast_mul]
  subst hx
  have h3 := (Sq K (zs xs)).mono e3 h2'
  refine en_and (ev_call (a := (xs.drop (i * many w)).take (many w)) (ea_cons (ev_is (ev_slNQ (lo := i * many w) (hi := i * many w + many w) (vr h3) (eo_some (vn (i * many w))) (eo_some (en_add (vn (i * many w)) (vn (many w))))) ?_) ea_nil) ?_) (vn (mask w))
  · rw [Nat.add_sub_cancel_left, zs_cut]
  · exact Nat.le_trans (by rw [List.length_take]; exact Nat.min_le_left _ _) m2

def sp_words_of (K : PySem.W.Frag) (C : Addr) : Sp := spOf (fun a : Nat × List Nat => match a with | (w, ns) => [Pg C w ns]) (fun a => a.1 ≤ 1000 ∧ a.2.length ≤ 1000) (fun a => match a with | (w, ns) => Ns (wordsOf w ns))
theorem ok_words_of {f : Addr} {fd : FuncData} (F : Fun K "words_of" "words_of" s_words_of f fd) (b_range : mg "range" = none) (d_words_in : Cal P w K mg base 1 "words_in" ["wide"] (sp_words_in K C)) (c_IN_WORD : ∃ t, mg "IN_WORD" = some (.int 32 t)) (c_WORD : ∃ t, mg "WORD" = some (.int 4294967296 t)) (cl : Cls K C) (nW : NoAttr K C "wide") (nR : NoAttr K C "rows") : FnOk P w K mg base CX0 2 f fd ["page"] (sp_words_of K C) := by
  refine fn_by F sc_words_of (fun _ => rfl) fun cdv A outer s H E hr => ⟨_, (pss_cons (ps_set (i := 1) sc_words_of.nd rfl (Or.inl rfl) (pe_lst pa_nil)) (pss_cons (ps_for PassesOwn.never rfl (listK K (fldK K (pv 0) rfl)) (pg_name (i := 2) sc_words_of.nd rfl (Or.inl rfl)) (pss_one (ps_for PassesOwn.never rfl (pi_range1 (by rfl) b_range (pa_cons (pe_cal d_words_in (hr.mono (by decide)) (by rfl) (pa_cons (fldK K (pv 0) rfl) pa_nil)) pa_nil)) (pg_name (i := 3) sc_words_of.nd rfl (Or.inl rfl)) (pss_one (ps_expr (pe_bm PySem.F.plainAttrs_list PySem.F.slot_list_append PySem.F.type_list_append mt_append (pv 1) (pa_cons (pe_op op_and (pe_op op_shr (pv 2) (pe_op op_mul (pe_gl c_IN_WORD (by rfl)) (pv 3))) (pe_op op_sub (pe_gl c_WORD (by rfl)) pe_int)) pa_nil))))))) (pss_one (ps_ret (pv 1))))), ?_⟩
  rintro ⟨w, ns⟩ vs K0 hp ha
  have hp : w ≤ 1000 ∧ ns.length ≤ 1000 := hp
  obtain ⟨v1, rfl, h1⟩ := all1 ha
  have m2 : many w ≤ 40 := by
    unfold many
    omega
  refine bd_coll (rs := []) (fun p σ _ rs => ∃ x y, σ = [some v1, some (.ref p), x, y] ∧ rs = (wordsOf w ns).map N) ea_nil (by decide) (fun p K1 e1 => ?_) (fun σ2 K2 p rs2 e2 hp2 hL => ?_) (fun _ _ _ _ _ _ h => h)
  · have h1' := (Pg C w ns).mono e1 h1
    refine gl_imp (gl_forN (src_list (ev_rows cl nR (vr h1')) (ns_at ns)) (fun i σ _ rs => ∃ x y, σ = [some v1, some (.ref p), x, y] ∧ rs = (wordsOf w (ns.take i)).map N) (fun _ _ _ _ _ _ h => h) (fun _ _ => ⟨_, _, rfl, by rw [List.take_zero]; rfl⟩) fun i x σ' K2 rs' hi e2 hP hx => ?_) fun σ2 K2 rs2 e2 hP => ?_
    · obtain ⟨x', y', rfl, rfl⟩ := hP
      rw [List.length_map] at hi
      rw [n_of hx]
      have h2 := (Pg C w ns).mono e2 h1'
      refine gl_imp (gl_forN (src_rng1 (n := many w) (ea_cons (ev_call (a := w) (ea_cons (ev_wide cl nW (vr h2)) ea_nil) trivial) ea_nil) (by omega)) (fun k σ _ rs => ∃ y, σ = [some v1, some (.ref p), some (.int (ns.getD i 0 : Nat)), y] ∧ rs = (wdTo w ns i k).map N) (fun _ _ _ _ _ _ h => h) (fun _ _ => ⟨_, rfl, by rw [wdTo_zero]⟩) fun k x σ' K3 rs' hk e3 hP hx => ?_) fun σ2 K3 rs2 e3 hP => ?_
      · obtain ⟨y', rfl, rfl⟩ := hP
        rw [n_of hx]
        refine gl_imp (gl_app (i := 1) rfl (en_and (en_shr (vn (ns.getD i 0)) (en_mulL (a := 32) (by decide) (cn 32) (vn k))) (en_sub (a := 4294967296) (b := 1) (by decide) (cn _) (cn 1))) ?_) fun σ2 K4 rs2 e4 ⟨a, b⟩ => ?_
        · rw [List.length_map]
          have q := wdTo_len w ns i k
          have q2 : ns.length * many w ≤ 1000 * 40 := Nat.mul_le_mul hp.2 m2
          omega
        · subst a b
          exact ⟨_, rfl, by rw [wdTo_succ, List.map_append]; rfl⟩
      · obtain ⟨y', rfl, rfl⟩ := hP
        exact ⟨_, _, rfl, by rw [wdTo_all hi]⟩
    · obtain ⟨x', y', rfl, rfl⟩ := hP
      rw [List.length_map, List.take_length]
      exact ⟨_, _, rfl, rfl⟩
  · obtain ⟨x', y', rfl, rfl⟩ := hL
    exact bd_ret (vr hp2)

def sp_by_table (K : PySem.W.Frag) (C : Addr) : Sp := spOf (fun a : Nat × Nat × Nat × Nat × Nat => match a with | (t, x, y, z, m) => [N t, N x, N y, N z, N m]) (fun _ => True) (fun a => match a with | (t, x, y, z, m) => N (btab t x y z m 8))
theorem ok_by_table {f : Addr} {fd : FuncData} (F : Fun K "by_table" "by_table" s_by_table f fd) (b_range : mg "range" = none) : FnOk P w K mg base CX0 1 f fd ["t", "x", "y", "z", "mask"] (sp_by_table K C) := by
  refine fn_by F sc_by_table (fun _ => rfl) fun cdv A outer s H E hr => ⟨_, (pss_cons (ps_set (i := 5) sc_by_table.nd rfl (Or.inl rfl) pe_int) (pss_cons (ps_for PassesOwn.never rfl (pi_range1 (by rfl) b_range (pa_cons pe_int pa_nil)) (pg_name (i := 6) sc_by_table.nd rfl (Or.inl rfl)) (pss_one (ps_if (pt_cmpR op_eq (pe_op op_and (pe_op op_shr (pv 0) (pv 6)) pe_int) pe_int (nomark _)) (pss_cons (ps_set (i := 7) sc_by_table.nd rfl (Or.inl rfl) (pe_ifExp (pt_cmpR op_gt (pe_op op_and (pv 6) pe_int) pe_int (nomark _)) (pv 1) (pe_op op_xor (pv 1) (pv 4)))) (pss_cons (ps_set (i := 8) sc_by_table.nd rfl (Or.inl rfl) (pe_ifExp (pt_cmpR op_gt (pe_op op_and (pv 6) pe_int) pe_int (nomark _)) (pv 2) (pe_op op_xor (pv 2) (pv 4)))) (pss_cons (ps_set (i := 9) sc_by_table.nd rfl (Or.inl rfl) (pe_ifExp (pt_cmpR op_gt (pe_op op_and (pv 6) pe_int) pe_int (nomark _)) (pv 3) (pe_op op_xor (pv 3) (pv 4)))) (pss_one (ps_set (i := 5) sc_by_table.nd rfl (Or.inl rfl) (pe_op op_or (pv 5) (pe_op op_and (pe_op op_and (pv 7) (pv 8)) (pv 9)))))))) pss_nil))) (pss_one (ps_ret (pv 5))))), ?_⟩
  rintro ⟨t, x, y, z, m⟩ vs K0 _ ha
  obtain ⟨v1, v2, v3, v4, v5, rfl, h1, h2, h3, h4, h5⟩ := all5 ha
  rw [n_of h1, n_of h2, n_of h3, n_of h4, n_of h5]
  refine bd_asg (cn 0) fun v K1 e1 hv => ?_
  rw [n_of (r := 0) hv]
  refine bd_seq (go_forN (src_rng1 (n := 8) (ea_cons (cn 8) ea_nil) (by decide)) (fun i σ _ => ∃ k one two three, σ = [some (.int (t : Int)), some (.int (x : Int)), some (.int (y : Int)), some (.int (z : Int)), some (.int (m : Int)), some (.int (btab t x y z m i : Nat)), k, one, two, three])
    (fun _ _ _ _ _ h => h) (fun _ _ => ⟨_, _, _, _, rfl⟩) fun i v σ' K2 hi e2 hP hv => ?_) fun σ2 K2 e2 hP => ?_
  · obtain ⟨k', one, two, three, rfl⟩ := hP
    rw [n_of hv]
    refine go_if (et_test (en_eq (en_and (en_shr (vn t) (vn i)) (cn 1)) (cn 1))) (fun K3 e3 hb => ?_) (fun K3 e3 hb => ?_)
    · refine go_seq (go_asg (s := N (if decide (0 < i &&& 4) = true then x else x ^^^ m)) (ev_if (et_test (en_gt (en_and (vn i) (cn 4)) (cn 0))) (fun h => by rw [h]; exact vn x) (fun h => by rw [h]; exact en_xor (vn x) (vn m)))) fun σ3 K4 e4 ⟨v, a, b⟩ => ?_
      subst a
      rw [n_of b]
      refine go_seq (go_asg (s := N (if decide (0 < i &&& 2) = true then y else y ^^^ m)) (ev_if (et_test (en_gt (en_and (vn i) (cn 2)) (cn 0))) (fun h => by rw [h]; exact vn y) (fun h => by rw [h]; exact en_xor (vn y) (vn m)))) fun σ3 K5 e5 ⟨v, a, b⟩ => ?_
      subst a
      rw [n_of b]
      refine go_seq (go_asg (s := N (if decide (0 < i &&& 1) = true then z else z ^^^ m)) (ev_if (et_test (en_gt (en_and (vn i) (cn 1)) (cn 0))) (fun h => by rw [h]; exact vn z) (fun h => by rw [h]; exact en_xor (vn z) (vn m)))) fun σ3 K6 e6 ⟨v, a, b⟩ => ?_
      subst a
      rw [n_of b]
      refine go_imp (go_asg (en_or (vn (btab t x y z m i)) (en_and (en_and (vn (if decide (0 < i &&& 4) = true then x else x ^^^ m)) (vn (if decide (0 < i &&& 2) = true then y else y ^^^ m))) (vn (if decide (0 < i &&& 1) = true then z else z ^^^ m))))) fun σ4 K7 e7 ⟨v, a, b⟩ => ?_
      subst a
      rw [n_of b, btab_succ, btStep, if_pos hb]
      exact ⟨_, _, _, _, rfl⟩
    · refine go_next ?_
      rw [btab_succ, btStep, hb]
      exact ⟨_, _, _, _, rfl⟩
  · obtain ⟨k', one, two, three, rfl⟩ := hP
    exact bd_ret (vn (btab t x y z m 8))

def sp_do_three (K : PySem.W.Frag) (C : Addr) : Sp := spOf (fun a : Nat × Nat × Nat × List Nat × List Nat × List Nat => match a with | (t, w, h, xs, ys, ws) => [N t, N w, N h, Sq K (zs xs), Sq K (zs ys), Sq K (zs ws)]) (fun a => match a with | (t, w, h, xs, ys, ws) => three_bad t w h = false → xs.length = h * many w ∧ ys.length = h * many w ∧ ws.length = h * many w) (fun a => match a with | (t, w, h, xs, ys, ws) => Lo ((three_m t w h xs ys ws).map I))
theorem ok_do_three {f : Addr} {fd : FuncData} (F : Fun K "do_three" "do_three" s_do_three f fd) (d_are_sides : Cal P w K mg base 2 "are_sides" ["wide", "high"] (sp_are_sides K C)) (c_OUT_OF_RANGE : ∃ t, mg "OUT_OF_RANGE" = some (.int (-2) t)) (d_page_of : Cal P w K mg base 3 "page_of" ["wide", "words"] (sp_page_of K C)) (b_zip : mg "zip" = none) (d_by_table : Cal P w K mg base 1 "by_table" ["t", "x", "y", "z", "mask"] (sp_by_table K C)) (m_mask : Mtd P w K mg base 1 C "mask" ["self"] (sp_mask K C)) (d_words_of : Cal P w K mg base 2 "words_of" ["page"] (sp_words_of K C)) (mk : Mkr P w K mg base C "Page" ["self", "wide", "rows"] (spInit C)) (cl : Cls K C) (nW : NoAttr K C "wide") (nR : NoAttr K C "rows") : FnOk P w K mg base CX0 4 f fd ["t", "w", "h", "x", "y", "z"] (sp_do_three K C) := by
  refine fn_by F sc_do_three (fun _ => rfl) fun cdv A outer s H E hr => ⟨_, (pss_cons (ps_if (PW.pt (pw_or (pt_cmpR op_gt (pv 0) pe_int (nomark _)) (pw_or1 (pt_not (pt_val (pe_cal d_are_sides (hr.mono (by decide)) (by rfl) (pa_cons (pv 1) (pa_cons (pv 2) pa_nil)))))))) (pss_one (ps_ret (pe_lst (pa_cons (pe_gl c_OUT_OF_RANGE (by rfl)) pa_nil)))) pss_nil) (pss_cons (ps_asg (pe_tup (pa_cons (pe_cal d_page_of (hr.mono (by decide)) (by rfl) (pa_cons (pv 1) (pa_cons (pv 3) pa_nil))) (pa_cons (pe_cal d_page_of (hr.mono (by decide)) (by rfl) (pa_cons (pv 1) (pa_cons (pv 4) pa_nil))) (pa_cons (pe_cal d_page_of (hr.mono (by decide)) (by rfl) (pa_cons (pv 1) (pa_cons (pv 5) pa_nil))) pa_nil)))) (ptupK K rfl (pgs_cons (pg_name (i := 6) sc_do_three.nd rfl (Or.inr rfl)) (pgs_cons (pg_name (i := 7) sc_do_three.nd rfl (Or.inl rfl)) (pgs_cons (pg_name (i := 8) sc_do_three.nd rfl (Or.inl rfl)) pgs_nil))))) (pss_cons (ps_setLc (i := 9) (own := [("a", 10), ("b", 11), ("c", 12)]) (g := gThree K 10 11 12) (tt := tYes) rfl sc_do_three.nd rfl rfl (sw_true rfl rfl rfl (by decide +kernel)) (zip3K K (by rfl) b_zip (pa_cons (fldK K (pv 6) rfl) (pa_cons (fldK K (pv 7) rfl) (pa_cons (fldK K (pv 8) rfl) pa_nil)))) (blkOk_by (by kernel_rfl)) (fun _ _ _ _ _ => (ptupK K rfl (pgs_cons (pg_name (i := 10) sc_do_three.nd rfl (Or.inl rfl)) (pgs_cons (pg_name (i := 11) sc_do_three.nd rfl (Or.inl rfl)) (pgs_cons (pg_name (i := 12) sc_do_three.nd rfl (Or.inl rfl)) pgs_nil))))) (fun _ _ _ _ _ => pts_nil) (fun _ _ _ _ _ => (pe_cal d_by_table (hr.mono (by decide)) (by rfl) (pa_cons (pv 0) (pa_cons (pv 10) (pa_cons (pv 11) (pa_cons (pv 12) (pa_cons (pe_mth0 m_mask (hr.mono (by decide)) (pv 6)) pa_nil)))))))) (pss_one (ps_ret (pe_op op_cat (pe_lst (pa_cons pe_int pa_nil)) (pe_cal d_words_of (hr.mono (by decide)) (by rfl) (pa_cons (pe_mkp mk (hr.mono (by decide)) (by rfl) (pa_cons (pv 1) (pa_cons (pv 9) pa_nil))) pa_nil)))))))), ?_⟩
  rintro ⟨t, w, h, xs, ys, ws⟩ vs K0 hp ha
  have hp : three_bad t w h = false → xs.length = h * many w ∧ ys.length = h * many w ∧ ws.length = h * many w := hp
  obtain ⟨v1, v2, v3, v4, v5, v6, rfl, h1, h2, h3, h4, h5, h6⟩ := all6 ha
  rw [n_of h1, n_of h2, n_of h3]
  refine bd_if (b := three_bad t w h) (et_or (et_test (en_gt (vn t) (cn 255))) fun _ => et_not (et_B (ev_call (a := (w, h)) (ea_cons (vn w) (ea_cons (vn h) ea_nil)) trivial))) (fun hb => ?_) (fun hb => ?_)
  · show Bd _ _ _ (Lo ((three_m t w h xs ys ws).map I))
    rw [show three_m t w h xs ys ws = [-2] from wrd_yes hb]
    exact bd_refuse
  · show Bd _ _ _ (Lo ((three_m t w h xs ys ws).map I))
    rw [show three_m t w h xs ys ws = 0 :: zs (wordsOf w (threeN t w h (pageOf w h xs) (pageOf w h ys) (pageOf w h ws))) from wrd_no hb]
    obtain ⟨hx1, hw, hh⟩ := three_no hb
    obtain ⟨q1, q2, q3⟩ := hp hb
    refine bd_seq (go_asg3 (ev_tup (ea_cons (ev_call (a := (w, h, xs)) (ea_cons (vn w) (ea_cons (vr h4) ea_nil)) ⟨⟨hw.1, hw.2, hh.2⟩, q1⟩) (ea_cons (ev_call (a := (w, h, ys)) (ea_cons (vn w) (ea_cons (vr h5) ea_nil)) ⟨⟨hw.1, hw.2, hh.2⟩, q2⟩) (ea_cons (ev_call (a := (w, h, ws)) (ea_cons (vn w) (ea_cons (vr h6) ea_nil)) ⟨⟨hw.1, hw.2, hh.2⟩, q3⟩) ea_nil))) (show 3 ≤ 100000 by decide))) fun σ2 K1 e1 ⟨p1, p2, p3, hs, r1, r2, r3⟩ => ?_
    subst hs
    have l1 := pageOf_len w h xs
    have l2 := pageOf_len w h ys
    have l3 := pageOf_len w h ws
    refine bd_asg (s := Ns (threeN t w h (pageOf w h xs) (pageOf w h ys) (pageOf w h ws))) (ev_is (ev_lc3 (os := fun r => N (btab t ((pageOf w h xs).getD r 0) ((pageOf w h ys).getD r 0) ((pageOf w h ws).getD r 0) (mask w) 8)) (src_zip3 (n := h) (ea_cons (ev_rows cl nR (vr r1)) (ea_cons (ev_rows cl nR (vr r2)) (ea_cons (ev_rows cl nR (vr r3)) ea_nil))) (by rw [List.length_map, l1]) (by rw [List.length_map, l2]) (by rw [List.length_map, l3]) (ns_at _) (ns_at _) (ns_at _)) (by omega) (fun _ _ _ => rfl) fun r x y z K2 hi e2 hx hy hz => ?_) (lo_range rfl)) fun v K2 e2 hv => ?_
    · rw [n_of hx, n_of hy, n_of hz]
      exact ev_call (a := (t, (pageOf w h xs).getD r 0, (pageOf w h ys).getD r 0, (pageOf w h ws).getD r 0, mask w)) (ea_cons (vn t) (ea_cons (vn ((pageOf w h xs).getD r 0)) (ea_cons (vn ((pageOf w h ys).getD r 0)) (ea_cons (vn ((pageOf w h ws).getD r 0)) (ea_cons (ev_meth (pgF_mask w) (a := (w, pageOf w h xs)) rfl (vr ((Pg C w (pageOf w h xs)).mono e2 r1)) ea_nil (show w ≤ 1000 by omega)) ea_nil))))) trivial
    · exact bd_ret (ev_words (ev_call (a := (w, threeN t w h (pageOf w h xs) (pageOf w h ys) (pageOf w h ws))) (ea_cons (ev_make (ea_cons (vn w) (ea_cons (vr hv) ea_nil))) ea_nil) ⟨by omega, by rw [threeN_len]; omega⟩) (words_le (by omega) (by rw [threeN_len]; omega)))

end
theorem all_mk {P : Program} {w : World} {K : PySem.W.Frag} {h : Heap} {mg : Str → Option Value} {fa C f0 f1 f2 f3 f4 f5 f6 f7 f8 f9 : Addr} (X : K.In h) (G : h.Ns mainGlobals mg) (hfa : mg "do_three" = some (.ref fa))
    {od0 an0 od1 an1 od2 an2 od3 an3 od4 an4 od5 an5 od6 an6 od7 an7 od8 an8 od9 an9 : Option Addr} {sl0 sl1 sl2 sl3 sl4 sl5 sl6 sl7 sl8 sl9 : Array (Option Value)} {oc0 kV0 dc0 pm0 cd0 ct0 oc1 kV1 dc1 pm1 cd1 ct1 oc2 kV2 dc2 pm2 cd2 ct2 oc3 kV3 dc3 pm3 cd3 ct3 oc4 kV4 dc4 pm4 cd4 ct4 oc5 kV5 dc5 pm5 cd5 ct5 oc6 kV6 dc6 pm6 cd6 ct6 oc7 kV7 dc7 pm7 cd7 ct7 oc8 kV8 dc8 pm8 cd8 ct8 oc9 kV9 dc9 pm9 cd9 ct9 : Value} {tc_IN_WORD tc_MOST_SIDE tc_WORD tc_OUT_OF_RANGE : Tok}
    (aC : PySem.W.nsIn K mainGlobals "Page" = some (some (.ref C)))
    (pg : PySem.W.plainGet K C Str.empty = true)
    (hd : PySem.W.hasDictIn K C = true)
    (po : PySem.W.plainOver K C = true)
    (sa : PySem.W.findIn K (.ref C) "__setattr__" = some (some (.builtin "object.__setattr__")))
    (mK : PySem.W.makesIn K C = true)
    (kc : PySem.W.keepIn K (.ref C) = true)
    (nW0 : PySem.W.findIn K (.ref C) "wide" = some none)
    (nR0 : PySem.W.findIn K (.ref C) "rows" = some none)
    (a0 : PySem.W.findIn K (.ref C) "__init__" = some (some (.ref f0)))
    (i0 : PySem.W.isFn K (.ref f0) = true)
    (l0 : K.lookup f0 = some ⟨oc0, od0, .func (PySem.W.fnOf "__init__" "Page.__init__" (defArgs s___init__) (defBody s___init__) (defScope s___init__) .none kV0 dc0 pm0 an0 cd0 ct0), sl0⟩)
    (q0 : PySem.W.codeIn K cd0 "Page.__init__" = true)
    (k0 : PySem.W.keepIn K (.ref f0) = true)
    (a1 : PySem.W.findIn K (.ref C) "mask" = some (some (.ref f1)))
    (i1 : PySem.W.isFn K (.ref f1) = true)
    (l1 : K.lookup f1 = some ⟨oc1, od1, .func (PySem.W.fnOf "mask" "Page.mask" (defArgs s_mask) (defBody s_mask) (defScope s_mask) .none kV1 dc1 pm1 an1 cd1 ct1), sl1⟩)
    (q1 : PySem.W.codeIn K cd1 "Page.mask" = true)
    (k1 : PySem.W.keepIn K (.ref f1) = true)
    (a2 : PySem.W.nsIn K mainGlobals "words_in" = some (some (.ref f2)))
    (l2 : K.lookup f2 = some ⟨oc2, od2, .func (PySem.W.fnOf "words_in" "words_in" (defArgs s_words_in) (defBody s_words_in) (defScope s_words_in) .none kV2 dc2 pm2 an2 cd2 ct2), sl2⟩)
    (q2 : PySem.W.codeIn K cd2 "words_in" = true)
    (k2 : PySem.W.keepIn K (.ref f2) = true)
    (a3 : PySem.W.nsIn K mainGlobals "is_side" = some (some (.ref f3)))
    (l3 : K.lookup f3 = some ⟨oc3, od3, .func (PySem.W.fnOf "is_side" "is_side" (defArgs s_is_side) (defBody s_is_side) (defScope s_is_side) .none kV3 dc3 pm3 an3 cd3 ct3), sl3⟩)
    (q3 : PySem.W.codeIn K cd3 "is_side" = true)
    (k3 : PySem.W.keepIn K (.ref f3) = true)
    (a4 : PySem.W.nsIn K mainGlobals "are_sides" = some (some (.ref f4)))
    (l4 : K.lookup f4 = some ⟨oc4, od4, .func (PySem.W.fnOf "are_sides" "are_sides" (defArgs s_are_sides) (defBody s_are_sides) (defScope s_are_sides) .none kV4 dc4 pm4 an4 cd4 ct4), sl4⟩)
    (q4 : PySem.W.codeIn K cd4 "are_sides" = true)
    (k4 : PySem.W.keepIn K (.ref f4) = true)
    (a5 : PySem.W.nsIn K mainGlobals "row_of" = some (some (.ref f5)))
    (l5 : K.lookup f5 = some ⟨oc5, od5, .func (PySem.W.fnOf "row_of" "row_of" (defArgs s_row_of) (defBody s_row_of) (defScope s_row_of) .none kV5 dc5 pm5 an5 cd5 ct5), sl5⟩)
    (q5 : PySem.W.codeIn K cd5 "row_of" = true)
    (k5 : PySem.W.keepIn K (.ref f5) = true)
    (a6 : PySem.W.nsIn K mainGlobals "page_of" = some (some (.ref f6)))
    (l6 : K.lookup f6 = some ⟨oc6, od6, .func (PySem.W.fnOf "page_of" "page_of" (defArgs s_page_of) (defBody s_page_of) (defScope s_page_of) .none kV6 dc6 pm6 an6 cd6 ct6), sl6⟩)
    (q6 : PySem.W.codeIn K cd6 "page_of" = true)
    (k6 : PySem.W.keepIn K (.ref f6) = true)
    (a7 : PySem.W.nsIn K mainGlobals "words_of" = some (some (.ref f7)))
    (l7 : K.lookup f7 = some ⟨oc7, od7, .func (PySem.W.fnOf "words_of" "words_of" (defArgs s_words_of) (defBody s_words_of) (defScope s_words_of) .none kV7 dc7 pm7 an7 cd7 ct7), sl7⟩)
    (q7 : PySem.W.codeIn K cd7 "words_of" = true)
    (k7 : PySem.W.keepIn K (.ref f7) = true)
    (a8 : PySem.W.nsIn K mainGlobals "by_table" = some (some (.ref f8)))
    (l8 : K.lookup f8 = some ⟨oc8, od8, .func (PySem.W.fnOf "by_table" "by_table" (defArgs s_by_table) (defBody s_by_table) (defScope s_by_table) .none kV8 dc8 pm8 an8 cd8 ct8), sl8⟩)
    (q8 : PySem.W.codeIn K cd8 "by_table" = true)
    (k8 : PySem.W.keepIn K (.ref f8) = true)
    (a9 : PySem.W.nsIn K mainGlobals "do_three" = some (some (.ref f9)))
    (l9 : K.lookup f9 = some ⟨oc9, od9, .func (PySem.W.fnOf "do_three" "do_three" (defArgs s_do_three) (defBody s_do_three) (defScope s_do_three) .none kV9 dc9 pm9 an9 cd9 ct9), sl9⟩)
    (q9 : PySem.W.codeIn K cd9 "do_three" = true)
    (k9 : PySem.W.keepIn K (.ref f9) = true)
    (gc_IN_WORD : PySem.W.nsIn K mainGlobals "IN_WORD" = some (some (.int 32 tc_IN_WORD)))
    (gc_MOST_SIDE : PySem.W.nsIn K mainGlobals "MOST_SIDE" = some (some (.int 256 tc_MOST_SIDE)))
    (gc_WORD : PySem.W.nsIn K mainGlobals "WORD" = some (some (.int 4294967296 tc_WORD)))
    (zb_range : PySem.W.nsIn K mainGlobals "range" = some none)
    (zb_len : PySem.W.nsIn K mainGlobals "len" = some none)
    (gc_OUT_OF_RANGE : PySem.W.nsIn K mainGlobals "OUT_OF_RANGE" = some (some (.int (-2) tc_OUT_OF_RANGE)))
    (zb_zip : PySem.W.nsIn K mainGlobals "zip" = some none) :
    ∃ fd : FuncData, (∀ (s : Shared) (us : List Value), us.length = (["t", "w", "h", "x", "y", "z"] : List Str).length → BindsTo s fd ⟨us, []⟩ ((["t", "w", "h", "x", "y", "z"] : List Str).zip us)) ∧ ∀ base : Heap, K.In base → base.Ns mainGlobals mg → FnOk P w K mg base CX0 4 fa fd ["t", "w", "h", "x", "y", "z"] (sp_do_three K 0) := by
  have e := hfa.symm.trans (PySem.W.mg_of X G a9)
  cases e
  have F0 := fun_mk (st := s___init__) l0 q0 k0
  have b0 := F0.binds (ps := ["self", "wide", "rows"]) fun _ _ _ _ _ _ us hl => match us, hl with | [_, _, _], _ => rfl
  have F1 := fun_mk (st := s_mask) l1 q1 k1
  have b1 := F1.binds (ps := ["self"]) fun _ _ _ _ _ _ us hl => match us, hl with | [_], _ => rfl
  have F2 := fun_mk (st := s_words_in) l2 q2 k2
  have b2 := F2.binds (ps := ["wide"]) fun _ _ _ _ _ _ us hl => match us, hl with | [_], _ => rfl
  have F3 := fun_mk (st := s_is_side) l3 q3 k3
  have b3 := F3.binds (ps := ["number"]) fun _ _ _ _ _ _ us hl => match us, hl with | [_], _ => rfl
  have F4 := fun_mk (st := s_are_sides) l4 q4 k4
  have b4 := F4.binds (ps := ["wide", "high"]) fun _ _ _ _ _ _ us hl => match us, hl with | [_, _], _ => rfl
  have F5 := fun_mk (st := s_row_of) l5 q5 k5
  have b5 := F5.binds (ps := ["words"]) fun _ _ _ _ _ _ us hl => match us, hl with | [_], _ => rfl
  have F6 := fun_mk (st := s_page_of) l6 q6 k6
  have b6 := F6.binds (ps := ["wide", "words"]) fun _ _ _ _ _ _ us hl => match us, hl with | [_, _], _ => rfl
  have F7 := fun_mk (st := s_words_of) l7 q7 k7
  have b7 := F7.binds (ps := ["page"]) fun _ _ _ _ _ _ us hl => match us, hl with | [_], _ => rfl
  have F8 := fun_mk (st := s_by_table) l8 q8 k8
  have b8 := F8.binds (ps := ["t", "x", "y", "z", "mask"]) fun _ _ _ _ _ _ us hl => match us, hl with | [_, _, _, _, _], _ => rfl
  have F9 := fun_mk (st := s_do_three) l9 q9 k9
  refine ⟨PySem.W.fnOf "do_three" "do_three" (defArgs s_do_three) (defBody s_do_three) (defScope s_do_three) .none kV9 dc9 pm9 an9 cd9 ct9, fun s us hu => match us, hu with | [_, _, _, _, _, _], _ => .of_eq rfl, fun base _ _ => ?_⟩
  have cl : Cls K C := ⟨pg, hd, po, sa⟩
  have nW : NoAttr K C "wide" := nW0
  have nR : NoAttr K C "rows" := nR0
  have c_IN_WORD : ∃ t, mg "IN_WORD" = some (.int 32 t) := ⟨_, PySem.W.mg_of X G gc_IN_WORD⟩
  have c_MOST_SIDE : ∃ t, mg "MOST_SIDE" = some (.int 256 t) := ⟨_, PySem.W.mg_of X G gc_MOST_SIDE⟩
  have c_WORD : ∃ t, mg "WORD" = some (.int 4294967296 t) := ⟨_, PySem.W.mg_of X G gc_WORD⟩
  have b_range : mg "range" = none := PySem.W.mg_none_of X G zb_range
  have b_len : mg "len" = none := PySem.W.mg_none_of X G zb_len
  have c_OUT_OF_RANGE : ∃ t, mg "OUT_OF_RANGE" = some (.int (-2) t) := ⟨_, PySem.W.mg_of X G gc_OUT_OF_RANGE⟩
  have b_zip : mg "zip" = none := PySem.W.mg_none_of X G zb_zip
  have mk : Mkr P w K mg base C "Page" ["self", "wide", "rows"] (spInit C) := ⟨_, _, ok_init F0 cl nW nR, ⟨mK, a0, i0, kc⟩, b0, PySem.W.mg_of X G aC⟩
  have m_mask : Mtd P w K mg base 1 C "mask" ["self"] (sp_mask K C) := ⟨_, _, ok_mask F1 cl nW nR, ⟨a1, i1, k1⟩, b1, cl⟩
  have d_words_in : Cal P w K mg base 1 "words_in" ["wide"] (sp_words_in K C) := ⟨_, _, ok_words_in F2 c_IN_WORD, PySem.W.mg_of X G a2, F2.kp, b2⟩
  have d_is_side : Cal P w K mg base 1 "is_side" ["number"] (sp_is_side K C) := ⟨_, _, ok_is_side F3 c_MOST_SIDE, PySem.W.mg_of X G a3, F3.kp, b3⟩
  have d_are_sides : Cal P w K mg base 2 "are_sides" ["wide", "high"] (sp_are_sides K C) := ⟨_, _, ok_are_sides F4 d_is_side, PySem.W.mg_of X G a4, F4.kp, b4⟩
  have d_row_of : Cal P w K mg base 1 "row_of" ["words"] (sp_row_of K C) := ⟨_, _, ok_row_of F5 c_WORD, PySem.W.mg_of X G a5, F5.kp, b5⟩
  have d_page_of : Cal P w K mg base 3 "page_of" ["wide", "words"] (sp_page_of K C) := ⟨_, _, ok_page_of F6 d_words_in mk b_range b_len d_row_of, PySem.W.mg_of X G a6, F6.kp, b6⟩
  have d_words_of : Cal P w K mg base 2 "words_of" ["page"] (sp_words_of K C) := ⟨_, _, ok_words_of F7 b_range d_words_in c_IN_WORD c_WORD cl nW nR, PySem.W.mg_of X G a7, F7.kp, b7⟩
  have d_by_table : Cal P w K mg base 1 "by_table" ["t", "x", "y", "z", "mask"] (sp_by_table K C) := ⟨_, _, ok_by_table F8 b_range, PySem.W.mg_of X G a8, F8.kp, b8⟩
  exact ok_do_three (C := C) F9 d_are_sides c_OUT_OF_RANGE d_page_of b_zip d_by_table m_mask d_words_of mk cl nW nR

end Dp
open PySem PySem.W PyProof.Rows
set_option maxRecDepth 100000 in
set_option maxHeartbeats 8000000 in
theorem PySem.Challenge.cw_dotpages_s03_do_three_holds : PySem.Challenge.rw_dotpages_s03_do_three.Holds := by
  w_on; k_headS; (case hw => exact ⟨[.int 0, .int 0, .int 0, .list [], .list [], .list []], by decide +kernel, by decide +kernel⟩)
  k_fillS
  refine L2.walk_specK (r := PySem.Challenge.rw_dotpages_s03_do_three) (k := 4) (CX := L2.CX0) (ps := ["t", "w", "h", "x", "y", "z"]) (sp := fun K => Dp.sp_do_three K 0) (by decide +kernel) rfl rfl ⟨rfl, by decide, by decide⟩ (fun w h Y => PySem.W.kIn_of Y) ?F ?S (fun _ _ _ _ z => z)
  case F =>
    intro w mg fa h Y KX G hmg
    refine' Dp.all_mk KX G hmg ?aC ?pg ?hd ?po ?sa ?mK ?kc ?nW0 ?nR0 ?a0 ?i0 ?l0 ?q0 ?k0 ?a1 ?i1 ?l1 ?q1 ?k1 ?a2 ?l2 ?q2 ?k2 ?a3 ?l3 ?q3 ?k3 ?a4 ?l4 ?q4 ?k4 ?a5 ?l5 ?q5 ?k5 ?a6 ?l6 ?q6 ?k6 ?a7 ?l7 ?q7 ?k7 ?a8 ?l8 ?q8 ?k8 ?a9 ?l9 ?q9 ?k9 ?gc_IN_WORD ?gc_MOST_SIDE ?gc_WORD ?zb_range ?zb_len ?gc_OUT_OF_RANGE ?zb_zip
    (case aC => k_is)
    (case pg => k_is)
    (case hd => k_is)
    (case po => k_is)
    (case sa => k_is)
    (case mK => k_is)
    (case kc => k_is)
    (case nW0 => k_is)
    (case nR0 => k_is)
    (case a0 => k_is)
    (case i0 => k_is)
    (case l0 => k_is)
    (case q0 => k_is)
    (case k0 => k_is)
    (case a1 => k_is)
    (case i1 => k_is)
    (case l1 => k_is)
    (case q1 => k_is)
    (case k1 => k_is)
    (case a2 => k_is)
    (case l2 => k_is)
    (case q2 => k_is)
    (case k2 => k_is)
    (case a3 => k_is)
    (case l3 => k_is)
    (case q3 => k_is)
    (case k3 => k_is)
    (case a4 => k_is)
    (case l4 => k_is)
    (case q4 => k_is)
    (case k4 => k_is)
    (case a5 => k_is)
    (case l5 => k_is)
    (case q5 => k_is)
    (case k5 => k_is)
    (case a6 => k_is)
    (case l6 => k_is)
    (case q6 => k_is)
    (case k6 => k_is)
    (case a7 => k_is)
    (case l7 => k_is)
    (case q7 => k_is)
    (case k7 => k_is)
    (case a8 => k_is)
    (case l8 => k_is)
    (case q8 => k_is)
    (case k8 => k_is)
    (case a9 => k_is)
    (case l9 => k_is)
    (case q9 => k_is)
    (case k9 => k_is)
    (case gc_IN_WORD => k_is)
    (case gc_MOST_SIDE => k_is)
    (case gc_WORD => k_is)
    (case zb_range => k_is)
    (case zb_len => k_is)
    (case gc_OUT_OF_RANGE => k_is)
    (case zb_zip => k_is)
  case S =>
    intro K H xs a hO hwi hask hx
    obtain ⟨t, w, h, x, y, z, u⟩ := a
    obtain ⟨hp, e, p_t, p_w, p_h, p_x, p_y, p_z⟩ := Dp.law_do_three (t := t) (w := w) (h := h) (x := x) (y := y) (z := z) hask
    cases hx with | cons h_t hx =>
    cases hx with | cons h_w hx =>
    cases hx with | cons h_h hx =>
    cases hx with | cons h_x hx =>
    cases hx with | cons h_y hx =>
    cases hx with | cons h_z hx =>
    cases hx
    cases h_t
    cases h_w
    cases h_h
    cases h_x with | lst s_x d_x =>
    have e_x := L2.ints_dw x _ d_x
    subst e_x
    cases h_y with | lst s_y d_y =>
    have e_y := L2.ints_dw y _ d_y
    subst e_y
    cases h_z with | lst s_z d_z =>
    have e_z := L2.ints_dw z _ d_z
    subst e_z
    refine ⟨(t.toNat, w.toNat, h.toNat, Sh56Neutral.nats x, Sh56Neutral.nats y, Sh56Neutral.nats z), hp, H, L2.Same.refl _, ⟨Dp.n_int p_t, Dp.n_int p_w, Dp.n_int p_h, Dp.sq_int p_x s_x, Dp.sq_int p_y s_y, Dp.sq_int p_z s_z, trivial⟩, fun v H2 K2 g hr => ?_⟩
    have q := Dp.dw_list (K := K) (l := Dp.three_m (Int.toNat t) (Int.toNat w) (Int.toNat h) (Sh56Neutral.nats x) (Sh56Neutral.nats y) (Sh56Neutral.nats z)) hr g.le
    rw [← e] at q
    exact q
#print axioms PySem.Challenge.cw_dotpages_s03_do_three_holds

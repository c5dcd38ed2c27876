/- Contracts of functions of the program and of the reference, and plain lemmas on what they compute: a part of the proof of the law FnCallTextsTold. No condition. -/
import Derived.Test.YtmjlhikflhbdaaaJFnCallTextsTold3
import Derived.Test.YtmjlhikflhbdaaaRows
import Derived.WalkKit
import Derived.ProofKit
import Derived.OpenShut
import Derived.ShutString
import Derived.ChangeOld
import Derived.Below
import Derived.SizedLaws
import Derived.Test.YtmjlhikflhbdaaaV0
import Derived.Test.YtmjlhikflhbdaaaShortV
namespace Go.Proofs.Ytmjlhikflhbdaaa.Pure
open Go.RowKit Go.Proofs.Ytmjlhikflhbdaaa.PA Go.Proofs.YtmjlhikflhbdaaaW.PrintWords Go.Proofs.YtmjlhikflhbdaaaW.PrintLast Go.Proofs.YtmjlhikflhbdaaaW.PrintMore Go.Proofs.Ytmjlhikflhbdaaa.Kit
set_option linter.unusedVariables false
set_option linter.unusedSimpArgs false
theorem rdW (l : List S103) (i : Nat) (hi : i < l.length) : rd_T103 l (i : Int) = l[i] := by simp [rd_T103, hi]
theorem sizeData (s : ByteArray) : s.size = s.data.toList.length := by
 show s.data.size = _
 rw [Array.length_toList]
theorem toList_loop (bs : ByteArray) : ∀ (d i : Nat) (r : List UInt8), i + d = bs.size → ByteArray.toList.loop bs i r = r.reverse ++ bs.data.toList.drop i := by
 have hsz := sizeData bs
 intro d
 induction d with
 | zero =>
  intro i r h
  rw [ByteArray.toList.loop, if_neg (by omega), List.drop_of_length_le (by omega)]
  simp
 | succ d ih =>
  intro i r h
  rw [ByteArray.toList.loop, if_pos (by omega), ih (i + 1) _ (by omega)]
  have hi : i < bs.data.toList.length := by omega
  rw [List.drop_eq_getElem_cons hi]
  have hb : i < bs.data.size := by rw [← Array.length_toList]; exact hi
  have hg : bs.get! i = bs.data[i] := by
   show bs.data[i]! = _
   exact getElem!_pos bs.data i hb
  rw [List.reverse_cons, List.append_assoc, hg]
  simp
theorem toList_data (bs : ByteArray) : bs.toList = bs.data.toList := by
 unfold ByteArray.toList
 rw [toList_loop bs bs.size 0 [] (by omega)]
 simp
theorem toList_inj {a b : ByteArray} (h : a.toList = b.toList) : a = b := by
 rw [toList_data, toList_data] at h
 exact ByteArray.ext (Array.ext' h)
theorem bt_byte (t : ByteArray) (i : Nat) (h : i < t.size) : bt t (i : Int) = ((t[i]'h).toNat : Int) := by
 unfold bt
 rw [dif_pos (by simpa using h)]
 simp
theorem ext1 (t : ByteArray) (i : Nat) (h : i < t.size) : t.extract i (i + 1) = strOfNums [bt t (i : Int)] := by
 apply ByteArray.ext
 apply Array.ext'
 have hi : i < t.data.toList.length := by rw [← sizeData]; exact h
 rw [ByteArray.data_extract, Array.toList_extract, List.extract_eq_take_drop, List.drop_eq_getElem_cons hi, bt_byte t i h]
 simp [strOfNums]
 rfl
theorem extCat (t : ByteArray) (i j k : Nat) (h1 : i ≤ j) (h2 : j ≤ k) : t.extract i j ++ t.extract j k = t.extract i k := by
 rw [ByteArray.extract_append_extract, Nat.min_eq_left h1, Nat.max_eq_right h2]
theorem extAll (t : ByteArray) : t.extract 0 t.size = t := ByteArray.extract_zero_size
theorem bits_nat (op : BinOp) (k : IntKind) (x y : Int) : Go.bits op k x y = match op with
 | .and => k.wrap ((BitVec.ofInt k.bits x &&& BitVec.ofInt k.bits y).toNat : Int)
 | .or => k.wrap ((BitVec.ofInt k.bits x ||| BitVec.ofInt k.bits y).toNat : Int)
 | .xor => k.wrap ((BitVec.ofInt k.bits x ^^^ BitVec.ofInt k.bits y).toNat : Int)
 | .andNot => k.wrap ((BitVec.ofInt k.bits x &&& ~~~BitVec.ofInt k.bits y).toNat : Int)
 | _ => Go.bits op k x y := by
 cases op <;> rfl
theorem ofInt_nat64 (n : Nat) (h : n < 18446744073709551616) : (BitVec.ofInt 64 (n : Int)).toNat = n := by
 rw [BitVec.toNat_ofInt]; omega
theorem wrap_i64 (x : Int) : IntKind.wrap .i64 x = wrap64 x := i64_w x
def four4 (n : Int) : ByteArray := strOfNums [(n / 16777216) % 256, (n / 65536) % 256, (n / 256) % 256, n % 256]
theorem four4_size (n : Int) : (four4 n).size = 4 := by simp [four4, strOfNums_size]
theorem impl_four4 (n : Int) : impl_four.f n = some (four4 n) := rfl
theorem spec_four4 (n : Int) : spec_l06Four.f n = some (four4 n) := rfl
def fourV (t : ByteArray) (i : Int) : Int := (Go.bits .or .i64 (Go.bits .or .i64 (Go.bits .or .i64 (wrap64 ((wrap64 (bt t i)) * 16777216)) (wrap64 ((wrap64 (bt t (i + 1))) * 65536))) (wrap64 ((wrap64 (bt t (i + 2))) * 256))) (wrap64 (bt t (i + 3))))
theorem fourAt_impl (t : ByteArray) (i : Int) (h0 : 0 ≤ i) (h1 : i + 4 ≤ (t.size : Int)) (hb : t.size ≤ 140737488351232) : impl_fourAt.f t i = some (fourV t i) := by
 unfold impl_fourAt.f
 rw [w64 (x := i + 1) (by omega) (by omega), w64 (x := i + 2) (by omega) (by omega), w64 (x := i + 3) (by omega) (by omega),
  if_pos (by omega), if_pos (by omega), if_pos (by omega), if_pos (by omega), if_pos (by omega), if_pos (by omega), if_pos (by omega), if_pos (by omega)]
 rfl
theorem fourAt_spec (t : ByteArray) (i : Int) (h0 : 0 ≤ i) (h1 : i + 4 ≤ (t.size : Int)) (hb : t.size ≤ 140737488351232) : spec_l17Four.f t i = some (fourV t i) := by
 unfold spec_l17Four.f
 rw [w64 (x := i + 1) (by omega) (by omega), w64 (x := i + 2) (by omega) (by omega), w64 (x := i + 3) (by omega) (by omega),
  if_pos (by omega), if_pos (by omega), if_pos (by omega), if_pos (by omega), if_pos (by omega), if_pos (by omega), if_pos (by omega), if_pos (by omega)]
 rfl
def dg (n : Nat) : ByteArray := ⟨#[UInt8.ofNat (48 + n % 10)]⟩
def decz (n : Nat) : ByteArray := if h : n = 0 then ⟨#[]⟩ else decz (n / 10) ++ dg n
 termination_by n
 decreasing_by omega
def dec (n : Nat) : ByteArray := if n = 0 then dg 0 else decz n
theorem dg_size (n : Nat) : (dg n).size = 1 := rfl
theorem decz_zero : decz 0 = ⟨#[]⟩ := by rw [decz]; rfl
theorem decz_step (n : Nat) (h : n ≠ 0) : decz n = decz (n / 10) ++ dg n := by rw [decz, dif_neg h]
theorem dec_small (n : Nat) (h : n < 10) : dec n = dg n := by
 unfold dec
 by_cases h0 : n = 0
 ·rw [if_pos h0, h0]
 ·rw [if_neg h0, decz_step n h0, show n / 10 = 0 by omega, decz_zero]
  exact ByteArray.empty_append
theorem dec_step (n : Nat) (h : 9 < n) : dec n = dec (n / 10) ++ dg n := by
 unfold dec
 rw [if_neg (by omega), if_neg (by omega), decz_step n (by omega)]
theorem dec_size_lt : ∀ (k n : Nat), 0 < k → n < 10 ^ k → (dec n).size ≤ k := by
 intro k
 induction k with
 | zero => intro n h; omega
 | succ k ih =>
  intro n _ hn
  by_cases h : n < 10
  ·rw [dec_small n h, dg_size]; omega
  ·rw [dec_step n (by omega), sizeApp, dg_size]
   have hk : 0 < k := by
    rcases Nat.eq_zero_or_pos k with h0 | h0
    ·subst h0; omega
    ·exact h0
   have := ih (n / 10) hk (by rw [Nat.pow_succ] at hn; omega)
   omega
theorem dec_size (n : Nat) (h : n ≤ 9223372036854775808) : (dec n).size ≤ 19 := dec_size_lt 19 n (by omega) (by omega)
theorem dg_of (x : Int) (h0 : 0 ≤ x) (h1 : x ≤ 9) : strOfNums [(48 + x) % 256] = dg x.toNat := by
 unfold strOfNums dg
 rw [show ((48 + x) % 256) = 48 + x by omega]
 simp only [List.map_cons, List.map_nil]
 rw [show (48 + x).toNat = 48 + x.toNat % 10 by omega]
theorem fig_at (d : Nat) (h : d < 10) : (⟨#[48, 49, 50, 51, 52, 53, 54, 55, 56, 57, 97, 98, 99, 100, 101, 102]⟩ : ByteArray).extract d (d + 1) = dg d := by
 have : d = 0 ∨ d = 1 ∨ d = 2 ∨ d = 3 ∨ d = 4 ∨ d = 5 ∨ d = 6 ∨ d = 7 ∨ d = 8 ∨ d = 9 := by omega
 rcases this with rfl | rfl | rfl | rfl | rfl | rfl | rfl | rfl | rfl | rfl <;> decide
def sgn (x : Int) (s : ByteArray) : ByteArray := if x < 0 then ⟨#[45]⟩ ++ s else s
theorem tmod_abs (m : Int) (h0 : -9223372036854775808 ≤ m) (h1 : m ≤ 9223372036854775807) : mx (Int.tmod m 10) (wrap64 (-(Int.tmod m 10))) = ((m.natAbs % 10 : Nat) : Int) := by
 rcases Int.natAbs_eq m with h | h
 ·rw [h, Int.tmod_eq_emod_of_nonneg (by omega), w64 (by omega) (by omega)]
  unfold mx
  split <;> omega
 ·rw [h, Int.neg_tmod, Int.tmod_eq_emod_of_nonneg (by omega), w64 (by omega) (by omega)]
  unfold mx
  split <;> omega
theorem tdiv_abs (m : Int) : (Int.tdiv m 10).natAbs = m.natAbs / 10 := by
 rw [Int.natAbs_tdiv]
 rfl
theorem ev_impl_dec : ∀ (j : Nat) (x m : Int) (out : ByteArray), m.natAbs < 10 ^ j → -9223372036854775808 ≤ m → m ≤ 9223372036854775807 → out.size + j ≤ 1000 →
 Ev (fun k => impl_Decimal.l0 k x out m) (sgn x (decz m.natAbs ++ out)) := by
 intro j
 induction j with
 | zero =>
  intro x m out hm h0 h1 hs
  refine evSucc ?_
  simp only [impl_Decimal.l0]
  obtain rfl : m = 0 := by rw [Nat.pow_zero] at hm; omega
  refine evPos rfl ?_
  rw [show (0 : Int).natAbs = 0 from rfl, decz_zero, show (⟨#[]⟩ : ByteArray) ++ out = out from ByteArray.empty_append]
  unfold sgn
  by_cases hx : x < 0
  ·exact evPos hx (evPos (by omega) (evEq (Ev.now _) (if_pos hx).symm))
  ·exact evNeg hx (evEq (Ev.now _) (if_neg hx).symm)
 | succ j ih =>
  intro x m out hm h0 h1 hs
  by_cases h : m = 0
  ·subst h
   exact ih x 0 out (Nat.pow_pos (by omega)) h0 h1 (by omega)
  ·refine evSucc ?_
   simp only [impl_Decimal.l0]
   refine evNeg h ?_
   rw [tmod_abs m h0 h1, w64 (x := ((m.natAbs % 10 : Nat) : Int) + 1) (by omega) (by omega)]
   refine evPos (by omega) (evPos (by omega) (evPos (by omega) ?_))
   rw [ci, Int.toNat_natCast, Int.toNat_natCast, fig_at _ (by omega)]
   rw [show dg (m.natAbs % 10) = dg m.natAbs by unfold dg; rw [Nat.mod_mod]]
   have ht := tdiv_abs m
   refine evPos (by rw [dg_size]; omega) ?_
   rw [w64 (by omega) (by omega)]
   have := ih x (Int.tdiv m 10) (dg m.natAbs ++ out) (by rw [ht, Nat.div_lt_iff_lt_mul (by omega), ← Nat.pow_succ]; exact hm) (by omega) (by omega) (by rw [sizeApp, dg_size]; omega)
   rw [ht, ← ByteArray.append_assoc, ← decz_step m.natAbs (by omega)] at this
   exact this
def decI (x : Int) : ByteArray := if x < 0 then ⟨#[45]⟩ ++ dec x.natAbs else dec x.natAbs
theorem ev_impl_Decimal (x : Int) (h0 : -9223372036854775808 ≤ x) (h1 : x ≤ 9223372036854775807) : Ev (fun k => impl_Decimal.f k x) (decI x) := by
 simp only [impl_Decimal.f]
 by_cases h : x = 0
 ·refine evPos h (evEq (Ev.now _) ?_)
  subst h
  rfl
 ·refine evNeg h (evEq (ev_impl_dec 19 x x _ (by omega) h0 h1 (by show 0 + 19 ≤ _; omega)) ?_)
  rw [show decz x.natAbs ++ (⟨#[]⟩ : ByteArray) = decz x.natAbs from ByteArray.append_empty]
  unfold sgn decI dec
  rw [if_neg (by omega : ¬ x.natAbs = 0)]
def halfB (n : Int) : Bool := decide (0 ≤ n) && decide (n ≤ 4294967295)
theorem impl_half (n : Int) : impl_HalfOk.f n = some (halfB n) := by
 unfold impl_HalfOk.f impl_within.f halfB
 by_cases h : n ≥ 0
 ·simp [h]
 ·simp [h]
  try omega
def wideB (w : S103) : Bool := halfB w.f0 && halfB w.f1
theorem impl_wide (w : S103) : impl_WideOk.f w.f0 w.f1 = some (wideB w) := by
 unfold impl_WideOk.f wideB
 rw [impl_half, impl_half]
 cases halfB w.f0 <;> simp
def callB (a b : Int) (l : List S103) : Bool := l.all wideB && (halfB a && (halfB b && (l.length == 3)))
theorem ev_impl_CallOk (a b : Int) (l : List S103) (hl : l.length ≤ 1048576) : Ev (fun k => impl_CallOk.f k a b l) (callB a b l) := by
 unfold callB
 by_cases hall : l.all wideB = true
 ·have key := evUp (r := (halfB a && (halfB b && (l.length == 3)))) l.length (fun i k => impl_CallOk.l0 k l (l.length : Int) (i : Int) a b l) ?_ ?_
  ·rw [hall]; exact key
  ·intro i hi ih
   refine evSucc ?_
   simp only [impl_CallOk.l0]
   refine evPos (by omega) (evPos (by omega) (evPos (by omega) ?_))
   rw [rdW l i hi, impl_wide, w64 (by omega) (by omega), ci]
   simp only [Option.bind_some]
   exact evPos (by simpa using List.all_eq_true.1 hall _ (List.getElem_mem hi)) ih
  ·refine evSucc ?_
   simp only [impl_CallOk.l0]
   refine evNeg (by omega) ?_
   rw [impl_half, impl_half]
   simp only [Option.bind_some]
   cases halfB a
   ·exact evNeg (by simp) (Ev.now _)
   ·refine evPos rfl ?_
    cases halfB b
    ·exact evNeg (by simp) (Ev.now _)
    ·refine evPos rfl (evEq (Ev.now _) ?_)
     simp only [Bool.true_and]
     rw [Bool.eq_iff_iff]
     simp
     try omega
 ·have h0 : l.all wideB = false := by simpa using hall
  rw [h0]
  obtain ⟨x, hx, hb⟩ := List.all_eq_false.1 h0
  obtain ⟨j, hj, rfl⟩ := List.getElem_of_mem hx
  have key : ∀ d i, i + d = j → Ev (fun k => impl_CallOk.l0 k l (l.length : Int) (i : Int) a b l) false := by
   intro d
   induction d with
   | zero =>
    intro i hi
    refine evSucc ?_
    simp only [impl_CallOk.l0]
    refine evPos (by omega) (evPos (by omega) (evPos (by omega) ?_))
    obtain rfl : i = j := by omega
    rw [rdW l i hj, impl_wide]
    simp only [Option.bind_some]
    exact evNeg (by simpa using hb) (Ev.now _)
   | succ d ih =>
    intro i hi
    refine evSucc ?_
    simp only [impl_CallOk.l0]
    have hi' : i < l.length := by omega
    refine evPos (by omega) (evPos (by omega) (evPos (by omega) ?_))
    rw [rdW l i hi', impl_wide, w64 (by omega) (by omega), ci]
    simp only [Option.bind_some]
    by_cases hw : wideB l[i] = true
    ·exact evPos hw (ih (i + 1) (by omega))
    ·exact evNeg hw (Ev.now _)
  exact key j 0 (by omega)
def figB (c : Int) : Bool := decide (48 ≤ c) && decide (c ≤ 57)
def figs (s : ByteArray) : Nat → Bool
 | 0 => true
 | i + 1 => figs s i && figB (bt s (i : Int))
def valN (s : ByteArray) : Nat → Int
 | 0 => 0
 | i + 1 => 10 * valN s i + (bt s (i : Int) - 48)
def numV (s : ByteArray) : Option Int := if 1 ≤ s.size ∧ s.size ≤ 10 ∧ figs s s.size = true ∧ ¬ (1 < s.size ∧ bt s 0 = 48) ∧ valN s s.size ≤ 4294967295 then some (valN s s.size) else none
theorem figB_iff (c : Int) : figB c = true ↔ 48 ≤ c ∧ c ≤ 57 := by unfold figB; rw [Bool.and_eq_true, decide_eq_true_eq, decide_eq_true_eq]
theorem figs_at (s : ByteArray) : ∀ n i, figs s n = true → i < n → figB (bt s (i : Int)) = true := by
 intro n
 induction n with
 | zero => intro i _ h; omega
 | succ n ih =>
  intro i h hi
  unfold figs at h
  rw [Bool.and_eq_true] at h
  by_cases e : i = n
  ·subst e; exact h.2
  ·exact ih i h.1 (by omega)
theorem figs_low (s : ByteArray) : ∀ d n, figs s (n + d) = true → figs s n = true := by
 intro d
 induction d with
 | zero => intro n h; exact h
 | succ d ih =>
  intro n h
  rw [show n + (d + 1) = (n + d) + 1 by omega] at h
  unfold figs at h
  rw [Bool.and_eq_true] at h
  exact ih n h.1
theorem valN_rng (s : ByteArray) : ∀ n, figs s n = true → 0 ≤ valN s n ∧ (valN s n).natAbs < 10 ^ n := by
 intro n
 induction n with
 | zero => intro _; exact ⟨Int.le_refl _, by show (0 : Int).natAbs < 10 ^ 0; decide⟩
 | succ n ih =>
  intro h
  have hb := (figB_iff _).1 (figs_at s (n + 1) n h (by omega))
  obtain ⟨h0, h1⟩ := ih (figs_low s 1 n h)
  unfold valN
  rw [Nat.pow_succ]
  omega
theorem valN_lead (s : ByteArray) (hz : bt s ((0 : Nat) : Int) = 48) : ∀ m, figs s (m + 1) = true → (valN s (m + 1)).natAbs < 10 ^ m := by
 intro m
 induction m with
 | zero => intro _; unfold valN valN; rw [hz]; decide
 | succ m ih =>
  intro h
  have hb := (figB_iff _).1 (figs_at s (m + 1 + 1) (m + 1) h (by omega))
  have hl := figs_low s 1 (m + 1) h
  have h1 := ih hl
  have h0 := (valN_rng s _ hl).1
  rw [valN.eq_def]
  simp only
  rw [Nat.pow_succ]
  omega
theorem valN_small (s : ByteArray) (n : Nat) (hn : n ≤ 10) (h : figs s n = true) : 0 ≤ valN s n ∧ valN s n < 10000000000 := by
 obtain ⟨h0, h1⟩ := valN_rng s n h
 have : 10 ^ n ≤ 10 ^ 10 := Nat.pow_le_pow_right (by omega) hn
 omega
theorem valN_pos (s : ByteArray) (hz : bt s ((0 : Nat) : Int) ≠ 48) : ∀ m, figs s (m + 1) = true → 1 ≤ valN s (m + 1) := by
 intro m
 induction m with
 | zero =>
  intro h
  have hb := (figB_iff _).1 (figs_at s (0 + 1) 0 h (by omega))
  unfold valN valN
  omega
 | succ m ih =>
  intro h
  have hb := (figB_iff _).1 (figs_at s (m + 1 + 1) (m + 1) h (by omega))
  have h1 := ih (figs_low s 1 (m + 1) h)
  rw [valN.eq_def]
  simp only
  omega
theorem dg_bt (s : ByteArray) (i : Nat) (hi : i < s.size) (hb : 48 ≤ bt s (i : Int) ∧ bt s (i : Int) ≤ 57) (v : Nat) : s.extract i (i + 1) = dg (10 * v + (bt s (i : Int) - 48).toNat) := by
 have h1 := dg_of (bt s (i : Int) - 48) (by omega) (by omega)
 rw [show (48 + (bt s (i : Int) - 48)) % 256 = bt s (i : Int) by omega] at h1
 rw [ext1 s i hi, h1]
 unfold dg
 rw [show (10 * v + (bt s (i : Int) - 48).toNat) % 10 = (bt s (i : Int) - 48).toNat % 10 by omega]
theorem dec_val (s : ByteArray) (hz : bt s ((0 : Nat) : Int) ≠ 48) : ∀ m, m + 1 ≤ s.size → figs s (m + 1) = true → dec (valN s (m + 1)).natAbs = s.extract 0 (m + 1) := by
 intro m
 induction m with
 | zero =>
  intro hm h
  have hb := (figB_iff _).1 (figs_at s (0 + 1) 0 h (by omega))
  have hv : (valN s (0 + 1)).natAbs = 10 * 0 + (bt s ((0 : Nat) : Int) - 48).toNat := by unfold valN valN; omega
  rw [hv, dec_small _ (by omega), ← dg_bt s 0 (by omega) hb 0]
 | succ m ih =>
  intro hm h
  have hb := (figB_iff _).1 (figs_at s (m + 1 + 1) (m + 1) h (by omega))
  have hl := figs_low s 1 (m + 1) h
  have hp := valN_pos s hz m hl
  have hv : (valN s (m + 1 + 1)).natAbs = 10 * (valN s (m + 1)).natAbs + (bt s ((m + 1 : Nat) : Int) - 48).toNat := by
   rw [valN.eq_def]
   simp only
   omega
  rw [hv, dec_step _ (by omega), show (10 * (valN s (m + 1)).natAbs + (bt s ((m + 1 : Nat) : Int) - 48).toNat) / 10 = (valN s (m + 1)).natAbs by omega, ih (by omega) hl, ← dg_bt s (m + 1) (by omega) hb _]
  exact extCat s 0 (m + 1) (m + 1 + 1) (by omega) (by omega)
theorem decI_val (s : ByteArray) (h1 : 1 ≤ s.size) (h2 : s.size ≤ 10) (hf : figs s s.size = true) : decI (valN s s.size) = s ↔ ¬ (1 < s.size ∧ bt s 0 = 48) := by
 obtain ⟨m, hm⟩ : ∃ m, s.size = m + 1 := ⟨s.size - 1, by omega⟩
 have h0 := (valN_rng s _ hf).1
 have hd : decI (valN s s.size) = dec (valN s s.size).natAbs := by unfold decI; rw [if_neg (by omega)]
 rw [hd]
 by_cases hz : bt s 0 = 48
 ·have hz' : bt s ((0 : Nat) : Int) = 48 := hz
  by_cases hs : 1 < s.size
  ·have hlt := valN_lead s hz' m (by rw [← hm]; exact hf)
   have hsz := dec_size_lt m _ (by omega) hlt
   refine ⟨fun e => ?_, fun n => absurd ⟨hs, hz⟩ n⟩
   rw [hm] at e
   rw [e] at hsz
   omega
  ·obtain rfl : m = 0 := by omega
   refine ⟨fun _ n => hs n.1, fun _ => ?_⟩
   have hb := (figB_iff _).1 (figs_at s s.size 0 hf (by omega))
   have hv : (valN s s.size).natAbs = 10 * 0 + (bt s ((0 : Nat) : Int) - 48).toNat := by rw [hm]; unfold valN valN; omega
   rw [hv, dec_small _ (by omega), ← dg_bt s 0 (by omega) hb 0]
   have := extAll s
   rw [hm] at this
   exact this
 ·refine ⟨fun _ n => hz n.2, fun _ => ?_⟩
  have hz' : bt s ((0 : Nat) : Int) ≠ 48 := hz
  have := dec_val s hz' m (by omega) (by rw [← hm]; exact hf)
  rw [← hm] at this
  rw [this]
  exact extAll s
def EvN (g : Nat → Option (Int × Bool)) (o : Option Int) : Prop := ∃ n ok, Ev g (n, ok) ∧ (∀ v, o = some v → n = v ∧ ok = true) ∧ (o = none → ok = false)
theorem figs_false (s : ByteArray) {i : Nat} (hi : i < s.size) (h : figB (bt s (i : Int)) = false) : figs s s.size = false := by
 cases hf : figs s s.size
 ·rfl
 ·rw [figs_at s s.size i hf hi] at h; cases h
theorem numV_half {s : ByteArray} {v : Int} (h : numV s = some v) : halfB v = true := by
 unfold numV at h
 split at h
 ·rename_i hc
  obtain rfl := Option.some.inj h
  have := (valN_rng s _ hc.2.2.1).1
  unfold halfB
  rw [Bool.and_eq_true, decide_eq_true_eq, decide_eq_true_eq]
  omega
 ·cases h
theorem within_f (x a b : Int) : impl_within.f x a b = some (decide (a ≤ x) && decide (x ≤ b)) := by
 unfold impl_within.f
 by_cases h : x ≥ a
 ·rw [if_pos h, decide_eq_true (show a ≤ x from h), Bool.true_and]
 ·rw [if_neg h, decide_eq_false (show ¬ a ≤ x from h), Bool.false_and]
theorem runOf_law (s : ByteArray) (hs : s.size ≤ 10) : ∃ j : Int, Ev (fun k => impl_runOf.f k s 0 159) j ∧ (j = s.size ↔ figs s s.size = true) := by
 have key : ∀ d i, i + d = s.size → figs s i = true → ∃ j : Int, Ev (fun k => impl_runOf.l0 k s 159 (i : Int)) j ∧ (j = s.size ↔ figs s s.size = true) := by
  intro d
  induction d with
  | zero =>
   intro i hi hf
   refine ⟨(i : Int), evSucc ?_, ?_⟩
   ·simp only [impl_runOf.l0]
    exact evNeg (by omega) (Ev.now _)
   ·obtain rfl : i = s.size := by omega
    exact ⟨fun _ => hf, fun _ => rfl⟩
  | succ d ih =>
   intro i hi hf
   cases hb : figB (bt s (i : Int))
   ·refine ⟨(i : Int), evSucc ?_, ?_⟩
    ·simp only [impl_runOf.l0, impl_runOf.is, if_true, Option.bind_some]
     refine evPos (by omega) (evPos (by omega) (evNeg ?_ (Ev.now _)))
     unfold figB at hb
     rw [hb]; decide
    ·rw [figs_false s (by omega) hb]
     exact ⟨fun e => by omega, fun e => by cases e⟩
   ·obtain ⟨j, e, hj⟩ := ih (i + 1) (by omega) (by unfold figs; rw [hf, hb]; rfl)
    refine ⟨j, evSucc ?_, hj⟩
    simp only [impl_runOf.l0, impl_runOf.is, if_true, Option.bind_some]
    refine evPos (by omega) (evPos (by omega) (evPos ?_ ?_))
    ·unfold figB at hb; exact hb
    ·rw [w64 (by omega) (by omega), ci]; exact e
 exact key s.size 0 (by omega) rfl
theorem ev_impl_num (s : ByteArray) : EvN (fun k => impl_half.f k s) (numV s) := by
 simp only [impl_half.f]
 rw [within_f]
 by_cases hin : 1 ≤ s.size ∧ s.size ≤ 10
 ·obtain ⟨h1, h2⟩ := hin
  have hw : (decide ((1 : Int) ≤ (s.size : Int)) && decide ((s.size : Int) ≤ 10)) = true := by rw [Bool.and_eq_true, decide_eq_true_eq, decide_eq_true_eq]; omega
  rw [hw]
  obtain ⟨j, ej, hj⟩ := runOf_law s h2
  cases hf : figs s s.size
  ·have hne : j ≠ s.size := fun e => by have := hj.1 e; rw [hf] at this; cases this
   refine ⟨0, false, evBindS rfl (evPos rfl (Ev.bind ej (evSucc ?_))), ?_, fun _ => rfl⟩
   ·simp only [impl_half.j0]
    exact evPos (bne_iff_ne.2 hne) (Ev.now _)
   ·intro v hv
    unfold numV at hv
    rw [if_neg (fun c => by rw [hf] at c; exact Bool.noConfusion c.2.2.1)] at hv
    cases hv
  ·have he : j = s.size := hj.2 hf
   subst he
   obtain ⟨v0, v1⟩ := valN_small s s.size h2 hf
   have hloop : Ev (fun k => impl_half.l0 k s 0 0) (if decide (valN s s.size ≤ 4294967295) && (decI (valN s s.size)).toList == s.toList then (valN s s.size, true) else (0, false)) := by
    have key := evUp (r := if decide (valN s s.size ≤ 4294967295) && (decI (valN s s.size)).toList == s.toList then (valN s s.size, true) else (0, false)) s.size (fun i k => impl_half.l0 k s (valN s i) (i : Int)) ?_ ?_
    ·exact key
    ·intro i hi ih
     have hb := (figB_iff _).1 (figs_at s s.size i hf hi)
     have hvi := valN_small s i (by omega) (figs_low s (s.size - i) i (by rw [show i + (s.size - i) = s.size by omega]; exact hf))
     refine evSucc ?_
     simp only [impl_half.l0]
     refine evPos (by omega) (evPos (by omega) ?_)
     rw [w64 (x := 10 * valN s i) (by omega) (by omega), show (bt s (i : Int) - 48) % 256 = bt s (i : Int) - 48 by omega, w64 (x := 10 * valN s i + (bt s (i : Int) - 48)) (by omega) (by omega), w64 (by omega) (by omega), ci]
     exact ih
    ·refine evSucc ?_
     simp only [impl_half.l0]
     refine evNeg (by omega) ?_
     rw [impl_half]
     simp only [Option.bind_some]
     by_cases hle : valN s s.size ≤ 4294967295
     ·have hh : halfB (valN s s.size) = true := by unfold halfB; rw [Bool.and_eq_true, decide_eq_true_eq, decide_eq_true_eq]; omega
      rw [hh, decide_eq_true hle, Bool.true_and]
      refine evPos rfl (Ev.bind (ev_impl_Decimal _ (by omega) (by omega)) ?_)
      by_cases hq : (decI (valN s s.size)).toList = s.toList
      ·exact evPos hq (evEq (Ev.now _) (if_pos (beq_iff_eq.2 hq)).symm)
      ·exact evNeg hq (evEq (Ev.now _) (if_neg (fun c => hq (beq_iff_eq.1 c))).symm)
     ·have hh : halfB (valN s s.size) = false := by unfold halfB; rw [decide_eq_false hle, Bool.and_false]
      rw [hh, decide_eq_false hle, Bool.false_and]
      exact evNeg (by simp) (evEq (Ev.now _) (if_neg (by simp)).symm)
   have hq : ((decI (valN s s.size)).toList == s.toList) = decide (¬ (1 < s.size ∧ bt s 0 = 48)) := by
    rw [Bool.eq_iff_iff, beq_iff_eq, decide_eq_true_eq, ← decI_val s h1 h2 hf]
    exact ⟨fun e => toList_inj e, fun e => by rw [e]⟩
   by_cases hc : valN s s.size ≤ 4294967295 ∧ ¬ (1 < s.size ∧ bt s 0 = 48)
   ·refine ⟨valN s s.size, true, evBindS rfl (evPos rfl (Ev.bind ej (evSucc ?_))), ?_, ?_⟩
    ·simp only [impl_half.j0]
     refine evNeg (by simp) (evEq hloop (if_pos ?_))
     rw [hq, Bool.and_eq_true, decide_eq_true_eq, decide_eq_true_eq]
     exact hc
    ·intro v hv
     unfold numV at hv
     rw [if_pos ⟨h1, h2, hf, hc.2, hc.1⟩] at hv
     exact ⟨Option.some.inj hv, rfl⟩
    ·intro hv
     unfold numV at hv
     rw [if_pos ⟨h1, h2, hf, hc.2, hc.1⟩] at hv
     cases hv
   ·refine ⟨0, false, evBindS rfl (evPos rfl (Ev.bind ej (evSucc ?_))), ?_, fun _ => rfl⟩
    ·simp only [impl_half.j0]
     refine evNeg (by simp) (evEq hloop (if_neg ?_))
     rw [hq, Bool.and_eq_true, decide_eq_true_eq, decide_eq_true_eq]
     exact hc
    ·intro v hv
     unfold numV at hv
     rw [if_neg (fun c => hc ⟨c.2.2.2.2, c.2.2.2.1⟩)] at hv
     cases hv
 ·have hw : (decide ((1 : Int) ≤ (s.size : Int)) && decide ((s.size : Int) ≤ 10)) = false := by
   rw [Bool.and_eq_false_iff, decide_eq_false_iff_not, decide_eq_false_iff_not]; omega
  rw [hw]
  refine ⟨0, false, evBindS rfl (evNeg (by simp) (evSucc ?_)), ?_, fun _ => rfl⟩
  ·simp only [impl_half.j0]
   exact evPos trivial (Ev.now _)
  ·intro v hv
   unfold numV at hv
   rw [if_neg (fun c => hin ⟨c.1, c.2.1⟩)] at hv
   cases hv
theorem l01In_f (x a b : Int) : spec_l01In.f x a b = some (decide (a ≤ x) && decide (x ≤ b)) := by
 unfold spec_l01In.f
 by_cases h : x ≥ a
 ·rw [if_pos h, decide_eq_true (show a ≤ x from h), Bool.true_and]
 ·rw [if_neg h, decide_eq_false (show ¬ a ≤ x from h), Bool.false_and]
theorem ev_spec_num (s : ByteArray) : EvN (fun k => spec_l25Num.f k s) (numV s) := by
 simp only [spec_l25Num.f]
 rw [l01In_f]
 by_cases hin : 1 ≤ s.size ∧ s.size ≤ 10
 ·obtain ⟨h1, h2⟩ := hin
  have hw : (decide ((1 : Int) ≤ (s.size : Int)) && decide ((s.size : Int) ≤ 10)) = true := by rw [Bool.and_eq_true, decide_eq_true_eq, decide_eq_true_eq]; omega
  rw [hw]
  have hloop : ∀ d i, i + d = s.size → figs s i = true → Ev (fun k => spec_l25Num.l0 k s (valN s i) (i : Int)) (if figs s s.size = true then (valN s s.size, decide (valN s s.size ≤ 4294967295)) else (0, false)) := by
   intro d
   induction d with
   | zero =>
    intro i hi hf
    obtain rfl : i = s.size := by omega
    refine evSucc ?_
    simp only [spec_l25Num.l0]
    exact evNeg (by omega) (evEq (Ev.now _) (if_pos hf).symm)
   | succ d ih =>
    intro i hi hf
    have hvi := valN_small s i (by omega) hf
    have hbr := bt_range s (i : Int)
    refine evSucc ?_
    simp only [spec_l25Num.l0]
    refine evPos (by omega) (evPos (by omega) ?_)
    by_cases hlo : bt s (i : Int) < 48
    ·have hb : figB (bt s (i : Int)) = false := by cases hb : figB (bt s (i : Int)); { rfl }; { have := (figB_iff _).1 hb; omega }
     exact evPos hlo (evEq (Ev.now _) (if_neg (by rw [figs_false s (by omega) hb]; decide)).symm)
    ·by_cases hhi : bt s (i : Int) > 57
     ·have hb : figB (bt s (i : Int)) = false := by cases hb : figB (bt s (i : Int)); { rfl }; { have := (figB_iff _).1 hb; omega }
      exact evNeg hlo (evPos hhi (evEq (Ev.now _) (if_neg (by rw [figs_false s (by omega) hb]; decide)).symm))
     ·have hb : figB (bt s (i : Int)) = true := (figB_iff _).2 (by omega)
      refine evNeg hlo (evNeg hhi ?_)
      rw [w64 (x := 10 * valN s i) (by omega) (by omega), w64 (x := bt s (i : Int)) (by omega) (by omega), w64 (x := 10 * valN s i + bt s (i : Int)) (by omega) (by omega), w64 (by omega) (by omega), w64 (by omega) (by omega), ci, show 10 * valN s i + bt s (i : Int) - 48 = valN s (i + 1) from Int.add_sub_assoc _ _ _]
      exact ih (i + 1) (by omega) (by unfold figs; rw [hf, hb]; rfl)
  have hl := hloop s.size 0 (by omega) rfl
  by_cases hz : 1 < s.size ∧ bt s 0 = 48
  ·refine ⟨0, false, evBindS rfl (evPos rfl (evPos (by omega) (evPos (by omega) (evSucc ?_)))), ?_, fun _ => rfl⟩
   ·simp only [spec_l25Num.j0]
    exact evPos (beq_iff_eq.2 hz.2) (Ev.now _)
   ·intro v hv
    unfold numV at hv
    rw [if_neg (fun c => c.2.2.2.1 hz)] at hv
    cases hv
  ·have go : EvN (fun k => spec_l25Num.l0 k s 0 0) (numV s) := by
    cases hf : figs s s.size
    ·refine ⟨0, false, evEq hl (if_neg (by rw [hf]; decide)), ?_, fun _ => rfl⟩
     intro v hv
     unfold numV at hv
     rw [if_neg (fun c => by rw [hf] at c; exact Bool.noConfusion c.2.2.1)] at hv
     cases hv
    ·refine ⟨valN s s.size, decide (valN s s.size ≤ 4294967295), evEq hl (if_pos hf), ?_, ?_⟩
     ·intro v hv
      unfold numV at hv
      split at hv
      ·rename_i hc
       exact ⟨Option.some.inj hv, decide_eq_true hc.2.2.2.2⟩
      ·cases hv
     ·intro hv
      unfold numV at hv
      split at hv
      ·cases hv
      ·rename_i hc
       exact decide_eq_false (fun z => hc ⟨h1, h2, hf, hz, z⟩)
   obtain ⟨n, ok, e, p1, p2⟩ := go
   refine ⟨n, ok, evBindS rfl (evPos rfl ?_), p1, p2⟩
   by_cases hs : 1 < s.size
   ·refine evPos (by omega) (evPos (by omega) (evSucc ?_))
    simp only [spec_l25Num.j0]
    exact evNeg (by simpa using fun z => hz ⟨hs, z⟩) e
   ·refine evNeg (by omega) (evSucc ?_)
    simp only [spec_l25Num.j0]
    exact evNeg (by simp) e
 ·have hw : (decide ((1 : Int) ≤ (s.size : Int)) && decide ((s.size : Int) ≤ 10)) = false := by
   rw [Bool.and_eq_false_iff, decide_eq_false_iff_not, decide_eq_false_iff_not]; omega
  rw [hw]
  refine ⟨0, false, evBindS rfl (evNeg (by simp) (evSucc ?_)), ?_, fun _ => rfl⟩
  ·simp only [spec_l25Num.j0]
   exact evPos trivial (Ev.now _)
  ·intro v hv
   unfold numV at hv
   rw [if_neg (fun c => hin ⟨c.1, c.2.1⟩)] at hv
   cases hv
theorem one48 (s : ByteArray) (i : Nat) : wrap64 (bt s (i : Int)) = bt s (i : Int) := by
 have := bt_range s (i : Int)
 exact w64 (by omega) (by omega)
def prB (c : Int) : Bool := decide (32 ≤ c) && decide (c ≤ 126)
def partsR (s : ByteArray) : Nat → Nat → Nat → List ByteArray → List ByteArray × Bool
 | 0, _, _, out => if 10 < out.length then ([], false) else (out, true)
 | d + 1, i, b, out =>
  if i < s.size ∧ prB (bt s (i : Int)) = false then ([], false)
  else if i < s.size ∧ bt s (i : Int) ≠ 32 then partsR s d (i + 1) b out
  else if b < i then partsR s d (i + 1) (i + 1) (out ++ [s.extract b i]) else partsR s d (i + 1) (i + 1) out
def partsB (s : ByteArray) : List ByteArray × Bool := if 600 < s.size then ([], false) else partsR s (s.size + 1) 0 0 []
theorem partsR_le (s : ByteArray) : ∀ d i b out, (∀ x ∈ out, x.size ≤ s.size) → ∀ x ∈ (partsR s d i b out).1, x.size ≤ s.size := by
 intro d
 induction d with
 | zero =>
  intro i b out h x hx
  unfold partsR at hx
  split at hx
  ·cases hx
  ·exact h x hx
 | succ d ih =>
  intro i b out h x hx
  unfold partsR at hx
  split at hx
  ·cases hx
  ·split at hx
   ·exact ih _ _ _ h x hx
   ·split at hx
    ·refine ih _ _ _ (fun y hy => ?_) x hx
     rcases List.mem_append.1 hy with hy | hy
     ·exact h y hy
     ·rw [List.mem_singleton] at hy
      subst hy
      rw [ByteArray.size_extract]
      omega
    ·exact ih _ _ _ h x hx
theorem partsB_le (s : ByteArray) : ∀ x ∈ (partsB s).1, x.size ≤ 600 := by
 unfold partsB
 split
 ·intro x hx; cases hx
 ·intro x hx
  have := partsR_le s _ _ _ [] (fun y hy => by cases hy) x hx
  omega
theorem ev_spec_partsR (s : ByteArray) (hs : s.size ≤ 600) : ∀ d i b out, i + d = s.size + 1 → b ≤ i → out.length ≤ i → Ev (fun k => spec_PartsOf.l0 k s out (b : Int) (i : Int)) (partsR s d i b out) := by
 intro d
 induction d with
 | zero =>
  intro i b out hi hb ho
  refine evSucc ?_
  simp only [spec_PartsOf.l0]
  refine evNeg (by omega) ?_
  by_cases h : 10 < out.length
  ·exact evPos (by omega) (evEq (Ev.now _) (if_pos h).symm)
  ·exact evNeg (by omega) (evEq (Ev.now _) (if_neg h).symm)
 | succ d ih =>
  intro i b out hi hb ho
  have hbr := bt_range s (i : Int)
  have blank : ¬ (i < s.size ∧ prB (bt s (i : Int)) = false) → ¬ (i < s.size ∧ bt s (i : Int) ≠ 32) → Ev (fun k => spec_PartsOf.j2 k s out (b : Int) (i : Int) false) (partsR s (d + 1) i b out) := by
   intro h1 h2
   refine evSucc ?_
   simp only [spec_PartsOf.j2]
   refine evNeg (by simp) ?_
   unfold partsR
   rw [if_neg h1, if_neg h2]
   by_cases hbi : b < i
   ·rw [if_pos hbi]
    refine evPos (by omega) (evPos (by omega) (evPos (by omega) (evPos (by omega) (evPos (by omega) ?_))))
    rw [Int.toNat_natCast, Int.toNat_natCast, w64 (by omega) (by omega), ci]
    exact ih (i + 1) (i + 1) _ (by omega) (by omega) (by rw [List.length_append, List.length_singleton]; omega)
   ·rw [if_neg hbi]
    refine evNeg (by omega) ?_
    rw [w64 (by omega) (by omega), ci]
    exact ih (i + 1) (i + 1) _ (by omega) (by omega) (by omega)
  refine evSucc ?_
  simp only [spec_PartsOf.l0]
  refine evPos (by omega) ?_
  by_cases hlt : i < s.size
  ·refine evPos (by omega) (evPos (by omega) ?_)
   by_cases hp : prB (bt s (i : Int)) = true
   ·have hp' : 32 ≤ bt s (i : Int) ∧ bt s (i : Int) ≤ 126 := by unfold prB at hp; rw [Bool.and_eq_true, decide_eq_true_eq, decide_eq_true_eq] at hp; exact hp
    refine evNeg (by omega) (evSucc ?_)
    simp only [spec_PartsOf.j1]
    refine evNeg (by simp; omega) (evPos (by omega) (evPos (by omega) ?_))
    by_cases h32 : bt s (i : Int) = 32
    ·rw [show (bt s (i : Int) != 32) = false by rw [h32]; rfl]
     exact blank (fun z => by rw [hp] at z; cases z.2) (fun z => z.2 h32)
    ·rw [show (bt s (i : Int) != 32) = true from bne_iff_ne.2 h32]
     refine evSucc ?_
     simp only [spec_PartsOf.j2]
     refine evPos trivial ?_
     rw [w64 (by omega) (by omega), ci]
     unfold partsR
     rw [if_neg (fun z => by rw [hp] at z; cases z.2), if_pos ⟨hlt, h32⟩]
     exact ih (i + 1) b _ (by omega) (by omega) (by omega)
   ·have hp0 : prB (bt s (i : Int)) = false := by simpa using hp
    have hp' : ¬ (32 ≤ bt s (i : Int) ∧ bt s (i : Int) ≤ 126) := fun z => hp (by unfold prB; rw [Bool.and_eq_true, decide_eq_true_eq, decide_eq_true_eq]; exact z)
    have hr : partsR s (d + 1) i b out = ([], false) := by unfold partsR; rw [if_pos ⟨hlt, hp0⟩]
    rw [hr]
    by_cases h1 : bt s (i : Int) < 32
    ·refine evPos h1 (evSucc ?_)
     simp only [spec_PartsOf.j1]
     exact evPos trivial (Ev.now _)
    ·refine evNeg h1 (evSucc ?_)
     simp only [spec_PartsOf.j1]
     exact evPos (by rw [decide_eq_true_eq]; omega) (Ev.now _)
  ·refine evNeg (by omega) (evSucc ?_)
   simp only [spec_PartsOf.j1]
   refine evNeg (by simp) (evNeg (by omega) ?_)
   exact blank (fun z => hlt z.1) (fun z => hlt z.1)
theorem ev_spec_PartsOf (s : ByteArray) : Ev (fun k => spec_PartsOf.f k s) (partsB s) := by
 simp only [spec_PartsOf.f, Option.bind_some]
 unfold partsB
 by_cases h : 600 < s.size
 ·exact evPos (by omega) (evEq (Ev.now _) (if_pos h).symm)
 ·refine evNeg (by omega) (evEq (ev_spec_partsR s (by omega) (s.size + 1) 0 0 [] (by omega) (by omega) (by show (0 : Nat) ≤ _; omega)) (if_neg h).symm)
theorem ev_impl_partsR (s : ByteArray) (hs : s.size ≤ 600) : ∀ d i b (f : Int) out, i + d = s.size + 1 → (f = -1 ∧ b = i) ∨ (f = (b : Int) ∧ b < i) → out.length ≤ i → Ev (fun k => impl_PartsOf.l0 k s out f (i : Int)) (partsR s d i b out) := by
 intro d
 induction d with
 | zero =>
  intro i b f out hi hb ho
  refine evSucc ?_
  simp only [impl_PartsOf.l0]
  refine evNeg (by omega) ?_
  by_cases h : 10 < out.length
  ·exact evPos (by omega) (evEq (Ev.now _) (if_pos h).symm)
  ·exact evNeg (by omega) (evEq (Ev.now _) (if_neg h).symm)
 | succ d ih =>
  intro i b f out hi hb ho
  have blank : ¬ (i < s.size ∧ prB (bt s (i : Int)) = false) → ¬ (i < s.size ∧ bt s (i : Int) ≠ 32) → Ev (fun k => impl_PartsOf.j2 k s out f (i : Int) true) (partsR s (d + 1) i b out) := by
   intro h1 h2
   refine evSucc ?_
   simp only [impl_PartsOf.j2]
   refine evPos trivial (evSucc ?_)
   simp only [impl_PartsOf.j3]
   refine evNeg (by simp) (evPos trivial ?_)
   unfold partsR
   rw [if_neg h1, if_neg h2]
   rcases hb with ⟨rfl, rfl⟩ | ⟨rfl, hbi⟩
   ·rw [if_neg (Nat.lt_irrefl _)]
    refine evNeg (by omega) ?_
    rw [w64 (by omega) (by omega), ci]
    exact ih (b + 1) (b + 1) (-1) _ (by omega) (Or.inl ⟨rfl, rfl⟩) (by omega)
   ·rw [if_pos hbi]
    refine evPos (by omega) (evPos (by omega) (evPos (by omega) (evPos (by omega) (evPos (by omega) ?_))))
    rw [Int.toNat_natCast, Int.toNat_natCast, w64 (by omega) (by omega), ci]
    exact ih (i + 1) (i + 1) (-1) _ (by omega) (Or.inl ⟨rfl, rfl⟩) (by rw [List.length_append, List.length_singleton]; omega)
  refine evSucc ?_
  simp only [impl_PartsOf.l0]
  refine evPos (by omega) ?_
  by_cases hlt : i < s.size
  ·refine evPos (by omega) (evPos (by omega) ?_)
   rw [one48, within_f]
   refine evBindS rfl (evSucc ?_)
   simp only [impl_PartsOf.j1]
   by_cases hp : prB (bt s (i : Int)) = true
   ·have hpe : (decide (32 ≤ bt s (i : Int)) && decide (bt s (i : Int) ≤ 126)) = true := hp
    rw [hpe]
    refine evNeg (by simp) (evNeg (by omega) (evPos (by omega) (evPos (by omega) ?_)))
    by_cases h32 : bt s (i : Int) = 32
    ·rw [show (bt s (i : Int) == 32) = true from beq_iff_eq.2 h32]
     exact blank (fun z => by rw [hp] at z; cases z.2) (fun z => z.2 h32)
    ·rw [show (bt s (i : Int) == 32) = false from beq_eq_false_iff_ne.2 h32]
     refine evSucc ?_
     simp only [impl_PartsOf.j2]
     refine evNeg (by simp) (evSucc ?_)
     simp only [impl_PartsOf.j3]
     unfold partsR
     rw [if_neg (fun z => by rw [hp] at z; cases z.2), if_pos ⟨hlt, h32⟩]
     rcases hb with ⟨rfl, rfl⟩ | ⟨rfl, hbi⟩
     ·refine evPos (by decide) (evNeg (by simp) ?_)
      rw [w64 (by omega) (by omega), ci]
      exact ih (b + 1) b _ _ (by omega) (Or.inr ⟨rfl, by omega⟩) (by omega)
     ·refine evNeg (by rw [decide_eq_true_eq]; omega) (evNeg (by simp) ?_)
      rw [w64 (by omega) (by omega), ci]
      exact ih (i + 1) b _ _ (by omega) (Or.inr ⟨rfl, by omega⟩) (by omega)
   ·have hp0 : prB (bt s (i : Int)) = false := by simpa using hp
    have hpe : (decide (32 ≤ bt s (i : Int)) && decide (bt s (i : Int) ≤ 126)) = false := hp0
    rw [hpe]
    have hr : partsR s (d + 1) i b out = ([], false) := by unfold partsR; rw [if_pos ⟨hlt, hp0⟩]
    rw [hr]
    exact evPos rfl (Ev.now _)
  ·refine evNeg (by omega) (evSucc ?_)
   simp only [impl_PartsOf.j1]
   refine evNeg (by simp) (evPos (by omega) ?_)
   exact blank (fun z => hlt z.1) (fun z => hlt z.1)
theorem ev_impl_PartsOf (s : ByteArray) : Ev (fun k => impl_PartsOf.f k s) (partsB s) := by
 simp only [impl_PartsOf.f]
 unfold partsB
 by_cases h : 600 < s.size
 ·exact evPos (by omega) (evEq (Ev.now _) (if_pos h).symm)
 ·refine evNeg (by omega) (evEq (ev_impl_partsR s (by omega) (s.size + 1) 0 0 (-1) [] (by omega) (Or.inl ⟨rfl, rfl⟩) (by show (0 : Nat) ≤ _; omega)) (if_neg h).symm)
theorem rdS (l : List ByteArray) (i : Nat) (hi : i < l.length) : rdOf ByteArray.empty l (i : Int) = l[i] := by simp [rdOf, hi]
theorem spec_half (n : Int) : spec_HalfOk.f n = some (halfB n) := by
 unfold spec_HalfOk.f spec_l01In.f halfB
 by_cases h : n ≥ 0
 ·simp [h]
 ·simp [h]
  try omega
theorem spec_wide (w : S103) : spec_WideOk.f w.f0 w.f1 = some (wideB w) := by
 unfold spec_WideOk.f wideB
 rw [spec_half, spec_half]
 cases halfB w.f0 <;> simp
theorem ev_spec_CallOk (a b : Int) (l : List S103) (hl : l.length ≤ 1048576) : Ev (fun k => spec_CallOk.f k a b l) (callB a b l) := by
 unfold callB
 by_cases hall : l.all wideB = true
 ·have key := evUp (r := (halfB a && (halfB b && (l.length == 3)))) l.length (fun i k => spec_CallOk.l0 k (i : Int) a b l) ?_ ?_
  ·rw [hall]; exact key
  ·intro i hi ih
   refine evSucc ?_
   simp only [spec_CallOk.l0]
   refine evPos (by omega) (evPos (by omega) ?_)
   rw [rdW l i hi, spec_wide, w64 (by omega) (by omega), ci]
   simp only [Option.bind_some]
   exact evPos (by simpa using List.all_eq_true.1 hall _ (List.getElem_mem hi)) ih
  ·refine evSucc ?_
   simp only [spec_CallOk.l0]
   refine evNeg (by omega) ?_
   rw [spec_half, spec_half]
   simp only [Option.bind_some]
   cases halfB a
   ·exact evNeg (by simp) (Ev.now _)
   ·refine evPos rfl ?_
    cases halfB b
    ·exact evNeg (by simp) (Ev.now _)
    ·refine evPos rfl (evEq (Ev.now _) ?_)
     simp only [Bool.true_and]
     rw [Bool.eq_iff_iff]
     simp
     try omega
 ·have h0 : l.all wideB = false := by simpa using hall
  rw [h0]
  obtain ⟨x, hx, hb⟩ := List.all_eq_false.1 h0
  obtain ⟨j, hj, rfl⟩ := List.getElem_of_mem hx
  have key : ∀ d i, i + d = j → Ev (fun k => spec_CallOk.l0 k (i : Int) a b l) false := by
   intro d
   induction d with
   | zero =>
    intro i hi
    refine evSucc ?_
    simp only [spec_CallOk.l0]
    refine evPos (by omega) (evPos (by omega) ?_)
    obtain rfl : i = j := by omega
    rw [rdW l i hj, spec_wide]
    simp only [Option.bind_some]
    exact evNeg (by simpa using hb) (Ev.now _)
   | succ d ih =>
    intro i hi
    refine evSucc ?_
    simp only [spec_CallOk.l0]
    have hi' : i < l.length := by omega
    refine evPos (by omega) (evPos (by omega) ?_)
    rw [rdW l i hi', spec_wide, w64 (by omega) (by omega), ci]
    simp only [Option.bind_some]
    by_cases hw : wideB l[i] = true
    ·exact evPos hw (ih (i + 1) (by omega))
    ·exact evNeg hw (Ev.now _)
  exact key j 0 (by omega)
def namesL : List ByteArray := (spec_CallNames.f).getD []
def srch (x : ByteArray) : List ByteArray → Int → Int
 | [], _ => -1
 | y :: l, i => if y.toList = x.toList then i else srch x l (i + 1)
theorem srch_rng (x : ByteArray) : ∀ l i, 0 ≤ i → srch x l i = -1 ∨ (i ≤ srch x l i ∧ srch x l i < i + (l.length : Int)) := by
 intro l
 induction l with
 | nil => intro i _; exact Or.inl rfl
 | cons y l ih =>
  intro i h
  unfold srch
  rw [List.length_cons]
  split
  ·exact Or.inr (by omega)
  ·rcases ih (i + 1) (by omega) with e | e
   ·exact Or.inl e
   ·exact Or.inr (by omega)
theorem namesL_len : namesL.length = 12 := rfl
theorem ev_spec_CallNumber (x : ByteArray) : Ev (fun k => spec_CallNumber.f k x) (srch x namesL 0) := by
 simp only [spec_CallNumber.f]
 refine evBindS (show spec_CallNames.f = some namesL from rfl) ?_
 have key : ∀ d i, i + d = namesL.length → Ev (fun k => spec_CallNumber.l0 k x namesL (i : Int)) (srch x (namesL.drop i) (i : Int)) := by
  intro d
  induction d with
  | zero =>
   intro i hi
   refine evSucc ?_
   simp only [spec_CallNumber.l0]
   rw [List.drop_of_length_le (by omega)]
   exact evNeg (by omega) (Ev.now _)
  | succ d ih =>
   intro i hi
   have hlt : i < namesL.length := by omega
   have hl := namesL_len
   refine evSucc ?_
   simp only [spec_CallNumber.l0]
   refine evPos (by omega) (evPos (by omega) ?_)
   rw [rdS namesL i hlt, w64 (by omega) (by omega), ci, List.drop_eq_getElem_cons hlt]
   unfold srch
   by_cases hc : namesL[i].toList = x.toList
   ·exact evPos hc (evEq (Ev.now _) (if_pos hc).symm)
   ·exact evNeg hc (evEq (ih (i + 1) (by omega)) (if_neg hc).symm)
 exact key namesL.length 0 (by omega)
theorem ev_impl_CallNumber (x : ByteArray) : Ev (fun k => impl_CallNumber.f k x) (srch x namesL 0) := by
 simp only [impl_CallNumber.f]
 refine evBindS (show impl_CallNames.f = some namesL from rfl) ?_
 have key : ∀ d i, i + d = namesL.length → Ev (fun k => impl_CallNumber.l0 k x namesL (namesL.length : Int) (i : Int)) (srch x (namesL.drop i) (i : Int)) := by
  intro d
  induction d with
  | zero =>
   intro i hi
   refine evSucc ?_
   simp only [impl_CallNumber.l0]
   rw [List.drop_of_length_le (by omega)]
   exact evNeg (by omega) (Ev.now _)
  | succ d ih =>
   intro i hi
   have hlt : i < namesL.length := by omega
   have hl := namesL_len
   refine evSucc ?_
   simp only [impl_CallNumber.l0]
   refine evPos (by omega) (evPos (by omega) (evPos (by omega) ?_))
   rw [rdS namesL i hlt, w64 (by omega) (by omega), ci, List.drop_eq_getElem_cons hlt]
   unfold srch
   by_cases hc : namesL[i].toList = x.toList
   ·exact evPos hc (evEq (Ev.now _) (if_pos hc).symm)
   ·exact evNeg hc (evEq (ih (i + 1) (by omega)) (if_neg hc).symm)
 exact key namesL.length 0 (by omega)
def wideR (s : ByteArray) : Nat → Nat → Option S103
 | 0, _ => (numV s).map (fun lo => ⟨0, lo⟩)
 | d + 1, i => if bt s (i : Int) = 58 then (numV (s.extract 0 i)).bind (fun hi => (numV (s.extract (i + 1) s.size)).map (fun lo => ⟨hi, lo⟩)) else wideR s d (i + 1)
theorem wideR_ok (s : ByteArray) : ∀ d i w, wideR s d i = some w → wideB w = true := by
 intro d
 induction d with
 | zero =>
  intro i w h
  unfold wideR at h
  cases hn : numV s with
  | none => rw [hn] at h; cases h
  | some v =>
   rw [hn] at h
   obtain rfl := Option.some.inj h
   unfold wideB
   rw [numV_half hn]
   rfl
 | succ d ih =>
  intro i w h
  unfold wideR at h
  split at h
  ·cases h1 : numV (s.extract 0 i) with
   | none => rw [h1] at h; cases h
   | some v =>
    cases h2 : numV (s.extract (i + 1) s.size) with
    | none => rw [h1, h2] at h; cases h
    | some u =>
     rw [h1, h2] at h
     obtain rfl := Option.some.inj h
     unfold wideB
     rw [numV_half h1, numV_half h2]
     rfl
  ·exact ih _ _ h
def EvW (g : Nat → Option (Int × Int × Bool)) (o : Option S103) : Prop := ∃ a b ok, Ev g (a, b, ok) ∧ (∀ w, o = some w → (⟨a, b⟩ : S103) = w ∧ ok = true) ∧ (o = none → ok = false)
theorem wideOf_zero {g : Nat → Option (Int × Bool)} {o : Option Int} (h : EvN g o) : EvW (fun k => (g k).bind fun b => some (0, b.1, b.2)) (o.map (fun lo => ⟨0, lo⟩)) := by
 obtain ⟨n, ok, e, p1, p2⟩ := h
 refine ⟨0, n, ok, Ev.bind e (Ev.now _), ?_, ?_⟩
 ·intro w hw
  cases o with
  | none => cases hw
  | some v =>
   obtain ⟨rfl, rfl⟩ := p1 v rfl
   exact ⟨Option.some.inj hw, rfl⟩
 ·intro hw
  cases o with
  | none => exact p2 rfl
  | some v => cases hw
theorem wideOf_two {g f : Nat → Option (Int × Bool)} {o q : Option Int} (h : EvN g o) (h' : EvN f q) : EvW (fun k => (g k).bind fun b => (f k).bind fun c => if b.2 = true then some (b.1, c.1, c.2) else some (b.1, c.1, false)) (o.bind (fun hi => q.map (fun lo => ⟨hi, lo⟩))) := by
 obtain ⟨n, ok, e, p1, p2⟩ := h
 obtain ⟨m, ok', e', q1, q2⟩ := h'
 cases o with
 | none =>
  obtain rfl := p2 rfl
  refine ⟨n, m, false, Ev.bind e (Ev.bind e' (evNeg (by simp) (Ev.now _))), ?_, fun _ => rfl⟩
  intro w hw
  cases hw
 | some v =>
  obtain ⟨rfl, rfl⟩ := p1 v rfl
  refine ⟨n, m, ok', Ev.bind e (Ev.bind e' (evPos rfl (Ev.now _))), ?_, ?_⟩
  ·intro w hw
   cases q with
   | none => cases hw
   | some u =>
    obtain ⟨rfl, rfl⟩ := q1 u rfl
    exact ⟨Option.some.inj hw, rfl⟩
  ·intro hw
   cases q with
   | none => exact q2 rfl
   | some u => cases hw
theorem EvW.of {g f : Nat → Option (Int × Int × Bool)} {o : Option S103} (h : ∀ r, Ev f r → Ev g r) (e : EvW f o) : EvW g o := by
 obtain ⟨a, b, ok, e, p⟩ := e
 exact ⟨a, b, ok, h _ e, p⟩
theorem ev_impl_wide (s : ByteArray) (hs : s.size ≤ 600) : EvW (fun k => impl_wideOf.f k s) (wideR s s.size 0) := by
 have key : ∀ d i, i + d = s.size → EvW (fun k => impl_wideOf.l0 k s (i : Int)) (wideR s d i) := by
  intro d
  induction d with
  | zero =>
   intro i hi
   refine EvW.of (fun r e => evSucc ?_) (wideOf_zero (ev_impl_num s))
   simp only [impl_wideOf.l0]
   exact evNeg (by omega) e
  | succ d ih =>
   intro i hi
   unfold wideR
   by_cases hc : bt s (i : Int) = 58
   ·rw [if_pos hc]
    refine EvW.of (fun r e => evSucc ?_) (wideOf_two (ev_impl_num (s.extract 0 i)) (ev_impl_num (s.extract (i + 1) s.size)))
    simp only [impl_wideOf.l0]
    refine evPos (by omega) (evPos (by omega) (evPos hc (evPos (by omega) ?_)))
    rw [w64 (by omega) (by omega), ci, Int.toNat_natCast, Int.toNat_natCast]
    refine Ev.congr (fun k => congrArg (Option.bind _) (funext fun b => ?_)) e
    rw [if_pos (by omega), if_pos (by omega)]
   ·rw [if_neg hc]
    refine EvW.of (fun r e => evSucc ?_) (ih (i + 1) (by omega))
    simp only [impl_wideOf.l0]
    refine evPos (by omega) (evPos (by omega) (evNeg hc ?_))
    rw [w64 (by omega) (by omega), ci]
    exact e
 exact key s.size 0 (by omega)
theorem ev_spec_wide (s : ByteArray) (hs : s.size ≤ 600) : EvW (fun k => spec_l25Wide.f k s) (wideR s s.size 0) := by
 have key : ∀ d i, i + d = s.size → EvW (fun k => spec_l25Wide.l0 k s (i : Int)) (wideR s d i) := by
  intro d
  induction d with
  | zero =>
   intro i hi
   refine EvW.of (fun r e => evSucc ?_) (wideOf_zero (ev_spec_num s))
   simp only [spec_l25Wide.l0]
   exact evNeg (by omega) e
  | succ d ih =>
   intro i hi
   unfold wideR
   by_cases hc : bt s (i : Int) = 58
   ·rw [if_pos hc]
    refine EvW.of (fun r e => evSucc ?_) (wideOf_two (ev_spec_num (s.extract 0 i)) (ev_spec_num (s.extract (i + 1) s.size)))
    simp only [spec_l25Wide.l0]
    refine evPos (by omega) (evPos (by omega) (evPos hc (evPos (by omega) ?_)))
    rw [w64 (by omega) (by omega), ci, Int.toNat_natCast, Int.toNat_natCast]
    refine Ev.congr (fun k => congrArg (Option.bind _) (funext fun b => ?_)) e
    rw [if_pos (by omega), if_pos (by omega)]
   ·rw [if_neg hc]
    refine EvW.of (fun r e => evSucc ?_) (ih (i + 1) (by omega))
    simp only [spec_l25Wide.l0]
    refine evPos (by omega) (evPos (by omega) (evNeg hc ?_))
    rw [w64 (by omega) (by omega), ci]
    exact e
 exact key s.size 0 (by omega)
abbrev CallR := Int × Int × List S103 × Bool
def noCall : CallR := (0, 0, [], false)
def goW (arch n : Int) (ok : Bool) : List ByteArray → List S103 → CallR
 | [], acc => if ok = true then (arch, n, acc ++ List.replicate (3 - acc.length) z103, true) else noCall
 | t :: l, acc => match wideR t t.size 0 with
  | none => noCall
  | some w => goW arch n ok l (acc ++ [w])
theorem goW_false (arch n : Int) : ∀ l acc, goW arch n false l acc = noCall := by
 intro l
 induction l with
 | nil => intro acc; rfl
 | cons t l ih =>
  intro acc
  unfold goW
  split
  ·rfl
  ·exact ih _
theorem fillW (acc : List S103) (w : S103) (h : acc.length < 3) : (acc ++ List.replicate (3 - acc.length) z103).set acc.length w = (acc ++ [w]) ++ List.replicate (3 - (acc ++ [w]).length) z103 := by
 rw [List.set_append_right _ _ (Nat.le_refl _), Nat.sub_self, List.length_append, List.length_singleton, show 3 - acc.length = (3 - (acc.length + 1)) + 1 by omega, List.replicate_succ, List.set_cons_zero, List.append_assoc]
 rfl
theorem fillLen (acc : List S103) (h : acc.length ≤ 3) : (acc ++ List.replicate (3 - acc.length) z103).length = 3 := by
 rw [List.length_append, List.length_replicate]; omega
theorem ev_spec_goW (arch n : Int) (p : List ByteArray) (hp : ∀ x ∈ p, x.size ≤ 600) (hl : p.length ≤ 4) : ∀ d i acc, i + d = p.length → acc.length + 1 = i → Ev (fun k => spec_ReadCallLine.l0 k p (i : Int) arch n (acc ++ List.replicate (3 - acc.length) z103)) (goW arch n true (p.drop i) acc) := by
 intro d
 induction d with
 | zero =>
  intro i acc hi ha
  refine evSucc ?_
  simp only [spec_ReadCallLine.l0]
  rw [List.drop_of_length_le (by omega)]
  exact evNeg (by omega) (Ev.now _)
 | succ d ih =>
  intro i acc hi ha
  have hlt : i < p.length := by omega
  obtain ⟨a, b, ok, e, q1, q2⟩ := ev_spec_wide p[i] (hp _ (List.getElem_mem hlt))
  refine evSucc ?_
  simp only [spec_ReadCallLine.l0]
  refine evPos (by omega) (evPos (by omega) ?_)
  rw [rdS p i hlt, List.drop_eq_getElem_cons hlt]
  refine Ev.bind e ?_
  unfold goW
  cases hw : wideR p[i] p[i].size 0 with
  | none =>
   obtain rfl := q2 hw
   exact evNeg (by simp) (Ev.now _)
  | some w =>
   obtain ⟨rfl, rfl⟩ := q1 w hw
   refine evPos rfl ?_
   have hn : wrap64 ((i : Int) - 1) = (acc.length : Int) := by rw [w64 (by omega) (by omega)]; omega
   rw [hn]
   refine evPos (by omega) (evPos (by rw [fillLen acc (by omega)]; omega) ?_)
   rw [Int.toNat_natCast, fillW acc _ (by omega), w64 (by omega) (by omega), ci]
   exact ih (i + 1) (acc ++ [⟨a, b⟩]) (by omega) (by rw [List.length_append, List.length_singleton]; omega)
theorem zwide_ok : wideB z103 = true := by decide
theorem callB_fill (arch n : Int) (acc : List S103) (h : acc.length ≤ 3) (hn : halfB n = true) (ha : acc.all wideB = true) : callB arch n (acc ++ List.replicate (3 - acc.length) z103) = halfB arch := by
 unfold callB
 have h1 : (acc ++ List.replicate (3 - acc.length) z103).all wideB = true := by
  rw [List.all_append, ha, Bool.true_and]
  exact List.all_eq_true.2 (fun x hx => by rw [List.eq_of_mem_replicate hx]; exact zwide_ok)
 rw [h1, hn, fillLen acc h]
 simp
theorem ev_impl_goW (arch n : Int) (hn : halfB n = true) (q : List ByteArray) (hq : ∀ x ∈ q, x.size ≤ 600) (hl : q.length ≤ 3) : ∀ d i acc, i + d = q.length → acc.length = i → acc.all wideB = true → Ev (fun k => impl_ReadCallLine.l0 k q (q.length : Int) (i : Int) arch n (acc ++ List.replicate (3 - acc.length) z103)) (goW arch n (halfB arch) (q.drop i) acc) := by
 intro d
 induction d with
 | zero =>
  intro i acc hi ha hb
  refine evSucc ?_
  simp only [impl_ReadCallLine.l0]
  rw [List.drop_of_length_le (by omega)]
  refine evNeg (by omega) ?_
  have hc := ev_impl_CallOk arch n (acc ++ List.replicate (3 - acc.length) z103) (by rw [fillLen acc (by omega)]; omega)
  rw [callB_fill arch n acc (by omega) hn hb] at hc
  refine Ev.bind hc ?_
  unfold goW
  by_cases h : halfB arch = true
  ·exact evPos h (evEq (Ev.now _) (if_pos h).symm)
  ·exact evNeg h (evEq (Ev.now _) (if_neg h).symm)
 | succ d ih =>
  intro i acc hi ha hb
  have hlt : i < q.length := by omega
  obtain ⟨a, b, ok, e, q1, q2⟩ := ev_impl_wide q[i] (hq _ (List.getElem_mem hlt))
  refine evSucc ?_
  simp only [impl_ReadCallLine.l0]
  refine evPos (by omega) (evPos (by omega) (evPos (by omega) ?_))
  rw [rdS q i hlt, List.drop_eq_getElem_cons hlt]
  refine Ev.bind e ?_
  unfold goW
  cases hw : wideR q[i] q[i].size 0 with
  | none =>
   obtain rfl := q2 hw
   exact evNeg (by simp) (Ev.now _)
  | some w =>
   obtain ⟨hww, rfl⟩ := q1 w hw
   refine evPos rfl (evPos (by rw [fillLen acc (by omega)]; omega) ?_)
   rw [Int.toNat_natCast, ← ha, fillW acc _ (by omega), w64 (by omega) (by omega), ci]
   rw [show (⟨a, b⟩ : S103) = w from hww]
   exact ih (acc.length + 1) (acc ++ [w]) (by omega) (by rw [List.length_append, List.length_singleton]) (by rw [List.all_append, hb, List.all_cons, wideR_ok _ _ _ _ hw]; rfl)
def headNum (x : ByteArray) : Option Int := if srch x namesL 0 < 0 then numV x else some (srch x namesL 0)
theorem headNum_half {x : ByteArray} {n : Int} (h : headNum x = some n) : halfB n = true := by
 unfold headNum at h
 split at h
 ·exact numV_half h
 ·rename_i hc
  obtain rfl := Option.some.inj h
  rcases srch_rng x namesL 0 (by omega) with e | ⟨e1, e2⟩
  ·omega
  ·rw [namesL_len] at e2
   unfold halfB
   rw [Bool.and_eq_true, decide_eq_true_eq, decide_eq_true_eq]
   omega
def rcl (arch : Int) (s : ByteArray) : CallR :=
 if (partsB s).2 = true ∧ 1 ≤ (partsB s).1.length ∧ (partsB s).1.length ≤ 4 then
  match headNum (rdOf ByteArray.empty (partsB s).1 0) with
  | none => noCall
  | some n => goW arch n (halfB arch) ((partsB s).1.drop 1) []
 else noCall
theorem ev_spec_ReadCallLine (arch : Int) (s : ByteArray) : Ev (fun k => spec_ReadCallLine.f k arch s) (rcl arch s) := by
 have hle := partsB_le s
 simp only [spec_ReadCallLine.f]
 refine Ev.bind (ev_spec_PartsOf s) ?_
 have bad : Ev (fun k => spec_ReadCallLine.j0 k arch (partsB s).1 true) noCall := by
  refine evSucc ?_
  simp only [spec_ReadCallLine.j0]
  exact evPos trivial (Ev.now _)
 unfold rcl
 by_cases h2 : (partsB s).2 = true
 ·refine evPos h2 ?_
  rw [l01In_f]
  by_cases h3 : 1 ≤ (partsB s).1.length ∧ (partsB s).1.length ≤ 4
  ·rw [show (decide (1 ≤ ((partsB s).1.length : Int)) && decide (((partsB s).1.length : Int) ≤ 4)) = true by rw [Bool.and_eq_true, decide_eq_true_eq, decide_eq_true_eq]; omega, if_pos ⟨h2, h3⟩]
   refine evBindS rfl (evPos rfl ?_)
   rw [spec_half]
   refine evBindS rfl ?_
   cases ha : halfB arch
   ·refine evEq bad ?_
    split
    ·rfl
    ·exact (goW_false _ _ _ _).symm
   ·refine evSucc ?_
    simp only [spec_ReadCallLine.j0]
    refine evNeg (by simp) (evPos (by omega) (Ev.bind (ev_spec_CallNumber _) ?_))
    have fin : ∀ n, Ev (fun k => spec_ReadCallLine.j1 k arch (partsB s).1 n) (goW arch n true ((partsB s).1.drop 1) []) := by
     intro n
     refine evSucc ?_
     simp only [spec_ReadCallLine.j1]
     refine evPos (by omega) ?_
     exact ev_spec_goW arch n (partsB s).1 hle h3.2 ((partsB s).1.length - 1) 1 [] (by omega) rfl
    unfold headNum
    by_cases hc : srch (rdOf ByteArray.empty (partsB s).1 0) namesL 0 < 0
    ·rw [if_pos hc]
     refine evPos hc ?_
     obtain ⟨n, ok, e, q1, q2⟩ := ev_spec_num (rdOf ByteArray.empty (partsB s).1 0)
     refine Ev.bind e ?_
     cases hv : numV (rdOf ByteArray.empty (partsB s).1 0) with
     | none =>
      obtain rfl := q2 hv
      exact evNeg (by simp) (Ev.now _)
     | some v =>
      obtain ⟨rfl, rfl⟩ := q1 v hv
      exact evPos rfl (fin n)
    ·rw [if_neg hc]
     exact evNeg hc (fin _)
  ·rw [show (decide (1 ≤ ((partsB s).1.length : Int)) && decide (((partsB s).1.length : Int) ≤ 4)) = false by rw [Bool.and_eq_false_iff, decide_eq_false_iff_not, decide_eq_false_iff_not]; omega, if_neg (fun z => h3 z.2)]
   exact evBindS rfl (evNeg (by simp) bad)
 ·rw [if_neg (fun z => h2 z.1)]
  exact evNeg h2 bad
theorem ev_impl_ReadCallLine (arch : Int) (s : ByteArray) : Ev (fun k => impl_ReadCallLine.f k arch s) (rcl arch s) := by
 have hle := partsB_le s
 simp only [impl_ReadCallLine.f]
 refine Ev.bind (ev_impl_PartsOf s) ?_
 have bad : Ev (fun k => impl_ReadCallLine.j0 k arch (partsB s).1 true) noCall := by
  refine evSucc ?_
  simp only [impl_ReadCallLine.j0]
  exact evPos trivial (Ev.now _)
 unfold rcl
 by_cases h2 : (partsB s).2 = true
 ·refine evPos h2 ?_
  rw [within_f]
  refine evBindS rfl ?_
  by_cases h3 : 1 ≤ (partsB s).1.length ∧ (partsB s).1.length ≤ 4
  ·rw [show (decide (1 ≤ ((partsB s).1.length : Int)) && decide (((partsB s).1.length : Int) ≤ 4)) = true by rw [Bool.and_eq_true, decide_eq_true_eq, decide_eq_true_eq]; omega, if_pos ⟨h2, h3⟩]
   refine evSucc ?_
   simp only [impl_ReadCallLine.j0]
   refine evNeg (by simp) (evPos (by omega) (Ev.bind (ev_impl_CallNumber _) (evPos (by omega) ?_)))
   simp only [Option.bind_some]
   have hq : ∀ x ∈ (partsB s).1.drop 1, x.size ≤ 600 := fun x hx => hle x (List.mem_of_mem_drop hx)
   have hql : ((partsB s).1.drop 1).length ≤ 3 := by rw [List.length_drop]; omega
   have fin : ∀ n, halfB n = true → Ev (fun k => impl_ReadCallLine.j1 k (partsB s).1 arch n (List.replicate 3 z103)) (goW arch n (halfB arch) ((partsB s).1.drop 1) []) := by
    intro n hn
    refine evSucc ?_
    simp only [impl_ReadCallLine.j1, Option.bind_some]
    refine evPos (by omega) ?_
    exact ev_impl_goW arch n hn _ hq hql ((partsB s).1.drop 1).length 0 [] (by omega) rfl rfl
   have hh := @headNum_half (rdOf ByteArray.empty (partsB s).1 0)
   unfold headNum at hh ⊢
   by_cases hc : srch (rdOf ByteArray.empty (partsB s).1 0) namesL 0 < 0
   ·rw [if_pos hc] at hh ⊢
    refine evPos hc ?_
    obtain ⟨n, ok, e, q1, q2⟩ := ev_impl_num (rdOf ByteArray.empty (partsB s).1 0)
    refine Ev.bind e ?_
    cases hv : numV (rdOf ByteArray.empty (partsB s).1 0) with
    | none =>
     obtain rfl := q2 hv
     exact evNeg (by simp) (Ev.now _)
    | some v =>
     obtain ⟨rfl, rfl⟩ := q1 v hv
     exact evPos rfl (fin n (hh hv))
   ·rw [if_neg hc] at hh ⊢
    exact evNeg hc (fin _ (hh rfl))
  ·rw [show (decide (1 ≤ ((partsB s).1.length : Int)) && decide (((partsB s).1.length : Int) ≤ 4)) = false by rw [Bool.and_eq_false_iff, decide_eq_false_iff_not, decide_eq_false_iff_not]; omega, if_neg (fun z => h3 z.2)]
   exact bad
 ·rw [if_neg (fun z => h2 z.1)]
  exact evNeg h2 bad
theorem goW_len (arch n : Int) (ok : Bool) : ∀ l acc, acc.length + l.length ≤ 3 → (goW arch n ok l acc).2.2.1.length ≤ 3 := by
 intro l
 induction l with
 | nil =>
  intro acc h
  unfold goW
  split
  ·rw [fillLen acc (by simpa using h)]; exact Nat.le_refl _
  ·exact Nat.zero_le _
 | cons t l ih =>
  intro acc h
  unfold goW
  split
  ·exact Nat.zero_le _
  ·exact ih _ (by rw [List.length_append, List.length_singleton]; rw [List.length_cons] at h; omega)
theorem rcl_len (arch : Int) (s : ByteArray) : (rcl arch s).2.2.1.length ≤ 3 := by
 unfold rcl
 split
 ·rename_i h
  split
  ·exact Nat.zero_le _
  ·exact goW_len _ _ _ _ _ (by rw [List.length_nil, List.length_drop]; omega)
 ·exact Nat.zero_le _
def ctStep (s : ByteArray) (w : S103) : ByteArray := (s ++ four4 w.f0) ++ four4 w.f1
def ctAll (a b : Int) (l : List S103) : ByteArray := l.foldl ctStep (four4 a ++ four4 b)
theorem ct_size (a b : Int) (l : List S103) : (ctAll a b l).size = 8 + 8 * l.length := by
 have key : ∀ (l : List S103) (s : ByteArray), (l.foldl ctStep s).size = s.size + 8 * l.length := by
  intro l
  induction l with
  | nil => intro s; simp
  | cons w l ih => intro s; rw [List.foldl_cons, ih]; simp [ctStep, sizeApp, four4_size]; omega
 unfold ctAll
 rw [key, sizeApp, four4_size, four4_size]
theorem ct_step (a b : Int) (l : List S103) (i : Nat) (hi : i < l.length) : ctAll a b (l.take (i + 1)) = ctStep (ctAll a b (l.take i)) l[i] := by
 unfold ctAll
 rw [takeSnoc l i hi, List.foldl_append]
 rfl
def ctB (a b : Int) (l : List S103) : ByteArray × Bool := if callB a b l = true then (ctAll a b l, true) else (⟨#[]⟩, false)
theorem ev_spec_CallText (a b : Int) (l : List S103) (hl : l.length ≤ 1048576) : Ev (fun k => spec_CallText.f k a b l) (ctB a b l) := by
 simp only [spec_CallText.f]
 refine Ev.bind (ev_spec_CallOk a b l hl) ?_
 unfold ctB
 by_cases h : callB a b l = true
 ·rw [if_pos h]
  refine evPos h ?_
  simp only [spec_four4, Option.bind_some]
  refine evPos (by rw [four4_size, four4_size]; omega) ?_
  have key := evUp (r := (ctAll a b l, true)) l.length (fun i k => spec_CallText.l0 k (ctAll a b (l.take i)) (i : Int) a b l) ?_ ?_
  ·exact key
  ·intro i hi ih
   have hs := ct_size a b (l.take i)
   have hln : (l.take i).length ≤ i := by simp; omega
   refine evSucc ?_
   simp only [spec_CallText.l0]
   refine evPos (by omega) (evPos (by omega) ?_)
   rw [rdW l i hi, w64 (by omega) (by omega), ci]
   simp only [spec_four4, Option.bind_some]
   refine evPos (by rw [four4_size]; omega) (evPos (by rw [sizeApp, four4_size, four4_size]; omega) ?_)
   have := ct_step a b l i hi
   unfold ctStep at this
   rw [← this]
   exact ih
  ·refine evSucc ?_
   simp only [spec_CallText.l0]
   refine evNeg (by omega) ?_
   rw [List.take_length]
   exact Ev.now _
 ·rw [if_neg h]
  exact evNeg h (Ev.now _)
theorem ev_impl_CallText (a b : Int) (l : List S103) (hl : l.length ≤ 1048576) : Ev (fun k => impl_CallText.f k a b l) (ctB a b l) := by
 simp only [impl_CallText.f]
 refine Ev.bind (ev_impl_CallOk a b l hl) ?_
 unfold ctB
 by_cases h : callB a b l = true
 ·rw [if_pos h]
  refine evPos h ?_
  simp only [impl_four4, Option.bind_some]
  refine evPos (by rw [four4_size, four4_size]; omega) ?_
  have key := evUp (r := (ctAll a b l, true)) l.length (fun i k => impl_CallText.l0 k (ctAll a b (l.take i)) l (l.length : Int) (i : Int)) ?_ ?_
  ·exact key
  ·intro i hi ih
   have hs := ct_size a b (l.take i)
   have hln : (l.take i).length ≤ i := by simp; omega
   refine evSucc ?_
   simp only [impl_CallText.l0]
   refine evPos (by omega) (evPos (by omega) (evPos (by omega) ?_))
   rw [rdW l i hi, w64 (by omega) (by omega), ci]
   simp only [impl_four4, Option.bind_some]
   refine evPos (by rw [four4_size]; omega) (evPos (by rw [sizeApp, four4_size, four4_size]; omega) ?_)
   have := ct_step a b l i hi
   unfold ctStep at this
   rw [← this]
   exact ih
  ·refine evSucc ?_
   simp only [impl_CallText.l0]
   refine evNeg (by omega) ?_
   rw [List.take_length]
   exact Ev.now _
 ·rw [if_neg h]
  exact evNeg h (Ev.now _)
def argsOf (t : ByteArray) : List S103 := [⟨fourV t 8, fourV t 12⟩, ⟨fourV t 16, fourV t 20⟩, ⟨fourV t 24, fourV t 28⟩]
theorem ev_spec_ReadCall (t : ByteArray) (h : t.size = 32) : Ev (fun k => spec_ReadCall.f k t) (fourV t 0, fourV t 4, argsOf t, true) := by
 simp only [spec_ReadCall.f]
 refine evPos (by omega) ?_
 refine evBindS (fourAt_spec t 0 (by omega) (by omega) (by omega)) (evBindS (fourAt_spec t 4 (by omega) (by omega) (by omega)) ?_)
 refine evSucc ?_
 simp only [spec_ReadCall.l0]
 refine evPos (by omega) (evBindS (fourAt_spec t _ (by unfold wrap64; omega) (by rw [show wrap64 (8 + wrap64 (8 * 0)) = 8 from by unfold wrap64; omega]; omega) (by omega)) (evBindS (fourAt_spec t _ (by unfold wrap64; omega) (by rw [show wrap64 (12 + wrap64 (8 * 0)) = 12 from by unfold wrap64; omega]; omega) (by omega)) (evPos (by simp) (evSucc ?_))))
 simp only [spec_ReadCall.l0]
 refine evPos (by unfold wrap64; omega) (evBindS (fourAt_spec t _ (by unfold wrap64; omega) (by rw [show wrap64 (8 + wrap64 (8 * wrap64 (0 + 1))) = 16 from by unfold wrap64; omega]; omega) (by omega)) (evBindS (fourAt_spec t _ (by unfold wrap64; omega) (by rw [show wrap64 (12 + wrap64 (8 * wrap64 (0 + 1))) = 20 from by unfold wrap64; omega]; omega) (by omega)) (evPos (by simp) (evSucc ?_))))
 simp only [spec_ReadCall.l0]
 refine evPos (by unfold wrap64; omega) (evBindS (fourAt_spec t _ (by unfold wrap64; omega) (by rw [show wrap64 (8 + wrap64 (8 * wrap64 (wrap64 (0 + 1) + 1))) = 24 from by unfold wrap64; omega]; omega) (by omega)) (evBindS (fourAt_spec t _ (by unfold wrap64; omega) (by rw [show wrap64 (12 + wrap64 (8 * wrap64 (wrap64 (0 + 1) + 1))) = 28 from by unfold wrap64; omega]; omega) (by omega)) (evPos (by simp) (evSucc ?_))))
 simp only [spec_ReadCall.l0]
 refine evNeg (by unfold wrap64; omega) (evEq (Ev.now _) ?_)
 simp [argsOf, wrap64]
theorem ev_impl_ReadCall (t : ByteArray) (h : t.size = 32) : Ev (fun k => impl_ReadCall.f k t) (fourV t 0, fourV t 4, argsOf t, true) := by
 simp only [impl_ReadCall.f]
 refine evPos (by omega) ?_
 refine evBindS (fourAt_impl t 0 (by omega) (by omega) (by omega)) (evBindS (fourAt_impl t 4 (by omega) (by omega) (by omega)) ?_)
 refine evSucc ?_
 simp only [impl_ReadCall.l0]
 refine evPos (by omega) (evBindS (fourAt_impl t _ (by unfold wrap64; omega) (by rw [show wrap64 (8 + wrap64 (8 * 0)) = 8 from by unfold wrap64; omega]; omega) (by omega)) (evBindS (fourAt_impl t _ (by unfold wrap64; omega) (by rw [show wrap64 (12 + wrap64 (8 * 0)) = 12 from by unfold wrap64; omega]; omega) (by omega)) (evPos (by simp) (evSucc ?_))))
 simp only [impl_ReadCall.l0]
 refine evPos (by unfold wrap64; omega) (evBindS (fourAt_impl t _ (by unfold wrap64; omega) (by rw [show wrap64 (8 + wrap64 (8 * wrap64 (0 + 1))) = 16 from by unfold wrap64; omega]; omega) (by omega)) (evBindS (fourAt_impl t _ (by unfold wrap64; omega) (by rw [show wrap64 (12 + wrap64 (8 * wrap64 (0 + 1))) = 20 from by unfold wrap64; omega]; omega) (by omega)) (evPos (by simp) (evSucc ?_))))
 simp only [impl_ReadCall.l0]
 refine evPos (by unfold wrap64; omega) (evBindS (fourAt_impl t _ (by unfold wrap64; omega) (by rw [show wrap64 (8 + wrap64 (8 * wrap64 (wrap64 (0 + 1) + 1))) = 24 from by unfold wrap64; omega]; omega) (by omega)) (evBindS (fourAt_impl t _ (by unfold wrap64; omega) (by rw [show wrap64 (12 + wrap64 (8 * wrap64 (wrap64 (0 + 1) + 1))) = 28 from by unfold wrap64; omega]; omega) (by omega)) (evPos (by simp) (evSucc ?_))))
 simp only [impl_ReadCall.l0]
 refine evNeg (by unfold wrap64; omega) (evEq (Ev.now _) ?_)
 simp [argsOf, wrap64]
theorem both (t : ByteArray) : ∃ a b l ok, l.length ≤ 3 ∧ Ev (fun k => spec_ReadCall.f k t) (a, b, l, ok) ∧ Ev (fun k => impl_ReadCall.f k t) (a, b, l, ok) := by
 by_cases h : t.size = 32
 ·exact ⟨_, _, _, _, by simp [argsOf], ev_spec_ReadCall t h, ev_impl_ReadCall t h⟩
 ·refine ⟨0, 0, [], false, by simp, ?_, ?_⟩
  ·simp only [spec_ReadCall.f]; exact evNeg (by omega) (Ev.now _)
  ·simp only [impl_ReadCall.f]; exact evNeg (by omega) (Ev.now _)
theorem ev_l08 : ∀ (m : Nat) (x : Int) (out : ByteArray), x.toNat = m → 0 ≤ x → x ≤ 9223372036854775807 → out.size + m ≤ 9223372036854775807 → out.size < 9223372036854775807 →
 Ev (fun k => spec_l08Figures.l0 k x out) (dec x.toNat ++ out) := by
 intro m
 induction m using Nat.strongRecOn with
 | ind m ih =>
  intro x out hm h0 h1 hs hs1
  refine evSucc ?_
  simp only [spec_l08Figures.l0, Option.bind_some]
  by_cases h : x > 9
  ·refine evPos h ?_
   rw [Int.tmod_eq_emod_of_nonneg h0, Int.tdiv_eq_ediv_of_nonneg h0, w64 (x := 48 + x % 10) (by omega) (by omega), dg_of (x % 10) (by omega) (by omega), w64 (by omega) (by omega)]
   rw [show dg (x % 10).toNat = dg x.toNat by unfold dg; rw [show (x % 10).toNat % 10 = x.toNat % 10 by omega]]
   refine evPos (by rw [dg_size]; omega) ?_
   have := ih (x / 10).toNat (by omega) (x / 10) (dg x.toNat ++ out) rfl (by omega) (by omega) (by rw [sizeApp, dg_size]; omega) (by rw [sizeApp, dg_size]; omega)
   rw [show (x / 10).toNat = x.toNat / 10 by omega, ← ByteArray.append_assoc, ← dec_step x.toNat (by omega)] at this
   exact this
  ·refine evNeg h ?_
   rw [w64 (x := 48 + x) (by omega) (by omega), dg_of x h0 (by omega), ← dec_small x.toNat (by omega)]
   exact evPos (by rw [dec_small x.toNat (by omega), dg_size]; omega) (Ev.now _)
def num0 (x : Int) : ByteArray := dec x.toNat
theorem num0_size (x : Int) (h : x ≤ 9223372036854775807) : (num0 x).size ≤ 19 := dec_size _ (by omega)
theorem one32c : (⟨#[32]⟩ : ByteArray).size = 1 := rfl
theorem one58 : (⟨#[58]⟩ : ByteArray).size = 1 := rfl
def cNames : List ByteArray := [(⟨#[114, 101, 97, 100]⟩ : ByteArray), (⟨#[119, 114, 105, 116, 101]⟩ : ByteArray), (⟨#[111, 112, 101, 110]⟩ : ByteArray), (⟨#[99, 108, 111, 115, 101]⟩ : ByteArray), (⟨#[115, 116, 97, 116]⟩ : ByteArray), (⟨#[109, 109, 97, 112]⟩ : ByteArray), (⟨#[101, 120, 101, 99]⟩ : ByteArray), (⟨#[102, 111, 114, 107]⟩ : ByteArray), (⟨#[107, 105, 108, 108]⟩ : ByteArray), (⟨#[115, 101, 110, 100]⟩ : ByteArray), (⟨#[114, 101, 99, 118]⟩ : ByteArray), (⟨#[101, 120, 105, 116]⟩ : ByteArray)]
def nameOf (n : Int) : ByteArray := if n < 12 then rdOf ByteArray.empty cNames n else num0 n
def scStep (s : ByteArray) (w : S103) : ByteArray :=
 if w.f0 > 0 then (((s ++ (⟨#[32]⟩ : ByteArray)) ++ num0 w.f0) ++ (⟨#[58]⟩ : ByteArray)) ++ num0 w.f1 else (s ++ (⟨#[32]⟩ : ByteArray)) ++ num0 w.f1
theorem num0_decI (x : Int) (h : 0 ≤ x) : num0 x = decI x := by
 unfold num0 decI
 rw [if_neg (by omega), show x.toNat = x.natAbs by omega]
theorem ev_fig (x : Int) (h0 : 0 ≤ x) (h1 : x ≤ 9223372036854775807) : Ev (fun k => spec_l08Figures.f k x) (num0 x) := by
 simp only [spec_l08Figures.f]
 refine evNeg (by omega) (evSucc ?_)
 simp only [spec_l08Figures.j0]
 exact evEq (ev_l08 _ x _ rfl (by omega) h1 (by show 0 + x.toNat ≤ _; omega) (by show 0 < _; omega)) ByteArray.append_empty
theorem ev_dec0 (x : Int) (h0 : 0 ≤ x) (h1 : x ≤ 9223372036854775807) : Ev (fun k => impl_Decimal.f k x) (num0 x) := by
 rw [num0_decI x h0]
 exact ev_impl_Decimal x (by omega) h1
theorem half_of {n : Int} (h : halfB n = true) : 0 ≤ n ∧ n ≤ 4294967295 := by unfold halfB at h; simpa using h
theorem name_size (n : Int) (h0 : 0 ≤ n) (h1 : n ≤ 4294967295) : (nameOf n).size ≤ 19 := by
 unfold nameOf
 by_cases h : n < 12
 ·rw [if_pos h]
  have : n = 0 ∨ n = 1 ∨ n = 2 ∨ n = 3 ∨ n = 4 ∨ n = 5 ∨ n = 6 ∨ n = 7 ∨ n = 8 ∨ n = 9 ∨ n = 10 ∨ n = 11 := by omega
  rcases this with rfl | rfl | rfl | rfl | rfl | rfl | rfl | rfl | rfl | rfl | rfl | rfl <;> decide
 ·rw [if_neg h]; exact num0_size n (by omega)
theorem sc_size (s : ByteArray) (w : S103) (h : wideB w = true) : (scStep s w).size ≤ s.size + 40 := by
 unfold wideB at h
 simp at h
 have h1 := num0_size w.f0 (by have := half_of h.1; omega)
 have h2 := num0_size w.f1 (by have := half_of h.2; omega)
 unfold scStep
 split <;> simp only [sizeApp, one32c, one58] <;> omega
def scAll (n : Int) (l : List S103) : ByteArray := l.foldl scStep (nameOf n)
theorem scAll_size (n : Int) (h0 : 0 ≤ n) (h1 : n ≤ 4294967295) (l : List S103) (hl : ∀ w ∈ l, wideB w = true) : (scAll n l).size ≤ 19 + 40 * l.length := by
 have key : ∀ (l : List S103), (∀ w ∈ l, wideB w = true) → ∀ s : ByteArray, (l.foldl scStep s).size ≤ s.size + 40 * l.length := by
  intro l
  induction l with
  | nil => intro _ s; simp
  | cons w l ih =>
   intro hl s
   rw [List.foldl_cons]
   have h1 := ih (fun w hw => hl w (by simp [hw])) (scStep s w)
   have h2 := sc_size s w (hl w (by simp))
   simp only [List.length_cons]
   omega
 have h := key l hl (nameOf n)
 have h2 := name_size n h0 h1
 unfold scAll
 omega
theorem sc_step (n : Int) (l : List S103) (i : Nat) (hi : i < l.length) : scAll n (l.take (i + 1)) = scStep (scAll n (l.take i)) l[i] := by
 unfold scAll
 rw [takeSnoc l i hi, List.foldl_append]
 rfl
def callLine (a n : Int) (l : List S103) : ByteArray := if callB a n l = true then scAll n l else ⟨#[]⟩
theorem callB_facts {a n : Int} {l : List S103} (h : callB a n l = true) : (∀ w ∈ l, wideB w = true) ∧ (0 ≤ a ∧ a ≤ 4294967295) ∧ (0 ≤ n ∧ n ≤ 4294967295) ∧ l.length = 3 := by
 unfold callB at h
 simp at h
 exact ⟨h.1, half_of h.2.1, half_of h.2.2.1, h.2.2.2⟩
theorem ev_spec_ShowCall (a n : Int) (l : List S103) (hl : l.length ≤ 1048576) : Ev (fun k => spec_ShowCall.f k a n l) (callLine a n l) := by
 unfold callLine
 simp only [spec_ShowCall.f]
 refine Ev.bind (ev_spec_CallOk a n l hl) ?_
 by_cases h : callB a n l = true
 ·rw [if_pos h]
  refine evPos h ?_
  obtain ⟨hw, ha, hn, h3⟩ := callB_facts h
  simp only [spec_CallNames.f, Option.bind_some]
  refine Ev.bind (ev_fig n hn.1 (by omega)) ?_
  have loop : Ev (fun k => spec_ShowCall.j0 k (nameOf n) a n l) (scAll n l) := by
   refine evSucc ?_
   simp only [spec_ShowCall.j0]
   have key := evUp (r := scAll n l) l.length (fun i k => spec_ShowCall.l0 k (scAll n (l.take i)) (i : Int) a n l) ?_ ?_
   ·exact key
   ·intro i hi ih
    have hs := scAll_size n hn.1 hn.2 (l.take i) (fun w hx => hw w (List.mem_of_mem_take hx))
    have hln : (l.take i).length ≤ i := by simp; omega
    have hi' := hw _ (List.getElem_mem hi)
    unfold wideB at hi'
    simp at hi'
    have b0 := half_of hi'.1
    have b1 := half_of hi'.2
    have s0 := num0_size l[i].f0 (by omega)
    have s1 := num0_size l[i].f1 (by omega)
    have st := sc_step n l i hi
    unfold scStep at st
    refine evSucc ?_
    simp only [spec_ShowCall.l0]
    refine evPos (by omega) (evPos (by omega) (evPos (by omega) ?_))
    rw [rdW l i hi, w64 (by omega) (by omega), ci]
    by_cases hp : l[i].f0 > 0
    ·rw [if_pos hp] at st
     refine evPos hp (Ev.bind (ev_fig _ b0.1 (by omega)) (evPos (by simp only [sizeApp, one32c]; omega) (evPos (by simp only [sizeApp, one32c]; omega) (Ev.bind (ev_fig _ b1.1 (by omega)) (evPos (by simp only [sizeApp, one32c, one58]; omega) ?_)))))
     rw [← st]
     exact ih
    ·rw [if_neg hp] at st
     refine evNeg hp (Ev.bind (ev_fig _ b1.1 (by omega)) (evPos (by simp only [sizeApp, one32c]; omega) ?_))
     rw [← st]
     exact ih
   ·refine evSucc ?_
    simp only [spec_ShowCall.l0]
    refine evNeg (by omega) ?_
    rw [List.take_length]
    exact Ev.now _
  by_cases h12 : n < 12
  ·refine evPos (by simpa using h12) (evPos hn.1 ?_)
   unfold nameOf at loop
   rw [if_pos h12] at loop
   exact loop
  ·refine evNeg (by simpa using h12) ?_
   unfold nameOf at loop
   rw [if_neg h12] at loop
   exact loop
 ·rw [if_neg h]
  exact evNeg h (Ev.now _)
theorem ev_impl_ShowCall (a n : Int) (l : List S103) (hl : l.length ≤ 1048576) : Ev (fun k => impl_ShowCall.f k a n l) (callLine a n l) := by
 unfold callLine
 simp only [impl_ShowCall.f]
 refine Ev.bind (ev_impl_CallOk a n l hl) ?_
 by_cases h : callB a n l = true
 ·rw [if_pos h]
  refine evPos h ?_
  obtain ⟨hw, ha, hn, h3⟩ := callB_facts h
  refine Ev.bind (ev_dec0 n hn.1 (by omega)) ?_
  simp only [impl_CallNames.f, Option.bind_some]
  have loop : Ev (fun k => impl_ShowCall.j0 k (nameOf n) a n l) (scAll n l) := by
   refine evSucc ?_
   simp only [impl_ShowCall.j0]
   have key := evUp (r := scAll n l) l.length (fun i k => impl_ShowCall.l0 k (scAll n (l.take i)) l (l.length : Int) (i : Int)) ?_ ?_
   ·exact key
   ·intro i hi ih
    have hs := scAll_size n hn.1 hn.2 (l.take i) (fun w hx => hw w (List.mem_of_mem_take hx))
    have hln : (l.take i).length ≤ i := by simp; omega
    have hi' := hw _ (List.getElem_mem hi)
    unfold wideB at hi'
    simp at hi'
    have b0 := half_of hi'.1
    have b1 := half_of hi'.2
    have s0 := num0_size l[i].f0 (by omega)
    have s1 := num0_size l[i].f1 (by omega)
    have st := sc_step n l i hi
    unfold scStep at st
    refine evSucc ?_
    simp only [impl_ShowCall.l0]
    refine evPos (by omega) (evPos (by omega) (evPos (by omega) (evPos (by omega) ?_)))
    rw [rdW l i hi, w64 (by omega) (by omega), ci]
    by_cases hp : l[i].f0 > 0
    ·rw [if_pos hp] at st
     refine evPos hp (Ev.bind (ev_dec0 _ b0.1 (by omega)) (evPos (by simp only [sizeApp, one32c]; omega) (evPos (by simp only [sizeApp, one32c]; omega) (Ev.bind (ev_dec0 _ b1.1 (by omega)) (evPos (by simp only [sizeApp, one32c, one58]; omega) ?_)))))
     rw [← st]
     exact ih
    ·rw [if_neg hp] at st
     refine evNeg hp (Ev.bind (ev_dec0 _ b1.1 (by omega)) (evPos (by simp only [sizeApp, one32c]; omega) ?_))
     rw [← st]
     exact ih
   ·refine evSucc ?_
    simp only [impl_ShowCall.l0]
    refine evNeg (by omega) ?_
    rw [List.take_length]
    exact Ev.now _
  by_cases h12 : n < 12
  ·refine evPos (by simpa using h12) (evPos hn.1 ?_)
   unfold nameOf at loop
   rw [if_pos h12] at loop
   exact loop
  ·refine evNeg (by simpa using h12) ?_
   unfold nameOf at loop
   rw [if_neg h12] at loop
   exact loop
 ·rw [if_neg h]
  exact evNeg h (Ev.now _)
theorem and255 (x : Int) : 0 ≤ Go.bits .and .i64 x 255 ∧ Go.bits .and .i64 x 255 ≤ 255 := by
 have e : Go.bits .and .i64 x 255 = (((BitVec.ofInt 64 x).toNat % 256 : Nat) : Int) := by
  rw [bits_nat]
  show IntKind.wrap .i64 ((BitVec.ofInt 64 x &&& BitVec.ofInt 64 ((255 : Nat) : Int)).toNat : Int) = _
  rw [BitVec.toNat_and, ofInt_nat64 255 (by omega), wrap_i64]
  have : (BitVec.ofInt 64 x).toNat &&& 255 = (BitVec.ofInt 64 x).toNat % 256 := Nat.and_two_pow_sub_one_eq_mod _ 8
  rw [this, w64 (by omega) (by omega)]
 rw [e]
 omega
theorem drawByte (b : List Int) (i h : Int) (h0 : 0 ≤ i) (h1 : i ≤ b.length) (hb : b.length ≤ 16777216) : ∃ x i' h', spec_l01Byte.f b i h = some (x, i', h') ∧ 0 ≤ x ∧ x ≤ 255 ∧ 0 ≤ i' ∧ i' ≤ b.length := by
 unfold spec_l01Byte.f
 by_cases hc : i < (b.length : Int)
 ·rw [if_pos hc, if_pos h0, w64 (x := i + 1) (by omega) (by omega)]
  refine ⟨_, _, _, rfl, (and255 _).1, (and255 _).2, by omega, by omega⟩
 ·rw [if_neg hc]
  exact ⟨_, _, _, rfl, (and255 _).1, (and255 _).2, h0, h1⟩
theorem drawBelow (b : List Int) (i h n : Int) (h0 : 0 ≤ i) (h1 : i ≤ b.length) (hb : b.length ≤ 16777216) (hn : 0 < n) : ∃ x i' h', spec_l01Below.f b i h n = some (x, i', h') ∧ 0 ≤ x ∧ x < n ∧ 0 ≤ i' ∧ i' ≤ b.length := by
 unfold spec_l01Below.f
 rw [if_neg (by omega)]
 by_cases hc : n ≤ 256
 ·obtain ⟨x, i', h', e, x0, x1, i0, i1⟩ := drawByte b i h h0 h1 hb
  rw [if_pos hc, e]
  simp only [Option.bind_some]
  rw [if_neg (by omega), Int.tmod_eq_emod_of_nonneg x0]
  exact ⟨_, _, _, rfl, Int.emod_nonneg _ (by omega), Int.emod_lt_of_pos _ hn, i0, i1⟩
 ·obtain ⟨x, i1, h1', e1, x0, x1, j0, j1⟩ := drawByte b i h h0 h1 hb
  obtain ⟨y, i2, h2', e2, y0, y1, k0, k1⟩ := drawByte b i1 h1' j0 j1 hb
  obtain ⟨z, i3, h3', e3, z0, z1, l0, l1⟩ := drawByte b i2 h2' k0 k1 hb
  obtain ⟨v, i4, h4', e4, v0, v1, m0, m1⟩ := drawByte b i3 h3' l0 l1 hb
  rw [if_neg hc, e1]
  simp only [Option.bind_some, e2, e3, e4]
  rw [if_neg (by omega), w64 (x := x * 16777216) (by omega) (by omega), w64 (x := y * 65536) (by omega) (by omega), w64 (x := x * 16777216 + y * 65536) (by omega) (by omega), w64 (x := z * 256) (by omega) (by omega), w64 (x := x * 16777216 + y * 65536 + z * 256) (by omega) (by omega), w64 (x := x * 16777216 + y * 65536 + z * 256 + v) (by omega) (by omega), Int.tmod_eq_emod_of_nonneg (by omega)]
  exact ⟨_, _, _, rfl, Int.emod_nonneg _ (by omega), Int.emod_lt_of_pos _ hn, m0, m1⟩
theorem drawOnce (b : List Int) (i h n : Int) (h0 : 0 ≤ i) (h1 : i ≤ b.length) (hb : b.length ≤ 16777216) (hn : 0 < n) : ∃ (x : Bool) (i' h' : Int), spec_l01Once.f b i h n = some (x, i', h') ∧ 0 ≤ i' ∧ i' ≤ b.length := by
 unfold spec_l01Once.f
 obtain ⟨x, i', h', e, x0, x1, i0, i1⟩ := drawBelow b i h n h0 h1 hb hn
 rw [e]
 exact ⟨_, _, _, rfl, i0, i1⟩
theorem drawNew (b : List Int) (hb : b.length ≤ 16777216) : ∃ h : Int, Ev (fun k => spec_l01New.f k b) (b, 0, h) := by
 have key : ∀ d (i : Nat) (h : Int), i + d = b.length → ∃ h', Ev (fun k => spec_l01New.l0 k b h (i : Int)) (b, 0, h') := by
  intro d
  induction d with
  | zero =>
   intro i h hi
   refine ⟨h, evSucc ?_⟩
   simp only [spec_l01New.l0]
   exact evNeg (by omega) (Ev.now _)
  | succ d ih =>
   intro i h hi
   by_cases h4 : (i : Int) < 4000
   ·obtain ⟨h', hh⟩ := ih (i + 1) (Go.bits .and .i64 (wrap64 ((wrap64 ((wrap64 (h * 131)) + (wrap64 (rd b (i : Int))))) + 7)) 1073741823) (by omega)
    refine ⟨h', evSucc ?_⟩
    simp only [spec_l01New.l0]
    refine evPos (by omega) (evPos h4 (evPos (by omega) ?_))
    rw [w64 (x := (i : Int) + 1) (by omega) (by omega), ci]
    exact hh
   ·refine ⟨h, evSucc ?_⟩
    simp only [spec_l01New.l0]
    exact evPos (by omega) (evNeg h4 (Ev.now _))
 simp only [spec_l01New.f]
 exact key b.length 0 _ (by omega)
theorem drawHalf (b : List Int) (i h : Int) (h0 : 0 ≤ i) (h1 : i ≤ b.length) (hb : b.length ≤ 16777216) : ∃ x i' h', spec_l04Half.f b i h = some (x, i', h') ∧ 0 ≤ x ∧ x ≤ 4294967295 ∧ 0 ≤ i' ∧ i' ≤ b.length := by
 unfold spec_l04Half.f
 obtain ⟨x, i1, h1', e1, x0, x1, j0, j1⟩ := drawBelow b i h 12 h0 h1 hb (by omega)
 rw [e1]
 simp only [Option.bind_some]
 unfold spec_l01PickInt.f
 obtain ⟨y, i2, h2', e2, y0, y1, k0, k1⟩ := drawBelow b i1 h1' (([0, 1, 2, 3, 5, 7, 255, 4294967295, 2147483648, x] : List Int).length : Int) j0 j1 hb (by simp)
 rw [e2]
 simp only [Option.bind_some]
 rw [if_pos y0, if_pos y1]
 simp only [Option.bind_some]
 have hy : y < 10 := y1
 refine ⟨_, _, _, rfl, ?_, ?_, k0, k1⟩
 all_goals
  have hc : y = 0 ∨ y = 1 ∨ y = 2 ∨ y = 3 ∨ y = 4 ∨ y = 5 ∨ y = 6 ∨ y = 7 ∨ y = 8 ∨ y = 9 := by omega
  rcases hc with rfl | rfl | rfl | rfl | rfl | rfl | rfl | rfl | rfl | rfl <;> simp [rd] <;> omega
theorem rdMem (l : List Int) (x : Int) (h0 : 0 ≤ x) (h1 : x < (l.length : Int)) : rd l x ∈ l := by
 unfold rd
 rw [List.getD_eq_getElem?_getD, List.getElem?_eq_getElem (by omega)]
 exact List.getElem_mem _
theorem rdOfMem (l : List ByteArray) (x : Int) (h0 : 0 ≤ x) (h1 : x < (l.length : Int)) : rdOf ByteArray.empty l x ∈ l := by
 unfold rdOf
 rw [List.getD_eq_getElem?_getD, List.getElem?_eq_getElem (by omega)]
 exact List.getElem_mem _
theorem drawPickInt (b : List Int) (i h : Int) (l : List Int) (hl : 0 < l.length) (h0 : 0 ≤ i) (h1 : i ≤ b.length) (hb : b.length ≤ 16777216) : ∃ x i' h', spec_l01PickInt.f b i h l = some (x, i', h') ∧ x ∈ l ∧ 0 ≤ i' ∧ i' ≤ b.length := by
 unfold spec_l01PickInt.f
 obtain ⟨y, i2, h2', e2, y0, y1, k0, k1⟩ := drawBelow b i h (l.length : Int) h0 h1 hb (by omega)
 rw [e2]
 simp only [Option.bind_some]
 rw [if_pos y0, if_pos y1]
 exact ⟨_, _, _, rfl, rdMem l y y0 y1, k0, k1⟩
theorem drawPick (b : List Int) (i h : Int) (l : List ByteArray) (hl : 0 < l.length) (h0 : 0 ≤ i) (h1 : i ≤ b.length) (hb : b.length ≤ 16777216) : ∃ x i' h', spec_l01Pick.f b i h l = some (x, i', h') ∧ x ∈ l ∧ 0 ≤ i' ∧ i' ≤ b.length := by
 unfold spec_l01Pick.f
 obtain ⟨y, i2, h2', e2, y0, y1, k0, k1⟩ := drawBelow b i h (l.length : Int) h0 h1 hb (by omega)
 rw [e2]
 simp only [Option.bind_some]
 rw [if_pos y0, if_pos y1]
 exact ⟨_, _, _, rfl, rdOfMem l y y0 y1, k0, k1⟩
theorem halfB_of {x : Int} (h0 : 0 ≤ x) (h1 : x ≤ 4294967295) : halfB x = true := by
 unfold halfB
 rw [Bool.and_eq_true, decide_eq_true_eq, decide_eq_true_eq]
 exact ⟨h0, h1⟩
theorem drawWide (b : List Int) (i h : Int) (h0 : 0 ≤ i) (h1 : i ≤ b.length) (hb : b.length ≤ 16777216) : ∃ x y i' h', spec_l04Wide.f b i h = some (x, y, i', h') ∧ wideB (⟨x, y⟩ : S103) = true ∧ 0 ≤ i' ∧ i' ≤ b.length := by
 unfold spec_l04Wide.f
 obtain ⟨y, i1, h1', e1, y0, y1, j0, j1⟩ := drawHalf b i h h0 h1 hb
 rw [e1]
 simp only [Option.bind_some]
 obtain ⟨c, i2, h2', e2, k0, k1⟩ := drawOnce b i1 h1' 3 j0 j1 hb (by omega)
 rw [e2]
 simp only [Option.bind_some]
 cases c
 ·rw [if_neg (by simp)]
  refine ⟨_, _, _, _, rfl, ?_, k0, k1⟩
  show (halfB 0 && halfB y) = true
  rw [halfB_of y0 y1]
  rfl
 ·rw [if_pos rfl]
  obtain ⟨x, i3, h3', e3, x0, x1, l0, l1⟩ := drawHalf b i2 h2' k0 k1 hb
  rw [e3]
  refine ⟨_, _, _, _, rfl, ?_, l0, l1⟩
  show (halfB x && halfB y) = true
  rw [halfB_of y0 y1, halfB_of x0 x1]
  rfl
theorem drawCall (b : List Int) (hb : b.length ≤ 16777216) (i h : Int) (h0 : 0 ≤ i) (h1 : i ≤ b.length) : ∃ a n l i' h', Ev (fun k => spec_l04Call.f k b i h) (a, n, l, i', h') ∧ halfB a = true ∧ halfB n = true ∧ List.length l = 3 ∧ List.all l wideB = true ∧ 0 ≤ i' ∧ i' ≤ b.length := by
 obtain ⟨a, i1, h1', e1, ha, j0, j1⟩ := drawPickInt b i h [62, 62, 62, 62, 3] (by decide) h0 h1 hb
 obtain ⟨n, i2, h2', e2, hn, k0, k1⟩ := drawPickInt b i1 h1' [0, 1, 2, 3, 4, 6, 9, 11, 4294967295, 77] (by decide) j0 j1 hb
 have ha' : halfB a = true := by
  have : ∀ y ∈ ([62, 62, 62, 62, 3] : List Int), halfB y = true := by decide
  exact this a ha
 have hn' : halfB n = true := by
  have : ∀ y ∈ ([0, 1, 2, 3, 4, 6, 9, 11, 4294967295, 77] : List Int), halfB y = true := by decide
  exact this n hn
 have key : ∀ d (m : Nat) (acc : List S103) (i h : Int), m + d = 3 → acc.length = m → acc.all wideB = true → 0 ≤ i → i ≤ b.length → ∃ l i' h', Ev (fun k => spec_l04Call.l0 k (m : Int) b i h a n acc) (a, n, l, i', h') ∧ List.length l = 3 ∧ List.all l wideB = true ∧ 0 ≤ i' ∧ i' ≤ b.length := by
  intro d
  induction d with
  | zero =>
   intro m acc i h hm hl ha h0 h1
   refine ⟨acc, i, h, evSucc ?_, by omega, ha, h0, h1⟩
   simp only [spec_l04Call.l0]
   exact evNeg (by omega) (Ev.now _)
  | succ d ih =>
   intro m acc i h hm hl ha h0 h1
   obtain ⟨x, y, i3, h3', e3, hw, l0, l1⟩ := drawWide b i h h0 h1 hb
   obtain ⟨l, i', h', e, r1, r2, r3, r4⟩ := ih (m + 1) (acc ++ [⟨x, y⟩]) i3 h3' (by omega) (by rw [List.length_append, List.length_singleton]; omega) (by rw [List.all_append, ha, List.all_cons, hw]; rfl) l0 l1
   refine ⟨l, i', h', evSucc ?_, r1, r2, r3, r4⟩
   simp only [spec_l04Call.l0]
   refine evPos (by omega) (evBindS e3 (evPos (by omega) ?_))
   rw [w64 (by omega) (by omega), ci]
   exact e
 obtain ⟨l, i', h', e, r1, r2, r3, r4⟩ := key 3 0 [] i2 h2' rfl rfl rfl k0 k1
 refine ⟨a, n, l, i', h', ?_, ha', hn', r1, r2, r3, r4⟩
 simp only [spec_l04Call.f]
 exact evBindS e1 (evBindS e2 e)
theorem drawAnyCall (b : List Int) (hb : b.length ≤ 16777216) (i h : Int) (h0 : 0 ≤ i) (h1 : i ≤ b.length) : ∃ a n l i' h', Ev (fun k => spec_l04Any.f k b i h) (a, n, l, i', h') ∧ List.length l ≤ 3 ∧ 0 ≤ i' ∧ i' ≤ b.length := by
 obtain ⟨c, i1, h1', e1, c0, c1, j0, j1⟩ := drawBelow b i h 10 h0 h1 hb (by omega)
 obtain ⟨a, n, l, i2, h2', e2, ha, hn, hl, hw, k0, k1⟩ := drawCall b hb i1 h1' j0 j1
 simp only [spec_l04Any.f]
 by_cases z0 : c = 0
 ·obtain ⟨m, i3, h3', e3, hm, l0, l1⟩ := drawPickInt b i2 h2' [(-1), 4294967296] (by decide) k0 k1 hb
  exact ⟨a, m, l, i3, h3', evBindS e1 (Ev.bind e2 (evPos z0 (evBindS e3 (Ev.now _)))), by omega, l0, l1⟩
 ·by_cases z1 : c = 1
  ·exact ⟨a, n, l.drop (1 : Int).toNat, i2, h2', evBindS e1 (Ev.bind e2 (evNeg z0 (evPos z1 (evPos (by show (1 : Int) ≤ (l.length : Int); omega) (Ev.now _))))), by rw [List.length_drop]; omega, k0, k1⟩
  ·by_cases z2 : c = 2
   ·exact ⟨a, n, l.set (1 : Int).toNat ⟨(-1), (rd_T103 l 1).f1⟩, i2, h2', evBindS e1 (Ev.bind e2 (evNeg z0 (evNeg z1 (evPos z2 (evPos (by show (1 : Int) < (l.length : Int); omega) (Ev.now _)))))), by rw [List.length_set]; omega, k0, k1⟩
   ·by_cases z3 : c = 3
    ·exact ⟨4294967296, n, l, i2, h2', evBindS e1 (Ev.bind e2 (evNeg z0 (evNeg z1 (evNeg z2 (evPos z3 (Ev.now _)))))), by omega, k0, k1⟩
    ·exact ⟨a, n, l, i2, h2', evBindS e1 (Ev.bind e2 (evNeg z0 (evNeg z1 (evNeg z2 (evNeg z3 (Ev.now _)))))), by omega, k0, k1⟩
theorem drawText1 (b : List Int) (hb : b.length ≤ 16777216) (i h : Int) (h0 : 0 ≤ i) (h1 : i ≤ b.length) : ∃ t i' h', Ev (fun k => spec_l01Text.f k b i h 1) (t, i', h') ∧ ByteArray.size t ≤ 1 ∧ 0 ≤ i' ∧ i' ≤ b.length := by
 obtain ⟨x, i1, h1', e1, x0, x1, j0, j1⟩ := drawByte b i h h0 h1 hb
 refine ⟨strOfNums [x % 256], i1, h1', ?_, by rw [strOfNums_size]; exact Nat.le_refl _, j0, j1⟩
 simp only [spec_l01Text.f]
 refine evNeg (by omega) (evSucc ?_)
 simp only [spec_l01Text.j0]
 refine evSucc ?_
 simp only [spec_l01Text.l0]
 refine evPos (by omega) (evBindS e1 (evPos (by show (0 : Nat) < _; omega) (evSucc ?_)))
 simp only [spec_l01Text.l0]
 exact evNeg (by unfold wrap64; omega) (Ev.now _)
theorem drawSpoilt (b : List Int) (hb : b.length ≤ 16777216) (s : ByteArray) (hs : s.size ≤ 1000) (i h : Int) (h0 : 0 ≤ i) (h1 : i ≤ b.length) : ∃ t i' h', Ev (fun k => spec_l02Spoilt.f k b i h s) (t, i', h') ∧ ByteArray.size t ≤ 1001 ∧ 0 ≤ i' ∧ i' ≤ b.length := by
 obtain ⟨c, i1, h1', e1, c0, c1, j0, j1⟩ := drawBelow b i h 12 h0 h1 hb (by omega)
 simp only [spec_l02Spoilt.f]
 have stay : ∀ x : Bool, x = false → ∃ t i' h', Ev (fun k => spec_l02Spoilt.j0 k s x b i1 h1') (t, i', h') ∧ ByteArray.size t ≤ 1001 ∧ 0 ≤ i' ∧ i' ≤ b.length := by
  rintro x rfl
  refine ⟨s, i1, h1', evSucc ?_, by omega, j0, j1⟩
  simp only [spec_l02Spoilt.j0]
  exact evNeg (by simp) (Ev.now _)
 have swap : ∀ x : Bool, x = true → ∃ t i' h', Ev (fun k => spec_l02Spoilt.j0 k s x b i1 h1') (t, i', h') ∧ ByteArray.size t ≤ 1001 ∧ 0 ≤ i' ∧ i' ≤ b.length := by
  rintro x rfl
  by_cases hz : (s.size : Int) > 0
  ·obtain ⟨y, i2, h2', e2, y0, y1, k0, k1⟩ := drawBelow b i1 h1' (s.size : Int) j0 j1 hb hz
   obtain ⟨t, i3, h3', e3, ht, l0, l1⟩ := drawText1 b hb i2 h2' k0 k1
   have hw : wrap64 (y + 1) = y + 1 := w64 (by omega) (by omega)
   refine ⟨((s.extract 0 y.toNat) ++ t) ++ s.extract (y + 1).toNat s.size, i3, h3', evSucc ?_, ?_, l0, l1⟩
   ·simp only [spec_l02Spoilt.j0]
    refine evPos trivial (evPos hz (evBindS e2 (evPos y0 (evPos (by omega) (Ev.bind e3 (evPos (by show (s.extract 0 y.toNat).size + t.size ≤ _; rw [ByteArray.size_extract]; omega) ?_))))))
    rw [hw]
    exact evPos (by omega) (evPos (by omega) (evPos (by show ((s.extract 0 y.toNat) ++ t).size + _ ≤ _; rw [sizeApp, ByteArray.size_extract, ByteArray.size_extract]; omega) (Ev.now _)))
   ·rw [sizeApp, sizeApp, ByteArray.size_extract, ByteArray.size_extract]; omega
  ·refine ⟨s, i1, h1', evSucc ?_, by omega, j0, j1⟩
   simp only [spec_l02Spoilt.j0]
   exact evPos trivial (evNeg hz (Ev.now _))
 by_cases z0 : c = 0
 ·obtain ⟨t, i3, h3', e3, ht, l0, l1⟩ := drawText1 b hb i1 h1' j0 j1
  exact ⟨s ++ t, i3, h3', evBindS e1 (evPos z0 (Ev.bind e3 (evPos (by show s.size + t.size ≤ _; omega) (Ev.now _)))), by rw [sizeApp]; omega, l0, l1⟩
 ·by_cases z1 : c = 1
  ·obtain ⟨y, i2, h2', e2, y0, y1, k0, k1⟩ := drawBelow b i1 h1' (wrap64 ((s.size : Int) + 1)) j0 j1 hb (by rw [w64 (by omega) (by omega)]; omega)
   rw [w64 (x := (s.size : Int) + 1) (by omega) (by omega)] at y1
   exact ⟨s.extract 0 y.toNat, i2, h2', evBindS e1 (evNeg z0 (evPos z1 (evBindS e2 (evPos y0 (evPos (by omega) (Ev.now _)))))), by rw [ByteArray.size_extract]; omega, k0, k1⟩
  ·by_cases z2 : c = 2
   ·obtain ⟨t, i', h', e, r⟩ := swap (c == 2) (by rw [z2]; rfl)
    exact ⟨t, i', h', evBindS e1 (evNeg z0 (evNeg z1 (evPos z2 e))), r⟩
   ·by_cases z3 : c = 3
    ·obtain ⟨t, i', h', e, r⟩ := swap (c == 3) (by rw [z3]; rfl)
     exact ⟨t, i', h', evBindS e1 (evNeg z0 (evNeg z1 (evNeg z2 e))), r⟩
    ·obtain ⟨t, i', h', e, r⟩ := stay (c == 3) (beq_eq_false_iff_ne.2 z3)
     exact ⟨t, i', h', evBindS e1 (evNeg z0 (evNeg z1 (evNeg z2 e))), r⟩
theorem ev_sameCall (a n : Int) (l : List S103) (hl : l.length ≤ 1048576) : Ev (fun k => laws_sameCall.f k a n l a n l) true := by
 simp only [laws_sameCall.f]
 refine evPos trivial (evPos trivial ?_)
 rw [bne_self_eq_false]
 refine evSucc ?_
 simp only [laws_sameCall.j0]
 refine evNeg (by simp) ?_
 have key := evUp (r := true) l.length (fun i k => laws_sameCall.l0 k (i : Int) a n l a n l) ?_ ?_
 ·exact key
 ·intro i hi ih
  refine evSucc ?_
  simp only [laws_sameCall.l0]
  refine evPos (by omega) (evPos (by omega) (evPos (by omega) (evNeg (by simp) ?_)))
  rw [w64 (by omega) (by omega), ci]
  exact ih
 ·refine evSucc ?_
  simp only [laws_sameCall.l0]
  exact evNeg (by omega) (Ev.now _)
theorem ctB_size (a n : Int) (l : List S103) (hl : l.length ≤ 3) : (ctB a n l).1.size ≤ 32 := by
 unfold ctB
 split
 ·show (ctAll a n l).size ≤ 32
  rw [ct_size]; omega
 ·exact Nat.zero_le _
theorem drawReadCall (b : List Int) (hb : b.length ≤ 16777216) : ∃ t, Ev (fun k => spec_DrawReadCall.f k b) t := by
 simp only [spec_DrawReadCall.f]
 obtain ⟨h, e⟩ := drawNew b hb
 obtain ⟨a, n, l, i1, h1', e1, hl, j0, j1⟩ := drawAnyCall b hb 0 h (by omega) (by omega)
 obtain ⟨c, i2, h2', e2, k0, k1⟩ := drawOnce b i1 h1' 4 j0 j1 hb (by omega)
 have hsz := ctB_size a n l hl
 cases c
 ·exact ⟨_, Ev.bind e (Ev.bind e1 (Ev.bind (ev_spec_CallText a n l (by omega)) (evBindS e2 (evNeg (by simp) (Ev.now _)))))⟩
 ·obtain ⟨t, i3, h3', e3, ht, l0, l1⟩ := drawSpoilt b hb (ctB a n l).1 (by omega) i2 h2' k0 k1
  obtain ⟨u, i4, h4', e4, hu, _, _⟩ := drawPick b i3 h3' [(⟨#[]⟩ : ByteArray), (⟨#[120]⟩ : ByteArray)] (by decide) l0 l1 hb
  have hus : u.size ≤ 1 := by
   rcases List.mem_cons.1 hu with rfl | hu
   ·exact Nat.zero_le _
   ·rw [List.mem_singleton] at hu; subst hu; exact Nat.le_refl _
  exact ⟨_, Ev.bind e (Ev.bind e1 (Ev.bind (ev_spec_CallText a n l (by omega)) (evBindS e2 (evPos rfl (Ev.bind e3 (evBindS e4 (evPos (by show t.size + u.size ≤ _; omega) (Ev.now _))))))))⟩
theorem drawReadCallLine (b : List Int) (hb : b.length ≤ 16777216) : ∃ a t, Ev (fun k => spec_DrawReadCallLine.f k b) (a, t) := by
 simp only [spec_DrawReadCallLine.f]
 obtain ⟨h, e⟩ := drawNew b hb
 obtain ⟨x, i0, h0', e0, hx, m0, m1⟩ := drawPickInt b 0 h [0, 62, 4294967295, 4294967296, (-1)] (by decide) (by omega) (by omega) hb
 obtain ⟨a, n, l, i1, h1', e1, hl, j0, j1⟩ := drawAnyCall b hb i0 h0' m0 m1
 obtain ⟨c, i2, h2', e2, k0, k1⟩ := drawOnce b i1 h1' 3 j0 j1 hb (by omega)
 cases c
 ·exact ⟨_, _, Ev.bind e (evBindS e0 (Ev.bind e1 (Ev.bind (ev_spec_ShowCall a n l (by omega)) (evBindS e2 (evNeg (by simp) (Ev.now _))))))⟩
 ·obtain ⟨u, i4, h4', e4, hu, _, _⟩ := drawPick b i2 h2' [(⟨#[]⟩ : ByteArray), (⟨#[114, 101, 97, 100]⟩ : ByteArray), (⟨#[114, 101, 97, 100, 32, 49, 32, 50, 32, 51, 32, 52]⟩ : ByteArray), (⟨#[111, 112, 101, 110, 32, 48, 49]⟩ : ByteArray), (⟨#[119, 104, 97, 116, 32, 49]⟩ : ByteArray), (⟨#[55, 32, 49, 58, 50]⟩ : ByteArray), (⟨#[55, 32, 49, 58, 50, 58, 51]⟩ : ByteArray), (⟨#[57, 57, 57, 57, 57, 57, 57, 57, 57, 57, 57]⟩ : ByteArray), (⟨#[99, 108, 111, 115, 101, 32, 52, 50, 57, 52, 57, 54, 55, 50, 57, 54]⟩ : ByteArray), (⟨#[101, 120, 105, 116, 32, 58, 49]⟩ : ByteArray)] (by decide) k0 k1 hb
  exact ⟨_, _, Ev.bind e (evBindS e0 (Ev.bind e1 (Ev.bind (ev_spec_ShowCall a n l (by omega)) (evBindS e2 (evPos rfl (evBindS e4 (Ev.now _)))))))⟩
theorem FnCallTextsTold : laws_FnCallTextsTold.Pure := by
 intro code _ _ _
 refine Ev.rounds ?_
 simp only [laws_FnCallTextsTold.f, laws_big.f, Option.bind_some]
 by_cases hc : (code.length : Int) > 1048576
 ·exact evPos (by simpa using hc) (Ev.now _)
 refine evNeg (by simpa using hc) ?_
 have hb : code.length ≤ 16777216 := by omega
 obtain ⟨h, e⟩ := drawNew code hb
 obtain ⟨a, n, l, i1, h1', e1, hl, j0, j1⟩ := drawAnyCall code hb 0 h (by omega) (by omega)
 have ed : Ev (fun k => spec_DrawCallText.f k code) (a, n, l) := by
  simp only [spec_DrawCallText.f]
  exact Ev.bind e (Ev.bind e1 (Ev.now _))
 obtain ⟨t, et⟩ := drawReadCall code hb
 obtain ⟨arch, s, es⟩ := drawReadCallLine code hb
 obtain ⟨ra, rn, rl, rok, hrl, r1, r2⟩ := both t
 have hrc := rcl_len arch s
 refine Ev.bind ed (Ev.bind (ev_impl_CallText a n l (by omega)) (Ev.bind (ev_spec_CallText a n l (by omega)) (Ev.bind et (Ev.bind r2 (Ev.bind r1 (Ev.bind es (Ev.bind (ev_impl_ReadCallLine arch s) (Ev.bind (ev_spec_ReadCallLine arch s) ?_))))))))
 refine evPos rfl (evPos (by simp) (evPos (by simp) (Ev.bind (ev_sameCall ra rn rl (by omega)) (evPos rfl (evPos (by simp) (Ev.bind (ev_sameCall _ _ _ (by omega)) (evPos rfl (Ev.bind (ev_impl_ShowCall a n l (by omega)) (Ev.bind (ev_spec_ShowCall a n l (by omega)) (evEq (Ev.now _) (by simp)))))))))))

end Go.Proofs.Ytmjlhikflhbdaaa.Pure

namespace Go.Proofs.Ytmjlhikflhbdaaa.fnCallTextsTold
open Go.ChangeShapes Go.WideShapes Go.ChangeAt Go.RowKit
open Go.ChangeMaps (open_string shut_string)
set_option linter.unusedVariables false
theorem own : ownKnob Try.prog.godebug = none := by kernel_rfl
theorem laidOut : laidOutB Try.prog = true := by kernel_rfl
def IsRow (k : IntKind) (w : World) (a : Option Addr) (len cap : Nat) (zs : List Int) : Prop :=
 (a = none ∧ len = 0 ∧ cap = 0 ∧ zs = []) ∨
 ∃ x, a = some x ∧ len ≤ cap ∧ cap ≤ maxLen ∧ zs.length = cap ∧ (∀ i, i < zs.length → w.cell? (x.add i) = some (.int k (zs.getD i 0))) ∧ ∀ n ∈ zs, (Lit.int k n).wf = true
set_option maxRecDepth 100000 in
theorem lifted (os : Os) (started : os.Started) (H : Type) (enc : TypeId × Value → H) :
 ReturnsInHanded {} Try.checked os 5 .any (Rows.fnCallTextsToldSpec.pre6 enc Try.prog Try.f5 Rows.fnCallTextsToldRow.domain false) (Rows.fnCallTextsToldSpec.post enc Try.prog Try.f5 false true false false) := by
 refine returnsInHanded_of_change_sized (C := Try.checked) own started (by kernel_rfl) Try.func5
  (ChangeSpec.witness6 (enc := enc) (C := Try.checked) false ⟨#[], #[.slice none 0 0], []⟩ 8 (by kernel_rfl) (by kernel_rfl) (by kernel_rfl) (by kernel_rfl)) ?_
 intro W base args ds gs before hval0 hW hcnd hsz0 _
 have hsz : (DataW.weightsEach Try.prog (Try.f5.params.toList ++ Rows.fnCallTextsToldSpec.plain.varTypes Try.prog) (ds ++ gs)).all (· ≤ reachBytes) = true := hsz0
 have hval : ∀ (j : Nat) t v, Try.f5.params[j]? = some t → args[j]? = some v → Value.okWide Try.prog W .any base t v := hval0
 have hW' := hW
 obtain ⟨p, q, hA0, hV, rfl, hfz, hnd⟩ := hW
 have hA : DataW.TrodAll enc Try.prog W 0 (fun _ => true) true Try.f5.params.toList args.toList ds p := hA0
 rw [Try.params5] at hA hval hsz
 obtain ⟨v0, vs0, d0, ds0, p0, q0, hargs, rfl, rfl, h0, r0⟩ := trodAll_cons hA
 obtain ⟨rfl, rfl, rfl⟩ := trodAll_nil r0
 obtain rfl : args = #[v0] := by cases args; simp_all
 obtain ⟨rfl, rfl⟩ := trodVars_none hV
 obtain ⟨a0, len0, cap0, rfl⟩ := okWide_slice Try.underlying30 (hval 0 30 v0 rfl rfl)
 have k0 := h0
 have lt0 : ∀ x ∈ p0, x.block < W.heap.size := by obtain ⟨m, hm⟩ := k0; exact DataW.trod_lt m _ _ _ hm
 obtain ⟨z0, w0⟩ : ∃ zs, IsRow .u8 W a0 len0 cap0 zs := by
  obtain ⟨fuel, hf⟩ := h0
  rcases open_ints Try.underlying30 Try.underlying5 (by kernel_rfl) hf with ⟨hcs, _⟩ | ⟨x, l, c, zs, hcs, _, hl, hm, hz, _, hcell, hwz⟩
  ·simp [Value.cells] at hcs
   obtain ⟨rfl, rfl, rfl⟩ := hcs
   exact ⟨[], .inl ⟨rfl, rfl, rfl, rfl⟩⟩
  ·simp [Value.cells] at hcs
   obtain ⟨rfl, rfl, rfl⟩ := hcs
   exact ⟨zs, .inr ⟨_, rfl, hl, hm, by simpa using hz, hcell, hwz⟩⟩
 have y0 : len0 * 1 ≤ 140737488351232 := Go.Proofs.YtmjlhikflhbdaaaW.PrintWords.sized_ints hsz (j := 0) (t := 30) rfl rfl Try.underlying30 Try.underlying5 (by kernel_rfl) (by kernel_rfl) h0
 clear hA0 hval0 hsz0 hsz
 refine (PA.laws_FnCallTextsTold.walk Pure.FnCallTextsTold a0 len0 cap0 z0 W w0 y0).mono fun e W' ⟨he, bel⟩ => ?_
 subst he
 exact ⟨_, rfl, _, _, _, [], _, [], hW', trodAll_mk1 (shut_bool Try.underlying4 _), (trodAll_cons_mk (Below.trod laidOut (by kernel_rfl) (of_decide_eq_true (by kernel_rfl)) k0 bel lt0) trodAll_mk0), rfl, bel.frame _, fun h => by cases h⟩
theorem over : Rows.fnCallTextsToldRow.holds Try.pinned (OpenSpec.ofChange Rows.fnCallTextsToldSpec) :=
 OpenClaim.holds_of_wide 5 Try.f5 rfl rfl rfl rfl rfl rfl rfl ⟨rfl, rfl, rfl, rfl, rfl⟩ rfl rfl rfl rfl rfl (by kernel_rfl) Try.func5 (by kernel_rfl)
  (of_decide_eq_true (by kernel_rfl)) (by unfold Func.isWrapper; first | (rw [if_pos (by decide +kernel)]; kernel_rfl) | (rw [if_neg (by decide +kernel)]; exact ⟨rfl, rfl⟩))
  (fun os started H enc _ => lifted os started H enc)
theorem proved : Rows.FnCallTextsToldSaid := over
#print axioms proved
end Go.Proofs.Ytmjlhikflhbdaaa.fnCallTextsTold
namespace Go.Proofs.Ytmjlhikflhbdaaa
/-- The row, under a short name, for the claim. -/
theorem fnCallTextsTold_holds : Rows.FnCallTextsToldSaid := fnCallTextsTold.proved
end Go.Proofs.Ytmjlhikflhbdaaa

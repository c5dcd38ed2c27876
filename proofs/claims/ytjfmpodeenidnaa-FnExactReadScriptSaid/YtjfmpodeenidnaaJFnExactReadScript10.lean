/- Contracts of functions of the program and of the reference, and plain lemmas on what they compute: a part of the proof of the law FnExactReadScript. No condition. -/
import Derived.Test.YtjfmpodeenidnaaJFnExactReadScript9
import Derived.Test.YtjfmpodeenidnaaRows
import Derived.WalkKit
import Derived.ProofKit
import Derived.OpenShut
import Derived.ShutString
import Derived.ChangeOld
import Derived.Below
import Derived.SizedLaws
import Derived.Test.YtjfmpodeenidnaaShortV
namespace Go.Proofs.Ytjfmpodeenidnaa.Pure
open Go.RowKit Go.Proofs.Ytjfmpodeenidnaa.PA Go.Proofs.YtjfmpodeenidnaaW.PrintWords Go.Proofs.YtjfmpodeenidnaaW.PrintLast Go.Proofs.YtjfmpodeenidnaaW.PrintMore Go.Proofs.Ytjfmpodeenidnaa.Kit
set_option linter.unusedVariables false
set_option linter.unusedSimpArgs false
theorem rdW (l : List S98) (i : Nat) (hi : i < l.length) : rd_T98 l (i : Int) = l[i] := by simp [rd_T98, hi]
theorem ev_eqWideS (l : List S98) (hl : l.length ≤ 1048576) : Ev (fun k => laws_eqWideS.f k l l) true := by
 have key := evUp (r := true) l.length (fun i k => laws_eqWideS.l0 k l l (i : Int)) ?_ ?_
 ·refine Ev.congr (fun k => ?_) key
  unfold laws_eqWideS.f
  rw [if_pos rfl]
  rfl
 ·intro i hi ih
  refine evSucc ?_
  simp only [laws_eqWideS.l0]
  refine evPos (by omega) (evPos (by omega) (evPos (by omega) ?_))
  simp only [laws_eqWide.f, if_true, Option.bind_some]
  rw [w64 (by omega) (by omega), ci]
  exact ih
 ·refine evSucc ?_
  simp only [laws_eqWideS.l0]
  exact evNeg (by omega) (Ev.now _)
theorem ev_eqCall (a b : Int) (l : List S98) (hl : l.length ≤ 1048576) : Ev (fun k => laws_eqCall.f k a b l a b l) true := by
 simp only [laws_eqCall.f, if_true]
 exact Ev.bind (ev_eqWideS l hl) (evPos rfl (Ev.now _))
theorem sizeData (s : ByteArray) : s.size = s.data.toList.length := by
 show s.data.size = _
 rw [Array.length_toList]
theorem toList_loop (bs : ByteArray) : ∀ (d i : Nat) (r : List UInt8), i + d = bs.size → ByteArray.toList.loop bs i r = r.reverse ++ bs.data.toList.drop i := by
 have hsz := sizeData bs
 intro d
 induction d with
 | zero =>
  intro i r h
  rw [ByteArray.toList.loop, if_neg (by omega), List.drop_of_length_le (by omega)]
  simp
 | succ d ih =>
  intro i r h
  rw [ByteArray.toList.loop, if_pos (by omega), ih (i + 1) _ (by omega)]
  have hi : i < bs.data.toList.length := by omega
  rw [List.drop_eq_getElem_cons hi]
  have hb : i < bs.data.size := by rw [← Array.length_toList]; exact hi
  have hg : bs.get! i = bs.data[i] := by
   show bs.data[i]! = _
   exact getElem!_pos bs.data i hb
  rw [List.reverse_cons, List.append_assoc, hg]
  simp
theorem toList_data (bs : ByteArray) : bs.toList = bs.data.toList := by
 unfold ByteArray.toList
 rw [toList_loop bs bs.size 0 [] (by omega)]
 simp
theorem toList_inj {a b : ByteArray} (h : a.toList = b.toList) : a = b := by
 rw [toList_data, toList_data] at h
 exact ByteArray.ext (Array.ext' h)
theorem toList_iff {a b : ByteArray} : a.toList = b.toList ↔ a = b := ⟨toList_inj, fun h => by rw [h]⟩
theorem toList_nil {a : ByteArray} : a.toList = ([] : List UInt8) ↔ a.size = 0 := by
 rw [toList_data, sizeData]
 exact List.length_eq_zero_iff.symm
def dg (n : Nat) : ByteArray := ⟨#[UInt8.ofNat (48 + n % 10)]⟩
def decz (n : Nat) : ByteArray := if h : n = 0 then ⟨#[]⟩ else decz (n / 10) ++ dg n
 termination_by n
 decreasing_by omega
def dec (n : Nat) : ByteArray := if n = 0 then dg 0 else decz n
theorem dg_size (n : Nat) : (dg n).size = 1 := rfl
theorem decz_zero : decz 0 = ⟨#[]⟩ := by rw [decz]; rfl
theorem decz_step (n : Nat) (h : n ≠ 0) : decz n = decz (n / 10) ++ dg n := by rw [decz, dif_neg h]
theorem dg_of (x : Int) (h0 : 0 ≤ x) (h1 : x ≤ 9) : strOfNums [(48 + x) % 256] = dg x.toNat := by
 unfold strOfNums dg
 rw [show ((48 + x) % 256) = 48 + x by omega]
 simp only [List.map_cons, List.map_nil]
 rw [show (48 + x).toNat = 48 + x.toNat % 10 by omega]
theorem fig_at (d : Nat) (h : d < 10) : (⟨#[48, 49, 50, 51, 52, 53, 54, 55, 56, 57, 97, 98, 99, 100, 101, 102]⟩ : ByteArray).extract d (d + 1) = dg d := by
 have : d = 0 ∨ d = 1 ∨ d = 2 ∨ d = 3 ∨ d = 4 ∨ d = 5 ∨ d = 6 ∨ d = 7 ∨ d = 8 ∨ d = 9 := by omega
 rcases this with rfl | rfl | rfl | rfl | rfl | rfl | rfl | rfl | rfl | rfl <;> decide
def sgn (x : Int) (s : ByteArray) : ByteArray := if x < 0 then ⟨#[45]⟩ ++ s else s
theorem tmod_abs (m : Int) (h0 : -9223372036854775808 ≤ m) (h1 : m ≤ 9223372036854775807) : mx (Int.tmod m 10) (wrap64 (-(Int.tmod m 10))) = ((m.natAbs % 10 : Nat) : Int) := by
 rcases Int.natAbs_eq m with h | h
 ·rw [h, Int.tmod_eq_emod_of_nonneg (by omega), w64 (by omega) (by omega)]
  unfold mx
  split <;> omega
 ·rw [h, Int.neg_tmod, Int.tmod_eq_emod_of_nonneg (by omega), w64 (by omega) (by omega)]
  unfold mx
  split <;> omega
theorem tdiv_abs (m : Int) : (Int.tdiv m 10).natAbs = m.natAbs / 10 := by
 rw [Int.natAbs_tdiv]
 rfl
theorem ev_impl_dec : ∀ (j : Nat) (x m : Int) (out : ByteArray), m.natAbs < 10 ^ j → -9223372036854775808 ≤ m → m ≤ 9223372036854775807 → out.size + j ≤ 1000 →
 Ev (fun k => impl_Decimal.l0 k x out m) (sgn x (decz m.natAbs ++ out)) := by
 intro j
 induction j with
 | zero =>
  intro x m out hm h0 h1 hs
  refine evSucc ?_
  simp only [impl_Decimal.l0]
  obtain rfl : m = 0 := by rw [Nat.pow_zero] at hm; omega
  refine evPos rfl ?_
  rw [show (0 : Int).natAbs = 0 from rfl, decz_zero, show (⟨#[]⟩ : ByteArray) ++ out = out from ByteArray.empty_append]
  unfold sgn
  by_cases hx : x < 0
  ·exact evPos hx (evPos (by omega) (evEq (Ev.now _) (if_pos hx).symm))
  ·exact evNeg hx (evEq (Ev.now _) (if_neg hx).symm)
 | succ j ih =>
  intro x m out hm h0 h1 hs
  by_cases h : m = 0
  ·subst h
   exact ih x 0 out (Nat.pow_pos (by omega)) h0 h1 (by omega)
  ·refine evSucc ?_
   simp only [impl_Decimal.l0]
   refine evNeg h ?_
   rw [tmod_abs m h0 h1, w64 (x := ((m.natAbs % 10 : Nat) : Int) + 1) (by omega) (by omega)]
   refine evPos (by omega) (evPos (by omega) (evPos (by omega) ?_))
   rw [ci, Int.toNat_natCast, Int.toNat_natCast, fig_at _ (by omega)]
   rw [show dg (m.natAbs % 10) = dg m.natAbs by unfold dg; rw [Nat.mod_mod]]
   have ht := tdiv_abs m
   refine evPos (by rw [dg_size]; omega) ?_
   rw [w64 (by omega) (by omega)]
   have := ih x (Int.tdiv m 10) (dg m.natAbs ++ out) (by rw [ht, Nat.div_lt_iff_lt_mul (by omega), ← Nat.pow_succ]; exact hm) (by omega) (by omega) (by rw [sizeApp, dg_size]; omega)
   rw [ht, ← ByteArray.append_assoc, ← decz_step m.natAbs (by omega)] at this
   exact this
def decI (x : Int) : ByteArray := if x < 0 then ⟨#[45]⟩ ++ dec x.natAbs else dec x.natAbs
theorem ev_impl_Decimal (x : Int) (h0 : -9223372036854775808 ≤ x) (h1 : x ≤ 9223372036854775807) : Ev (fun k => impl_Decimal.f k x) (decI x) := by
 simp only [impl_Decimal.f]
 by_cases h : x = 0
 ·refine evPos h (evEq (Ev.now _) ?_)
  subst h
  rfl
 ·refine evNeg h (evEq (ev_impl_dec 19 x x _ (by omega) h0 h1 (by show 0 + 19 ≤ _; omega)) ?_)
  rw [show decz x.natAbs ++ (⟨#[]⟩ : ByteArray) = decz x.natAbs from ByteArray.append_empty]
  unfold sgn decI dec
  rw [if_neg (by omega : ¬ x.natAbs = 0)]
def halfB (n : Int) : Bool := decide (0 ≤ n) && decide (n ≤ 4294967295)
theorem impl_half (n : Int) : impl_HalfOk.f n = some (halfB n) := by
 unfold impl_HalfOk.f impl_within.f halfB
 by_cases h : n ≥ 0
 ·simp [h]
 ·simp [h]
  try omega
def wideB (w : S98) : Bool := halfB w.f0 && halfB w.f1
theorem impl_wide (w : S98) : impl_WideOk.f w.f0 w.f1 = some (wideB w) := by
 unfold impl_WideOk.f wideB
 rw [impl_half, impl_half]
 cases halfB w.f0 <;> simp
def callB (a b : Int) (l : List S98) : Bool := l.all wideB && (halfB a && (halfB b && (l.length == 3)))
theorem ev_impl_CallOk (a b : Int) (l : List S98) (hl : l.length ≤ 1048576) : Ev (fun k => impl_CallOk.f k a b l) (callB a b l) := by
 unfold callB
 by_cases hall : l.all wideB = true
 ·have key := evUp (r := (halfB a && (halfB b && (l.length == 3)))) l.length (fun i k => impl_CallOk.l0 k l (l.length : Int) (i : Int) a b l) ?_ ?_
  ·rw [hall]; exact key
  ·intro i hi ih
   refine evSucc ?_
   simp only [impl_CallOk.l0]
   refine evPos (by omega) (evPos (by omega) (evPos (by omega) ?_))
   rw [rdW l i hi, impl_wide, w64 (by omega) (by omega), ci]
   simp only [Option.bind_some]
   exact evPos (by simpa using List.all_eq_true.1 hall _ (List.getElem_mem hi)) ih
  ·refine evSucc ?_
   simp only [impl_CallOk.l0]
   refine evNeg (by omega) ?_
   rw [impl_half, impl_half]
   simp only [Option.bind_some]
   cases halfB a
   ·exact evNeg (by simp) (Ev.now _)
   ·refine evPos rfl ?_
    cases halfB b
    ·exact evNeg (by simp) (Ev.now _)
    ·refine evPos rfl (evEq (Ev.now _) ?_)
     simp only [Bool.true_and]
     rw [Bool.eq_iff_iff]
     simp
     try omega
 ·have h0 : l.all wideB = false := by simpa using hall
  rw [h0]
  obtain ⟨x, hx, hb⟩ := List.all_eq_false.1 h0
  obtain ⟨j, hj, rfl⟩ := List.getElem_of_mem hx
  have key : ∀ d i, i + d = j → Ev (fun k => impl_CallOk.l0 k l (l.length : Int) (i : Int) a b l) false := by
   intro d
   induction d with
   | zero =>
    intro i hi
    refine evSucc ?_
    simp only [impl_CallOk.l0]
    refine evPos (by omega) (evPos (by omega) (evPos (by omega) ?_))
    obtain rfl : i = j := by omega
    rw [rdW l i hj, impl_wide]
    simp only [Option.bind_some]
    exact evNeg (by simpa using hb) (Ev.now _)
   | succ d ih =>
    intro i hi
    refine evSucc ?_
    simp only [impl_CallOk.l0]
    have hi' : i < l.length := by omega
    refine evPos (by omega) (evPos (by omega) (evPos (by omega) ?_))
    rw [rdW l i hi', impl_wide, w64 (by omega) (by omega), ci]
    simp only [Option.bind_some]
    by_cases hw : wideB l[i] = true
    ·exact evPos hw (ih (i + 1) (by omega))
    ·exact evNeg hw (Ev.now _)
  exact key j 0 (by omega)
theorem within_f (x a b : Int) : impl_within.f x a b = some (decide (a ≤ x) && decide (x ≤ b)) := by
 unfold impl_within.f
 by_cases h : x ≥ a
 ·rw [if_pos h, decide_eq_true (show a ≤ x from h), Bool.true_and]
 ·rw [if_neg h, decide_eq_false (show ¬ a ≤ x from h), Bool.false_and]
theorem l01In_f (x a b : Int) : spec_l01In.f x a b = some (decide (a ≤ x) && decide (x ≤ b)) := by
 unfold spec_l01In.f
 by_cases h : x ≥ a
 ·rw [if_pos h, decide_eq_true (show a ≤ x from h), Bool.true_and]
 ·rw [if_neg h, decide_eq_false (show ¬ a ≤ x from h), Bool.false_and]
theorem figure_of (x : Int) (h0 : 0 ≤ x) (h1 : x ≤ 9) : ∃ t, spec_l01Figure.f x = some t ∧ strOfNums [t] = dg x.toNat := by
 unfold spec_l01Figure.f
 rw [if_pos (by omega), w64 (by omega) (by omega)]
 exact ⟨_, rfl, dg_of x h0 h1⟩
theorem ev_spec_dec : ∀ (j : Nat) (b : Bool) (m : Int) (out : ByteArray), m.natAbs < 10 ^ j → -9223372036854775808 ≤ m → m ≤ 9223372036854775807 → out.size + j ≤ 1000 →
 Ev (fun k => spec_Decimal.l0 k m b out) (if b = true then (⟨#[45]⟩ : ByteArray) ++ (decz m.natAbs ++ out) else decz m.natAbs ++ out) := by
 intro j
 induction j with
 | zero =>
  intro b m out hm h0 h1 hs
  refine evSucc ?_
  simp only [spec_Decimal.l0]
  obtain rfl : m = 0 := by rw [Nat.pow_zero] at hm; omega
  refine evPos rfl ?_
  rw [show (0 : Int).natAbs = 0 from rfl, decz_zero, show (⟨#[]⟩ : ByteArray) ++ out = out from ByteArray.empty_append]
  by_cases hx : b = true
  ·exact evPos hx (evPos (by omega) (evEq (Ev.now _) (if_pos hx).symm))
  ·exact evNeg hx (evEq (Ev.now _) (if_neg hx).symm)
 | succ j ih =>
  intro b m out hm h0 h1 hs
  by_cases h : m = 0
  ·subst h
   exact ih b 0 out (Nat.pow_pos (by omega)) h0 h1 (by omega)
  ·refine evSucc ?_
   simp only [spec_Decimal.l0]
   refine evNeg h ?_
   have ht : (Int.tdiv m 10).natAbs = m.natAbs / 10 := by rw [Int.natAbs_tdiv]; rfl
   have hrec := ih b (Int.tdiv m 10) (dg m.natAbs ++ out) (by rw [ht, Nat.div_lt_iff_lt_mul (by omega), ← Nat.pow_succ]; exact hm) (by omega) (by omega) (by rw [sizeApp, dg_size]; omega)
   rw [ht, show decz (m.natAbs / 10) ++ (dg m.natAbs ++ out) = decz m.natAbs ++ out by rw [decz_step m.natAbs (by omega), ByteArray.append_assoc]] at hrec
   have hd : ∀ q : Int, q = ((m.natAbs % 10 : Nat) : Int) → Ev (fun k => (spec_l01Figure.f q).bind fun t116 => ((some (([t116] : List Int) : List Int)).bind fun y117 => (if (strOfNums y117).size + out.size ≤ 9223372036854775807 then (spec_Decimal.l0 k (wrap64 (Int.tdiv m 10)) b ((strOfNums y117) ++ out)) else (none)))) (if b = true then (⟨#[45]⟩ : ByteArray) ++ (decz m.natAbs ++ out) else decz m.natAbs ++ out) := by
    intro q hq
    obtain ⟨t, h2, h3⟩ := figure_of q (by omega) (by omega)
    rw [h2]
    simp only [Option.bind_some]
    rw [h3, show dg q.toNat = dg m.natAbs by unfold dg; rw [show q.toNat % 10 = m.natAbs % 10 by omega], w64 (by omega) (by omega)]
    exact evPos (by rw [dg_size]; omega) hrec
   by_cases hn : Int.tmod m 10 < 0
   ·refine evPos hn (hd _ ?_)
    rcases Int.natAbs_eq m with e | e
    ·rw [e, Int.tmod_eq_emod_of_nonneg (by omega)] at hn; omega
    ·rw [e, Int.neg_tmod, Int.tmod_eq_emod_of_nonneg (by omega), w64 (by omega) (by omega)]; omega
   ·refine evNeg hn (hd _ ?_)
    rcases Int.natAbs_eq m with e | e
    ·rw [e, Int.tmod_eq_emod_of_nonneg (by omega)]; omega
    ·rw [e, Int.neg_tmod, Int.tmod_eq_emod_of_nonneg (by omega)] at hn ⊢; omega
theorem ev_spec_Decimal (x : Int) (h0 : -9223372036854775808 ≤ x) (h1 : x ≤ 9223372036854775807) : Ev (fun k => spec_Decimal.f k x) (decI x) := by
 simp only [spec_Decimal.f]
 by_cases h : x = 0
 ·refine evPos h (evEq (Ev.now _) ?_)
  subst h
  rfl
 ·refine evNeg h (evEq (ev_spec_dec 19 (decide (x < 0)) x _ (by omega) h0 h1 (by show 0 + 19 ≤ _; omega)) ?_)
  rw [show decz x.natAbs ++ (⟨#[]⟩ : ByteArray) = decz x.natAbs from ByteArray.append_empty]
  unfold decI dec
  rw [if_neg (by omega : ¬ x.natAbs = 0)]
  by_cases hx : x < 0
  ·rw [if_pos hx, if_pos (by simpa using hx)]
  ·rw [if_neg hx, if_neg (by simpa using hx)]
theorem rdS (l : List ByteArray) (i : Nat) (hi : i < l.length) : rdOf ByteArray.empty l (i : Int) = l[i] := by simp [rdOf, hi]
def rdGo (s : ByteArray) : Nat → Nat → Int → Option Int
 | 0, _, n => some n
 | d + 1, i, n => if 48 ≤ bt s (i : Int) ∧ bt s (i : Int) ≤ 57 then rdGo s d (i + 1) (10 * n + (bt s (i : Int) - 48)) else none
def rdFin (s : ByteArray) : Option Int → Int × Bool
 | none => (0, false)
 | some n => if n ≤ 1000000000 ∧ decI n = s then (n, true) else (0, false)
def readD (s : ByteArray) : Int × Bool := if s.size ≤ 10 then rdFin s (rdGo s s.size 0 0) else (0, false)
theorem ev_impl_rdGo (s : ByteArray) (hs : s.size ≤ 10) : ∀ (d i : Nat) (n : Int), i + d = s.size → 0 ≤ n → n < ((10 ^ i : Nat) : Int) → Ev (fun k => impl_ReadDecimal.l0 k s n (i : Int)) (rdFin s (rdGo s d i n)) := by
 intro d
 induction d with
 | zero =>
  intro i n hi h0 hn
  have hp : 10 ^ i ≤ 10000000000 := Nat.pow_le_pow_right (n := 10) (by decide) (show i ≤ 10 by omega)
  refine evSucc ?_
  simp only [impl_ReadDecimal.l0]
  refine evNeg (by omega) ?_
  unfold rdGo rdFin
  dsimp only
  by_cases h1 : n > 1000000000
  ·rw [if_neg (fun z => by omega)]
   exact evPos h1 (Ev.now _)
  ·refine evNeg h1 (Ev.bind (ev_impl_Decimal n (by omega) (by omega)) ?_)
   by_cases h2 : decI n = s
   ·exact evPos (toList_iff.2 h2) (evEq (Ev.now _) (if_pos ⟨by omega, h2⟩).symm)
   ·exact evNeg (fun z => h2 (toList_inj z)) (evEq (Ev.now _) (if_neg (fun z => h2 z.2)).symm)
 | succ d ih =>
  intro i n hi h0 hn
  have hp : 10 ^ i ≤ 1000000000 := Nat.pow_le_pow_right (n := 10) (by decide) (show i ≤ 9 by omega)
  have e : 10 ^ (i + 1) = 10 * 10 ^ i := by rw [Nat.pow_succ, Nat.mul_comm]
  have hb := bt_range s (i : Int)
  refine evSucc ?_
  simp only [impl_ReadDecimal.l0]
  unfold rdGo
  refine evPos (by omega) (evPos (by omega) ?_)
  by_cases h1 : bt s (i : Int) < 48
  ·rw [if_neg (fun z => by omega)]
   exact evPos h1 (Ev.now _)
  ·by_cases h2 : bt s (i : Int) > 57
   ·rw [if_neg (fun z => by omega)]
    exact evNeg h1 (evPos h2 (Ev.now _))
   ·rw [if_pos ⟨by omega, by omega⟩]
    refine evNeg h1 (evNeg h2 ?_)
    have w1 : wrap64 (10 * n) = 10 * n := w64 (by omega) (by omega)
    have w2 : (bt s (i : Int) - 48) % 256 = bt s (i : Int) - 48 := by omega
    have w3 : wrap64 (10 * n + (bt s (i : Int) - 48)) = 10 * n + (bt s (i : Int) - 48) := w64 (by omega) (by omega)
    have w4 : wrap64 ((i : Int) + 1) = ((i + 1 : Nat) : Int) := by rw [w64 (by omega) (by omega)]; omega
    rw [w1, w2, w3, w4]
    exact ih (i + 1) _ (by omega) (by omega) (by rw [e]; omega)
theorem ev_spec_rdGo (s : ByteArray) (hs : s.size ≤ 10) : ∀ (d i : Nat) (n : Int), i + d = s.size → 0 ≤ n → n < ((10 ^ i : Nat) : Int) → Ev (fun k => spec_ReadDecimal.l0 k s n (i : Int)) (rdFin s (rdGo s d i n)) := by
 intro d
 induction d with
 | zero =>
  intro i n hi h0 hn
  have hp : 10 ^ i ≤ 10000000000 := Nat.pow_le_pow_right (n := 10) (by decide) (show i ≤ 10 by omega)
  refine evSucc ?_
  simp only [spec_ReadDecimal.l0]
  refine evNeg (by omega) ?_
  unfold rdGo rdFin
  dsimp only
  by_cases h1 : n > 1000000000
  ·rw [if_neg (fun z => by omega)]
   exact evPos h1 (Ev.now _)
  ·refine evNeg h1 (Ev.bind (ev_spec_Decimal n (by omega) (by omega)) ?_)
   by_cases h2 : decI n = s
   ·exact evPos (toList_iff.2 h2) (evEq (Ev.now _) (if_pos ⟨by omega, h2⟩).symm)
   ·exact evNeg (fun z => h2 (toList_inj z)) (evEq (Ev.now _) (if_neg (fun z => h2 z.2)).symm)
 | succ d ih =>
  intro i n hi h0 hn
  have hp : 10 ^ i ≤ 1000000000 := Nat.pow_le_pow_right (n := 10) (by decide) (show i ≤ 9 by omega)
  have e : 10 ^ (i + 1) = 10 * 10 ^ i := by rw [Nat.pow_succ, Nat.mul_comm]
  have hb := bt_range s (i : Int)
  refine evSucc ?_
  simp only [spec_ReadDecimal.l0]
  unfold rdGo
  refine evPos (by omega) (evPos (by omega) ?_)
  by_cases h1 : bt s (i : Int) < 48
  ·rw [if_neg (fun z => by omega)]
   exact evPos h1 (Ev.now _)
  ·by_cases h2 : bt s (i : Int) > 57
   ·rw [if_neg (fun z => by omega)]
    exact evNeg h1 (evPos h2 (Ev.now _))
   ·rw [if_pos ⟨by omega, by omega⟩]
    refine evNeg h1 (evNeg h2 ?_)
    have w1 : wrap64 (10 * n) = 10 * n := w64 (by omega) (by omega)
    have w2 : wrap64 (bt s (i : Int)) = bt s (i : Int) := w64 (by omega) (by omega)
    have w3 : wrap64 (10 * n + bt s (i : Int)) = 10 * n + bt s (i : Int) := w64 (by omega) (by omega)
    have w5 : wrap64 (10 * n + bt s (i : Int) - 48) = 10 * n + (bt s (i : Int) - 48) := by rw [w64 (by omega) (by omega)]; omega
    have w4 : wrap64 ((i : Int) + 1) = ((i + 1 : Nat) : Int) := by rw [w64 (by omega) (by omega)]; omega
    rw [w1, w2, w3, w5, w4]
    exact ih (i + 1) _ (by omega) (by omega) (by rw [e]; omega)
theorem decI_zero : decI 0 = dg 0 := by unfold decI dec; simp
theorem ev_impl_ReadDecimal (s : ByteArray) : Ev (fun k => impl_ReadDecimal.f k s) (readD s) := by
 simp only [impl_ReadDecimal.f, within_f, Option.bind_some]
 unfold readD
 by_cases h1 : s.size ≤ 10
 ·rw [if_pos h1]
  by_cases h2 : s.size = 0
  ·refine evNeg (by simp; omega) (evEq (Ev.now _) ?_)
   rw [h2]
   unfold rdGo rdFin
   dsimp only
   rw [if_neg (fun z => ?_)]
   have := congrArg ByteArray.size z.2
   rw [decI_zero, dg_size] at this
   omega
  ·exact evPos (by simp; omega) (ev_impl_rdGo s h1 s.size 0 0 (by omega) (by omega) (by simp))
 ·rw [if_neg h1]
  exact evNeg (by simp; omega) (Ev.now _)
theorem ev_spec_ReadDecimal (s : ByteArray) : Ev (fun k => spec_ReadDecimal.f k s) (readD s) := by
 simp only [spec_ReadDecimal.f]
 unfold readD
 by_cases h1 : s.size ≤ 10
 ·rw [if_pos h1]
  exact evNeg (by omega) (ev_spec_rdGo s h1 s.size 0 0 (by omega) (by omega) (by simp))
 ·rw [if_neg h1]
  exact evPos (by omega) (Ev.now _)
def numsGo : List ByteArray → List Int → List Int × Bool
 | [], acc => (acc, true)
 | s :: r, acc => if (readD s).2 = true then numsGo r (acc ++ [(readD s).1]) else (acc, false)
theorem numsGo_len : ∀ (l : List ByteArray) (acc : List Int), (numsGo l acc).1.length ≤ acc.length + l.length := by
 intro l
 induction l with
 | nil => intro acc; exact Nat.le_refl _
 | cons s r ih =>
  intro acc
  unfold numsGo
  split
  ·have := ih (acc ++ [(readD s).1])
   rw [List.length_append, List.length_singleton] at this
   rw [List.length_cons]; omega
  ·exact Nat.le_add_right _ _
theorem ev_impl_numbersOf (l : List ByteArray) (hl : l.length ≤ 100000) : Ev (fun k => impl_numbersOf.f k l) (numsGo l []) := by
 have key : ∀ (d i : Nat) (acc : List Int), i + d = l.length → acc.length ≤ i → Ev (fun k => impl_numbersOf.l0 k acc l (l.length : Int) (i : Int)) (numsGo (l.drop i) acc) := by
  intro d
  induction d with
  | zero =>
   intro i acc hi ha
   refine evSucc ?_
   simp only [impl_numbersOf.l0]
   rw [List.drop_of_length_le (by omega)]
   exact evNeg (by omega) (Ev.now _)
  | succ d ih =>
   intro i acc hi ha
   have hlt : i < l.length := by omega
   refine evSucc ?_
   simp only [impl_numbersOf.l0]
   rw [List.drop_eq_getElem_cons hlt, rdS l i hlt, w64 (x := (i : Int) + 1) (by omega) (by omega), ci]
   unfold numsGo
   refine evPos (by omega) (evPos (by omega) (evPos (by omega) (Ev.bind (ev_impl_ReadDecimal _) ?_)))
   by_cases h : (readD l[i]).2 = true
   ·rw [if_pos h]
    exact evPos h (evPos (by omega) (ih (i + 1) _ (by omega) (by rw [List.length_append, List.length_singleton]; omega)))
   ·rw [if_neg h]
    exact evNeg h (Ev.now _)
 simp only [impl_numbersOf.f]
 exact key l.length 0 [] (by omega) (Nat.le_refl _)
theorem ev_spec_l30Nums (l : List ByteArray) (hl : l.length ≤ 100000) : Ev (fun k => spec_l30Nums.f k l) (numsGo l []) := by
 have key : ∀ (d i : Nat) (acc : List Int), i + d = l.length → acc.length ≤ i → Ev (fun k => spec_l30Nums.l0 k l acc (i : Int)) (numsGo (l.drop i) acc) := by
  intro d
  induction d with
  | zero =>
   intro i acc hi ha
   refine evSucc ?_
   simp only [spec_l30Nums.l0]
   rw [List.drop_of_length_le (by omega)]
   exact evNeg (by omega) (Ev.now _)
  | succ d ih =>
   intro i acc hi ha
   have hlt : i < l.length := by omega
   refine evSucc ?_
   simp only [spec_l30Nums.l0]
   rw [List.drop_eq_getElem_cons hlt, rdS l i hlt, w64 (x := (i : Int) + 1) (by omega) (by omega), ci]
   unfold numsGo
   refine evPos (by omega) (evPos (by omega) (Ev.bind (ev_spec_ReadDecimal _) ?_))
   by_cases h : (readD l[i]).2 = true
   ·rw [if_pos h]
    exact evPos h (evPos (by omega) (ih (i + 1) _ (by omega) (by rw [List.length_append, List.length_singleton]; omega)))
   ·rw [if_neg h]
    exact evNeg h (Ev.now _)
 simp only [spec_l30Nums.f]
 exact key l.length 0 [] (by omega) (Nat.le_refl _)
theorem spec_half (n : Int) : spec_HalfOk.f n = some (halfB n) := by
 unfold spec_HalfOk.f spec_l01In.f halfB
 by_cases h : n ≥ 0
 ·simp [h]
 ·simp [h]
  try omega
theorem spec_wide (w : S98) : spec_WideOk.f w.f0 w.f1 = some (wideB w) := by
 unfold spec_WideOk.f wideB
 rw [spec_half, spec_half]
 cases halfB w.f0 <;> simp
theorem ev_spec_CallOk (a b : Int) (l : List S98) (hl : l.length ≤ 1048576) : Ev (fun k => spec_CallOk.f k a b l) (callB a b l) := by
 unfold callB
 by_cases hall : l.all wideB = true
 ·have key := evUp (r := (halfB a && (halfB b && (l.length == 3)))) l.length (fun i k => spec_CallOk.l0 k (i : Int) a b l) ?_ ?_
  ·rw [hall]; exact key
  ·intro i hi ih
   refine evSucc ?_
   simp only [spec_CallOk.l0]
   refine evPos (by omega) (evPos (by omega) ?_)
   rw [rdW l i hi, spec_wide, w64 (by omega) (by omega), ci]
   simp only [Option.bind_some]
   exact evPos (by simpa using List.all_eq_true.1 hall _ (List.getElem_mem hi)) ih
  ·refine evSucc ?_
   simp only [spec_CallOk.l0]
   refine evNeg (by omega) ?_
   rw [spec_half, spec_half]
   simp only [Option.bind_some]
   cases halfB a
   ·exact evNeg (by simp) (Ev.now _)
   ·refine evPos rfl ?_
    cases halfB b
    ·exact evNeg (by simp) (Ev.now _)
    ·refine evPos rfl (evEq (Ev.now _) ?_)
     simp only [Bool.true_and]
     rw [Bool.eq_iff_iff]
     simp
     try omega
 ·have h0 : l.all wideB = false := by simpa using hall
  rw [h0]
  obtain ⟨x, hx, hb⟩ := List.all_eq_false.1 h0
  obtain ⟨j, hj, rfl⟩ := List.getElem_of_mem hx
  have key : ∀ d i, i + d = j → Ev (fun k => spec_CallOk.l0 k (i : Int) a b l) false := by
   intro d
   induction d with
   | zero =>
    intro i hi
    refine evSucc ?_
    simp only [spec_CallOk.l0]
    refine evPos (by omega) (evPos (by omega) ?_)
    obtain rfl : i = j := by omega
    rw [rdW l i hj, spec_wide]
    simp only [Option.bind_some]
    exact evNeg (by simpa using hb) (Ev.now _)
   | succ d ih =>
    intro i hi
    refine evSucc ?_
    simp only [spec_CallOk.l0]
    have hi' : i < l.length := by omega
    refine evPos (by omega) (evPos (by omega) ?_)
    rw [rdW l i hi', spec_wide, w64 (by omega) (by omega), ci]
    simp only [Option.bind_some]
    by_cases hw : wideB l[i] = true
    ·exact evPos hw (ih (i + 1) (by omega))
    ·exact evNeg hw (Ev.now _)
  exact key j 0 (by omega)
def evPre (kind at_ num : Int) : Bool := if (decide (1 ≤ kind) && decide (kind ≤ 12)) = true then (if at_ < 0 then true else decide (num < 0)) else true
def evBody (kind arch cn : Int) (args : List S98) (t : ByteArray) : Bool := (if kind = 1 then callB arch cn args else (decide (arch = 0) && (decide (cn = 0) && decide (args.length = 0)))) && (if kind = 2 then decide ((t.size : Int) ≤ 1200) else decide (t.size = 0))
def evOkB (kind at_ num arch cn : Int) (args : List S98) (t : ByteArray) : Bool := !evPre kind at_ num && evBody kind arch cn args t
theorem ev_impl_EventOk (kind at_ num arch cn : Int) (args : List S98) (t : ByteArray) (hl : args.length ≤ 1048576) : Ev (fun k => impl_EventOk.f k kind at_ num arch cn args t) (evOkB kind at_ num arch cn args t) := by
 have hj : ∀ x : Bool, Ev (fun k => impl_EventOk.j0 k x kind at_ num arch cn args t) (!x && evBody kind arch cn args t) := by
  intro x
  refine evSucc ?_
  simp only [impl_EventOk.j0]
  cases x
  ·refine evNeg (by decide) ?_
   rw [Bool.not_false, Bool.true_and]
   unfold evBody
   by_cases h1 : kind = 1
   ·rw [if_pos h1]
    have h12 : ¬ kind = 2 := by omega
    refine evPos h1 (Ev.bind (ev_impl_CallOk arch cn args hl) ?_)
    cases callB arch cn args
    ·exact evNeg (by decide) (evEq (Ev.now _) (by simp))
    ·refine evPos rfl ?_
     by_cases h2 : t.size = 0
     ·exact evPos (toList_nil.2 h2) (evEq (Ev.now _) (by simp [h2]))
     ·exact evNeg (fun z => h2 (toList_nil.1 z)) (evNeg h12 (evEq (Ev.now _) (by simp [h2, h12])))
   ·rw [if_neg h1]
    refine evNeg h1 ?_
    by_cases h3 : arch = 0
    ·refine evPos h3 ?_
     by_cases h4 : cn = 0
     ·refine evPos h4 ?_
      by_cases h5 : args.length = 0
      ·refine evNeg (by omega) ?_
       by_cases h2 : t.size = 0
       ·exact evPos (toList_nil.2 h2) (evEq (Ev.now _) (by simp [h2, h3, h4, h5]))
       ·refine evNeg (fun z => h2 (toList_nil.1 z)) ?_
        by_cases h6 : kind = 2
        ·exact evPos h6 (evEq (Ev.now _) (by simp [h3, h4, h5, h6]))
        ·exact evNeg h6 (evEq (Ev.now _) (by simp [h2, h6]))
      ·exact evPos (by omega) (evEq (Ev.now _) (by simp [h5]))
     ·exact evNeg h4 (evEq (Ev.now _) (by simp [h4]))
    ·exact evNeg h3 (evEq (Ev.now _) (by simp [h3]))
  ·exact evPos rfl (evEq (Ev.now _) (by simp))
 simp only [impl_EventOk.f, within_f, Option.bind_some]
 unfold evOkB evPre
 by_cases h : (decide (1 ≤ kind) && decide (kind ≤ 12)) = true
 ·rw [if_pos h]
  refine evPos h ?_
  by_cases h2 : at_ < 0
  ·rw [if_pos h2]; exact evPos h2 (hj true)
  ·rw [if_neg h2]; exact evNeg h2 (hj _)
 ·rw [if_neg h]
  exact evNeg h (hj true)
theorem ev_spec_EventOk (kind at_ num arch cn : Int) (args : List S98) (t : ByteArray) (hl : args.length ≤ 1048576) : Ev (fun k => spec_EventOk.f k kind at_ num arch cn args t) (evOkB kind at_ num arch cn args t) := by
 have hj1 : ∀ x : Bool, Ev (fun k => spec_EventOk.j1 k x kind at_ num arch cn args t) (!x && (if kind = 2 then decide ((t.size : Int) ≤ 1200) else decide (t.size = 0))) := by
  intro x
  refine evSucc ?_
  simp only [spec_EventOk.j1]
  cases x
  ·refine evNeg (by decide) ?_
   rw [Bool.not_false, Bool.true_and]
   by_cases h6 : kind = 2
   ·exact evPos h6 (evEq (Ev.now _) (if_pos h6).symm)
   ·refine evNeg h6 (evEq (Ev.now _) ?_)
    rw [if_neg h6]
    by_cases h2 : t.size = 0
    ·rw [toList_nil.2 h2, h2]; rfl
    ·rw [decide_eq_false h2]
     have := mt toList_nil.1 h2
     simp [this]
  ·exact evPos rfl (evEq (Ev.now _) (by simp))
 have hj : ∀ x : Bool, Ev (fun k => spec_EventOk.j0 k x kind at_ num arch cn args t) (!x && evBody kind arch cn args t) := by
  intro x
  refine evSucc ?_
  simp only [spec_EventOk.j0]
  cases x
  ·refine evNeg (by decide) ?_
   rw [Bool.not_false, Bool.true_and]
   unfold evBody
   by_cases h1 : kind = 1
   ·rw [if_pos h1]
    refine evPos h1 (Ev.bind (ev_spec_CallOk arch cn args hl) ?_)
    cases callB arch cn args
    ·exact evNeg (by decide) (hj1 true)
    ·exact evPos rfl (hj1 false)
   ·rw [if_neg h1]
    refine evNeg h1 ?_
    have e : spec_l21Nothing.f arch cn args = some (decide (arch = 0) && (decide (cn = 0) && decide (args.length = 0))) := by
     unfold spec_l21Nothing.f
     by_cases h3 : arch = 0
     ·rw [if_pos h3]
      by_cases h4 : cn = 0
      ·rw [if_pos h4]
       by_cases h5 : args.length = 0
       ·simp [h3, h4, h5]
       ·simp [h3, h4, h5]
      ·rw [if_neg h4]; simp [h4]
     ·rw [if_neg h3]; simp [h3]
    refine evBindS e ?_
    have := hj1 (!(decide (arch = 0) && (decide (cn = 0) && decide (args.length = 0))))
    rw [Bool.not_not] at this
    exact this
  ·exact evPos rfl (evEq (Ev.now _) (by simp))
 simp only [spec_EventOk.f, l01In_f, Option.bind_some]
 unfold evOkB evPre
 by_cases h : (decide (1 ≤ kind) && decide (kind ≤ 12)) = true
 ·rw [if_pos h]
  refine evPos h ?_
  by_cases h2 : at_ < 0
  ·rw [if_pos h2]; exact evPos h2 (hj true)
  ·rw [if_neg h2]; exact evNeg h2 (hj _)
 ·rw [if_neg h]
  exact evNeg h (hj true)
def joinGo : List ByteArray → Bool → ByteArray → ByteArray
 | [], _, acc => acc
 | x :: r, first, acc => joinGo r false ((if first = true then acc else acc ++ (⟨#[32]⟩ : ByteArray)) ++ x)
theorem ev_spec_join30 (l : List ByteArray) (hl : l.length ≤ 100) (hx : ∀ x ∈ l, x.size ≤ 100000) : ∀ (d i : Nat) (acc : ByteArray), i + d = l.length → acc.size ≤ i * 100001 → Ev (fun k => spec_l30Join.l0 k l acc (i : Int)) (joinGo (l.drop i) (decide (i = 0)) acc) := by
 intro d
 induction d with
 | zero =>
  intro i acc hi ha
  refine evSucc ?_
  simp only [spec_l30Join.l0]
  rw [List.drop_of_length_le (by omega)]
  exact evNeg (by omega) (Ev.now _)
 | succ d ih =>
  intro i acc hi ha
  have hlt : i < l.length := by omega
  have hxi := hx _ (List.getElem_mem hlt)
  have w1 : wrap64 ((i : Int) + 1) = ((i + 1 : Nat) : Int) := by rw [w64 (by omega) (by omega)]; omega
  have s1 : (acc ++ (⟨#[32]⟩ : ByteArray)).size = acc.size + 1 := by rw [sizeApp]; rfl
  refine evSucc ?_
  simp only [spec_l30Join.l0]
  rw [List.drop_eq_getElem_cons hlt, rdS l i hlt, w1]
  unfold joinGo
  refine evPos (by omega) ?_
  by_cases h : i = 0
  ·rw [decide_eq_true h, if_pos rfl]
   refine evNeg (by omega) (evPos (by omega) (evPos (by omega) ?_))
   have := ih (i + 1) (acc ++ l[i]) (by omega) (by rw [sizeApp]; omega)
   rw [decide_eq_false (by omega)] at this
   exact this
  ·rw [decide_eq_false h, if_neg (by decide)]
   refine evPos (by omega) (evPos (by omega) (evPos (by omega) (evPos (by rw [s1]; omega) ?_)))
   have := ih (i + 1) ((acc ++ (⟨#[32]⟩ : ByteArray)) ++ l[i]) (by omega) (by rw [sizeApp, s1]; omega)
   rw [decide_eq_false (by omega)] at this
   exact this
theorem ev_spec_l30Join (l : List ByteArray) (hl : l.length ≤ 100) (hx : ∀ x ∈ l, x.size ≤ 100000) : Ev (fun k => spec_l30Join.f k l) (joinGo l true ⟨#[]⟩) := by
 simp only [spec_l30Join.f]
 exact ev_spec_join30 l hl hx l.length 0 ⟨#[]⟩ (by omega) (Nat.zero_le _)
abbrev EvT := Int × Int × Int × Int × Int × List S98 × ByteArray
def evOkT (e : EvT) : Bool := evOkB e.1 e.2.1 e.2.2.1 e.2.2.2.1 e.2.2.2.2.1 e.2.2.2.2.2.1 e.2.2.2.2.2.2
def asR (o : Option EvT) (a b c d f : Int) (g : List S98) (h : ByteArray) (ok : Bool) : Prop := o = if ok = true then some (a, b, c, d, f, g, h) else none
def shapeE (W : List UInt8) (n : List Int) : Option EvT :=
 if W = [99, 97, 108, 108] then (if n.length = 6 then some (1, rd n 0, 0, rd n 1, rd n 2, [⟨0, rd n 3⟩, ⟨0, rd n 4⟩, ⟨0, rd n 5⟩], ⟨#[]⟩) else none)
 else if W = [115, 112, 111, 105, 108] then (if n.length = 2 then some (9, rd n 1, rd n 0, 0, 0, [], ⟨#[]⟩) else none)
 else if W = [116, 105, 99, 107] then (if n.length = 1 then some (3, 0, rd n 0, 0, 0, [], ⟨#[]⟩) else none)
 else if W = [100, 114, 97, 105, 110] then (if n.length = 1 then some (4, rd n 0, 0, 0, 0, [], ⟨#[]⟩) else none)
 else if W = [115, 97, 121] then (if n.length = 2 then some (5, rd n 0, rd n 1, 0, 0, [], ⟨#[]⟩) else none)
 else if W = [99, 97, 114, 114, 121] then (if n.length = 1 then some (6, 0, rd n 0, 0, 0, [], ⟨#[]⟩) else none)
 else if W = [108, 111, 115, 101] then (if n.length = 1 then some (7, 0, rd n 0, 0, 0, [], ⟨#[]⟩) else none)
 else if W = [116, 119, 105, 99, 101] then (if n.length = 1 then some (8, 0, rd n 0, 0, 0, [], ⟨#[]⟩) else none)
 else if W = [115, 97, 118, 101] then (if n.length = 0 then some (10, 0, 0, 0, 0, [], ⟨#[]⟩) else none)
 else if W = [102, 97, 108, 108] then (if n.length = 0 then some (11, 0, 0, 0, 0, [], ⟨#[]⟩) else none)
 else if W = [97, 99, 107] then (if n.length = 1 then some (12, rd n 0, 0, 0, 0, [], ⟨#[]⟩) else none)
 else none
def rawE (p : List ByteArray) : Option EvT :=
 if (rdOf ByteArray.empty p 0).toList = [112, 117, 115, 104] then
  (if p.length < 2 then none else if (readD (rdOf ByteArray.empty p 1)).2 = true then some (2, (readD (rdOf ByteArray.empty p 1)).1, 0, 0, 0, [], joinGo (p.drop 2) true ⟨#[]⟩) else none)
 else if (numsGo (p.drop 1) []).2 = true then shapeE (rdOf ByteArray.empty p 0).toList (numsGo (p.drop 1) []).1 else none
def evE (p : List ByteArray) : Option EvT := (rawE p).bind fun e => if evOkT e = true then some e else none
theorem ev_kindTail (n : List Int) (hn : n.length ≤ 100000) (kind : Int) (p q : Bool) :
 Ev (fun k => if p = true then (spec_l30Event.j1 k n (n.length : Int) kind p q (0 + 1) kind 0 0 0 0 (⟨#[]⟩ : ByteArray)) else (spec_l30Event.j1 k n (n.length : Int) kind p q 0 kind 0 0 0 0 (⟨#[]⟩ : ByteArray)))
  (if kind = 0 ∨ n.length ≠ p.toNat + q.toNat then (0, 0, 0, 0, 0, [], (⟨#[]⟩ : ByteArray), false) else (kind, (if p = true then rd n 0 else 0), (if q = true then rd n ((n.length : Int) - 1) else 0), 0, 0, [], (⟨#[]⟩ : ByteArray), true)) := by
 have hj3 : ∀ x : Bool, (x = false → n.length = p.toNat + q.toNat) → Ev (fun k => spec_l30Event.j3 k n (n.length : Int) p q x kind 0 0 0 0 (⟨#[]⟩ : ByteArray)) (if x = true then (0, 0, 0, 0, 0, [], (⟨#[]⟩ : ByteArray), false) else (kind, (if p = true then rd n 0 else 0), (if q = true then rd n ((n.length : Int) - 1) else 0), 0, 0, [], (⟨#[]⟩ : ByteArray), true)) := by
  intro x hx
  refine evSucc ?_
  simp only [spec_l30Event.j3]
  have w1 : wrap64 ((n.length : Int) - 1) = (n.length : Int) - 1 := w64 (by omega) (by omega)
  rw [w1]
  cases x
  ·have hl := hx rfl
   refine evNeg (by decide) ?_
   cases p <;> cases q <;> simp at hl
   ·exact evNeg (by decide) (evNeg (by decide) (evEq (Ev.now _) (by simp)))
   ·exact evNeg (by decide) (evPos rfl (evPos (by omega) (evPos (by omega) (evEq (Ev.now _) (by simp)))))
   ·exact evPos rfl (evPos (by omega) (evNeg (by decide) (evEq (Ev.now _) (by simp))))
   ·exact evPos rfl (evPos (by omega) (evPos rfl (evPos (by omega) (evPos (by omega) (evEq (Ev.now _) (by simp))))))
  ·exact evPos rfl (evEq (Ev.now _) (by simp))
 have hj2 : ∀ m : Int, m = ((p.toNat + q.toNat : Nat) : Int) → Ev (fun k => spec_l30Event.j2 k n (n.length : Int) kind p q m kind 0 0 0 0 (⟨#[]⟩ : ByteArray)) (if kind = 0 ∨ n.length ≠ p.toNat + q.toNat then (0, 0, 0, 0, 0, [], (⟨#[]⟩ : ByteArray), false) else (kind, (if p = true then rd n 0 else 0), (if q = true then rd n ((n.length : Int) - 1) else 0), 0, 0, [], (⟨#[]⟩ : ByteArray), true)) := by
  intro m hm
  refine evSucc ?_
  simp only [spec_l30Event.j2]
  by_cases h : kind = 0
  ·refine evPos h (evEq (hj3 true (fun z => by cases z)) ?_)
   exact (if_pos (Or.inl h)).symm
  ·refine evNeg h ?_
   by_cases h2 : n.length = p.toNat + q.toNat
   ·have e : ((n.length : Int) != m) = false := by rw [hm]; simp [h2]
    rw [e]
    refine evEq (hj3 false (fun _ => h2)) ?_
    exact (if_neg (fun z => Or.elim z h (fun y => y h2))).symm
   ·have e : ((n.length : Int) != m) = true := by rw [hm]; simp; omega
    rw [e]
    refine evEq (hj3 true (fun z => by cases z)) ?_
    exact (if_pos (Or.inr h2)).symm
 cases p
 ·refine evNeg (by decide) (evSucc ?_)
  simp only [spec_l30Event.j1]
  cases q
  ·exact evNeg (by decide) (hj2 0 rfl)
  ·exact evPos rfl (hj2 _ (by rw [w64 (by omega) (by omega)]; rfl))
 ·refine evPos rfl (evSucc ?_)
  simp only [spec_l30Event.j1]
  cases q
  ·exact evNeg (by decide) (hj2 _ rfl)
  ·exact evPos rfl (hj2 _ (by rw [w64 (by omega) (by omega)]; rfl))
theorem ev_spec_callArgs (n : List Int) (hn : n.length = 6) (a b : Int) : Ev (fun k => spec_l30Event.l0 k n 0 a b []) (1, rd n 0, 0, a, b, [⟨0, rd n 3⟩, ⟨0, rd n 4⟩, ⟨0, rd n 5⟩], (⟨#[]⟩ : ByteArray), true) := by
 have e0 : wrap64 (3 + 0) = 3 := w64 (by omega) (by omega)
 have e1 : wrap64 (3 + 1) = 4 := w64 (by omega) (by omega)
 have e2 : wrap64 (3 + 2) = 5 := w64 (by omega) (by omega)
 have f0 : wrap64 (0 + 1) = 1 := w64 (by omega) (by omega)
 have f1 : wrap64 (1 + 1) = 2 := w64 (by omega) (by omega)
 have f2 : wrap64 (2 + 1) = 3 := w64 (by omega) (by omega)
 refine evSucc ?_
 simp only [spec_l30Event.l0, e0, f0]
 refine evPos (by decide) (evPos (by decide) (evPos (by omega) (evPos (by simp) (evSucc ?_))))
 simp only [spec_l30Event.l0, e1, f1]
 refine evPos (by decide) (evPos (by decide) (evPos (by omega) (evPos (by simp) (evSucc ?_))))
 simp only [spec_l30Event.l0, e2, f2]
 refine evPos (by decide) (evPos (by decide) (evPos (by omega) (evPos (by simp) (evSucc ?_))))
 simp only [spec_l30Event.l0]
 exact evNeg (by decide) (evPos (by omega) (Ev.now _))
def kindR (W : List UInt8) : Int × Bool × Bool := (if W = [116, 105, 99, 107] then (3, false, true) else if W = [100, 114, 97, 105, 110] then (4, true, false) else if W = [115, 97, 121] then (5, true, true) else if W = [99, 97, 114, 114, 121] then (6, false, true) else if W = [108, 111, 115, 101] then (7, false, true) else if W = [116, 119, 105, 99, 101] then (8, false, true) else if W = [115, 97, 118, 101] then (10, false, false) else if W = [102, 97, 108, 108] then (11, false, false) else if W = [97, 99, 107] then (12, true, false) else (0, false, false))
theorem ev_spec_l30Event (p : List ByteArray) (h1 : 1 ≤ p.length) (h2 : p.length ≤ 100) (hx : ∀ x ∈ p, x.size ≤ 100000) :
 ∃ a b c d f g h ok, Ev (fun k => spec_l30Event.f k p) (a, b, c, d, f, g, h, ok) ∧ asR (rawE p) a b c d f g h ok := by
 simp only [spec_l30Event.f]
 unfold rawE
 have hl := numsGo_len (p.drop 1) []
 rw [List.length_nil, List.length_drop] at hl
 have en := ev_spec_l30Nums (p.drop 1) (by rw [List.length_drop]; omega)
 obtain ⟨W, hW⟩ : ∃ W, W = (rdOf ByteArray.empty p 0).toList := ⟨_, rfl⟩
 rw [← hW]
 by_cases hp : W = [112, 117, 115, 104]
 ·rw [if_pos hp]
  by_cases hl2 : p.length < 2
  ·rw [if_pos hl2]
   exact ⟨_, _, _, _, _, _, _, _, evPos (by omega) (evPos hp (evPos (by omega) (Ev.now _))), rfl⟩
  ·rw [if_neg hl2]
   have er := ev_spec_ReadDecimal (rdOf ByteArray.empty p 1)
   generalize readD (rdOf ByteArray.empty p 1) = x at *
   obtain ⟨n, ok⟩ := x
   refine ⟨_, _, _, _, _, _, _, _, evPos (by omega) (evPos hp (evNeg (by omega) (evPos (by omega) (Ev.bind er (evPos (by omega) (Ev.bind (ev_spec_l30Join (p.drop 2) (by rw [List.length_drop]; omega) (fun x hx' => hx x (List.mem_of_mem_drop hx'))) (Ev.now _))))))), rfl⟩
 ·rw [if_neg hp]
  generalize numsGo (p.drop 1) [] = x at *
  obtain ⟨n, ok⟩ := x
  simp only at hl
  cases ok
  ·rw [if_neg (fun z => Bool.noConfusion z)]
   exact ⟨_, _, _, _, _, _, _, _, evPos (by omega) (evNeg hp (evPos (by omega) (Ev.bind en (evNeg (fun z => Bool.noConfusion z) (Ev.now _))))), rfl⟩
  ·rw [if_pos rfl]
   unfold shapeE
   dsimp only
   by_cases hc : W = [99, 97, 108, 108]
   ·rw [if_pos hc]
    by_cases h6 : n.length = 6
    ·rw [if_pos h6]
     have a6 : (n.length : Int) = 6 := by omega
     have a1 : (1 : Int) < (n.length : Int) := by omega
     have a2 : (2 : Int) < (n.length : Int) := by omega
     exact ⟨_, _, _, _, _, _, _, _, evPos (by omega) (evNeg hp (evPos (by omega) (Ev.bind en (evPos rfl (evPos hc (evPos a6 (evPos a1 (evPos a2 (ev_spec_callArgs n h6 _ _))))))))), rfl⟩
    ·rw [if_neg h6]
     have a6 : ¬ (n.length : Int) = 6 := by omega
     exact ⟨_, _, _, _, _, _, _, _, evPos (by omega) (evNeg hp (evPos (by omega) (Ev.bind en (evPos rfl (evPos hc (evNeg a6 (Ev.now _))))))), rfl⟩
   ·rw [if_neg hc]
    by_cases hq : W = [115, 112, 111, 105, 108]
    ·rw [if_pos hq]
     by_cases h6 : n.length = 2
     ·rw [if_pos h6]
      have a6 : (n.length : Int) = 2 := by omega
      have a0 : (0 : Int) < (n.length : Int) := by omega
      have a1 : (1 : Int) < (n.length : Int) := by omega
      exact ⟨_, _, _, _, _, _, _, _, evPos (by omega) (evNeg hp (evPos (by omega) (Ev.bind en (evPos rfl (evNeg hc (evPos hq (evPos a6 (evPos a0 (evPos a1 (Ev.now _)))))))))), rfl⟩
     ·rw [if_neg h6]
      have a6 : ¬ (n.length : Int) = 2 := by omega
      exact ⟨_, _, _, _, _, _, _, _, evPos (by omega) (evNeg hp (evPos (by omega) (Ev.bind en (evPos rfl (evNeg hc (evPos hq (evNeg a6 (Ev.now _)))))))), rfl⟩
    ·rw [if_neg hq]
     have fin : ∀ (kind : Int) (u v : Bool) (o : Option EvT), spec_l30Kind.f (rdOf ByteArray.empty p 0) = some (kind, u, v) → o = (if kind = 0 ∨ n.length ≠ u.toNat + v.toNat then none else some (kind, (if u = true then rd n 0 else 0), (if v = true then rd n ((n.length : Int) - 1) else 0), 0, 0, [], (⟨#[]⟩ : ByteArray))) →
      ∃ a b c d f g h ok, Ev (fun k => (spec_l30Kind.f (rdOf ByteArray.empty p 0)).bind fun bt180 => (if bt180.2.1 = true then (spec_l30Event.j1 k n (n.length : Int) bt180.1 bt180.2.1 bt180.2.2 (0 + 1) bt180.1 0 0 0 0 (⟨#[]⟩ : ByteArray)) else (spec_l30Event.j1 k n (n.length : Int) bt180.1 bt180.2.1 bt180.2.2 0 bt180.1 0 0 0 0 (⟨#[]⟩ : ByteArray)))) (a, b, c, d, f, g, h, ok) ∧ asR o a b c d f g h ok := by
      intro kind u v o hk ho
      have ht := ev_kindTail n (by omega) kind u v
      by_cases hz : kind = 0 ∨ n.length ≠ u.toNat + v.toNat
      ·rw [if_pos hz] at ht ho
       exact ⟨_, _, _, _, _, _, _, _, evBindS hk ht, by rw [ho]; rfl⟩
      ·rw [if_neg hz] at ht ho
       exact ⟨_, _, _, _, _, _, _, _, evBindS hk ht, by rw [ho]; rfl⟩
     suffices hh : ∃ a b c d f g h ok, Ev (fun k => (spec_l30Kind.f (rdOf ByteArray.empty p 0)).bind fun bt180 => (if bt180.2.1 = true then (spec_l30Event.j1 k n (n.length : Int) bt180.1 bt180.2.1 bt180.2.2 (0 + 1) bt180.1 0 0 0 0 (⟨#[]⟩ : ByteArray)) else (spec_l30Event.j1 k n (n.length : Int) bt180.1 bt180.2.1 bt180.2.2 0 bt180.1 0 0 0 0 (⟨#[]⟩ : ByteArray)))) (a, b, c, d, f, g, h, ok) ∧ asR (if W = [116, 105, 99, 107] then (if n.length = 1 then some (3, 0, rd n 0, 0, 0, [], ⟨#[]⟩) else none) else if W = [100, 114, 97, 105, 110] then (if n.length = 1 then some (4, rd n 0, 0, 0, 0, [], ⟨#[]⟩) else none) else if W = [115, 97, 121] then (if n.length = 2 then some (5, rd n 0, rd n 1, 0, 0, [], ⟨#[]⟩) else none) else if W = [99, 97, 114, 114, 121] then (if n.length = 1 then some (6, 0, rd n 0, 0, 0, [], ⟨#[]⟩) else none) else if W = [108, 111, 115, 101] then (if n.length = 1 then some (7, 0, rd n 0, 0, 0, [], ⟨#[]⟩) else none) else if W = [116, 119, 105, 99, 101] then (if n.length = 1 then some (8, 0, rd n 0, 0, 0, [], ⟨#[]⟩) else none) else if W = [115, 97, 118, 101] then (if n.length = 0 then some (10, 0, 0, 0, 0, [], ⟨#[]⟩) else none) else if W = [102, 97, 108, 108] then (if n.length = 0 then some (11, 0, 0, 0, 0, [], ⟨#[]⟩) else none) else if W = [97, 99, 107] then (if n.length = 1 then some (12, rd n 0, 0, 0, 0, [], ⟨#[]⟩) else none) else none) a b c d f g h ok by
      obtain ⟨a, b, c, d, f, g, h, ok, hE, hA⟩ := hh
      exact ⟨a, b, c, d, f, g, h, ok, evPos (by omega) (evNeg hp (evPos (by omega) (Ev.bind en (evPos rfl (evNeg hc (evNeg hq hE)))))), hA⟩
     refine fin (kindR W).1 (kindR W).2.1 (kindR W).2.2 _ ?_ ?_
     ·unfold spec_l30Kind.f kindR
      rw [← hW]
      by_cases t0 : W = [116, 105, 99, 107]
      ·rw [if_pos t0, if_pos t0]
      rw [if_neg t0, if_neg t0]
      by_cases t1 : W = [100, 114, 97, 105, 110]
      ·rw [if_pos t1, if_pos t1]
      rw [if_neg t1, if_neg t1]
      by_cases t2 : W = [115, 97, 121]
      ·rw [if_pos t2, if_pos t2]
      rw [if_neg t2, if_neg t2]
      by_cases t3 : W = [99, 97, 114, 114, 121]
      ·rw [if_pos t3, if_pos t3]
      rw [if_neg t3, if_neg t3]
      by_cases t4 : W = [108, 111, 115, 101]
      ·rw [if_pos t4, if_pos t4]
      rw [if_neg t4, if_neg t4]
      by_cases t5 : W = [116, 119, 105, 99, 101]
      ·rw [if_pos t5, if_pos t5]
      rw [if_neg t5, if_neg t5]
      by_cases t6 : W = [115, 97, 118, 101]
      ·rw [if_pos t6, if_pos t6]
      rw [if_neg t6, if_neg t6]
      by_cases t7 : W = [102, 97, 108, 108]
      ·rw [if_pos t7, if_pos t7]
      rw [if_neg t7, if_neg t7]
      by_cases t8 : W = [97, 99, 107]
      ·rw [if_pos t8, if_pos t8]
      rw [if_neg t8, if_neg t8]
     ·unfold kindR
      by_cases t0 : W = [116, 105, 99, 107]
      ·rw [if_pos t0, if_pos t0]
       by_cases hn : n.length = 1
       ·rw [if_pos hn, if_neg (by simp [hn])]
        simp [hn]
       ·rw [if_neg hn, if_pos (Or.inr (by simpa using hn))]
      rw [if_neg t0, if_neg t0]
      by_cases t1 : W = [100, 114, 97, 105, 110]
      ·rw [if_pos t1, if_pos t1]
       by_cases hn : n.length = 1
       ·rw [if_pos hn, if_neg (by simp [hn])]
        simp [hn]
       ·rw [if_neg hn, if_pos (Or.inr (by simpa using hn))]
      rw [if_neg t1, if_neg t1]
      by_cases t2 : W = [115, 97, 121]
      ·rw [if_pos t2, if_pos t2]
       by_cases hn : n.length = 2
       ·rw [if_pos hn, if_neg (by simp [hn])]
        simp [hn]
       ·rw [if_neg hn, if_pos (Or.inr (by simpa using hn))]
      rw [if_neg t2, if_neg t2]
      by_cases t3 : W = [99, 97, 114, 114, 121]
      ·rw [if_pos t3, if_pos t3]
       by_cases hn : n.length = 1
       ·rw [if_pos hn, if_neg (by simp [hn])]
        simp [hn]
       ·rw [if_neg hn, if_pos (Or.inr (by simpa using hn))]
      rw [if_neg t3, if_neg t3]
      by_cases t4 : W = [108, 111, 115, 101]
      ·rw [if_pos t4, if_pos t4]
       by_cases hn : n.length = 1
       ·rw [if_pos hn, if_neg (by simp [hn])]
        simp [hn]
       ·rw [if_neg hn, if_pos (Or.inr (by simpa using hn))]
      rw [if_neg t4, if_neg t4]
      by_cases t5 : W = [116, 119, 105, 99, 101]
      ·rw [if_pos t5, if_pos t5]
       by_cases hn : n.length = 1
       ·rw [if_pos hn, if_neg (by simp [hn])]
        simp [hn]
       ·rw [if_neg hn, if_pos (Or.inr (by simpa using hn))]
      rw [if_neg t5, if_neg t5]
      by_cases t6 : W = [115, 97, 118, 101]
      ·rw [if_pos t6, if_pos t6]
       by_cases hn : n.length = 0
       ·rw [if_pos hn, if_neg (by simp [hn])]
        simp [hn]
       ·rw [if_neg hn, if_pos (Or.inr (by simpa using hn))]
      rw [if_neg t6, if_neg t6]
      by_cases t7 : W = [102, 97, 108, 108]
      ·rw [if_pos t7, if_pos t7]
       by_cases hn : n.length = 0
       ·rw [if_pos hn, if_neg (by simp [hn])]
        simp [hn]
       ·rw [if_neg hn, if_pos (Or.inr (by simpa using hn))]
      rw [if_neg t7, if_neg t7]
      by_cases t8 : W = [97, 99, 107]
      ·rw [if_pos t8, if_pos t8]
       by_cases hn : n.length = 1
       ·rw [if_pos hn, if_neg (by simp [hn])]
        simp [hn]
       ·rw [if_neg hn, if_pos (Or.inr (by simpa using hn))]
      rw [if_neg t8, if_neg t8]
      rw [if_pos (Or.inl rfl)]
theorem ev_impl_pushOf (p : List ByteArray) (h1 : 2 ≤ p.length) (h2 : p.length ≤ 100) (hx : ∀ x ∈ p, x.size ≤ 100000) (n : Int) (ok : Bool) (hr : readD (rdOf ByteArray.empty p 1) = (n, ok)) :
 Ev (fun k => impl_pushOf.f k p) (2, n, 0, 0, 0, [], joinGo (p.drop 2) true ⟨#[]⟩, ok && evOkB 2 n 0 0 0 [] (joinGo (p.drop 2) true ⟨#[]⟩)) := by
 have key : ∀ (l : List ByteArray), l.length ≤ 100 → (∀ x ∈ l, x.size ≤ 100000) → ∀ (d i : Nat) (acc : ByteArray), i + d = l.length → acc.size ≤ i * 100001 → Ev (fun k => impl_pushOf.l0 k n ok acc l (l.length : Int) (i : Int)) (2, n, 0, 0, 0, [], joinGo (l.drop i) (decide (i = 0)) acc, ok && evOkB 2 n 0 0 0 [] (joinGo (l.drop i) (decide (i = 0)) acc)) := by
  intro l hl hx d
  induction d with
  | zero =>
   intro i acc hi ha
   refine evSucc ?_
   simp only [impl_pushOf.l0]
   rw [List.drop_of_length_le (by omega)]
   refine evNeg (by omega) ?_
   cases ok
   ·exact evNeg (by decide) (Ev.now _)
   ·exact evPos rfl (Ev.bind (ev_impl_EventOk 2 n 0 0 0 [] acc (Nat.zero_le _)) (Ev.now _))
  | succ d ih =>
   intro i acc hi ha
   have hlt : i < l.length := by omega
   have hxi := hx _ (List.getElem_mem hlt)
   have w1 : wrap64 ((i : Int) + 1) = ((i + 1 : Nat) : Int) := by rw [w64 (by omega) (by omega)]; omega
   have s1 : (acc ++ (⟨#[32]⟩ : ByteArray)).size = acc.size + 1 := by rw [sizeApp]; rfl
   refine evSucc ?_
   simp only [impl_pushOf.l0]
   rw [List.drop_eq_getElem_cons hlt, rdS l i hlt, w1]
   unfold joinGo
   refine evPos (by omega) (evPos (by omega) (evPos (by omega) ?_))
   by_cases h : i = 0
   ·rw [decide_eq_true h, if_pos rfl]
    refine evNeg (by omega) (evPos (by omega) ?_)
    have := ih (i + 1) (acc ++ l[i]) (by omega) (by rw [sizeApp]; omega)
    rw [decide_eq_false (by omega)] at this
    exact this
   ·rw [decide_eq_false h, if_neg (by decide)]
    refine evPos (by omega) (evPos (by omega) (evPos (by rw [s1]; omega) ?_))
    have := ih (i + 1) ((acc ++ (⟨#[32]⟩ : ByteArray)) ++ l[i]) (by omega) (by rw [sizeApp, s1]; omega)
    rw [decide_eq_false (by omega)] at this
    exact this
 simp only [impl_pushOf.f]
 have er := ev_impl_ReadDecimal (rdOf ByteArray.empty p 1)
 rw [hr] at er
 exact evNeg (by omega) (evPos (by omega) (Ev.bind er (evPos (by omega) (key (p.drop 2) (by rw [List.length_drop]; omega) (fun x hx' => hx x (List.mem_of_mem_drop hx')) (p.drop 2).length 0 ⟨#[]⟩ (by omega) (Nat.zero_le _)))))
def singleR (W : List UInt8) (x : Int) : EvT := (if W = [116, 105, 99, 107] then (3, 0, x, 0, 0, [], ⟨#[]⟩) else if W = [100, 114, 97, 105, 110] then (4, x, 0, 0, 0, [], ⟨#[]⟩) else if W = [99, 97, 114, 114, 121] then (6, 0, x, 0, 0, [], ⟨#[]⟩) else if W = [108, 111, 115, 101] then (7, 0, x, 0, 0, [], ⟨#[]⟩) else if W = [116, 119, 105, 99, 101] then (8, 0, x, 0, 0, [], ⟨#[]⟩) else if W = [97, 99, 107] then (12, x, 0, 0, 0, [], ⟨#[]⟩) else (0, 0, 0, 0, 0, [], ⟨#[]⟩))
theorem singleR_args (W : List UInt8) (x : Int) : (singleR W x).2.2.2.2.2.1.length = 0 := by
 unfold singleR
 repeat (split; · rfl)
 rfl
theorem impl_single_f (b : ByteArray) (x : Int) : impl_single.f b x = some (singleR b.toList x) := by
 unfold impl_single.f singleR
 generalize b.toList = W
 by_cases t0 : W = [116, 105, 99, 107]
 ·rw [if_pos t0, if_pos t0]
 rw [if_neg t0, if_neg t0]
 by_cases t1 : W = [100, 114, 97, 105, 110]
 ·rw [if_pos t1, if_pos t1]
 rw [if_neg t1, if_neg t1]
 by_cases t2 : W = [99, 97, 114, 114, 121]
 ·rw [if_pos t2, if_pos t2]
 rw [if_neg t2, if_neg t2]
 by_cases t3 : W = [108, 111, 115, 101]
 ·rw [if_pos t3, if_pos t3]
 rw [if_neg t3, if_neg t3]
 by_cases t4 : W = [116, 119, 105, 99, 101]
 ·rw [if_pos t4, if_pos t4]
 rw [if_neg t4, if_neg t4]
 by_cases t5 : W = [97, 99, 107]
 ·rw [if_pos t5, if_pos t5]
 rw [if_neg t5, if_neg t5]
theorem evOkT_zero : evOkT (0, 0, 0, 0, 0, [], ⟨#[]⟩) = false := rfl
theorem shape_one (W : List UInt8) (n : List Int) (hc : ¬ W = [99, 97, 108, 108]) (hq : ¬ W = [115, 112, 111, 105, 108]) (hy : ¬ W = [115, 97, 121]) (hv : ¬ W = [115, 97, 118, 101]) (hf : ¬ W = [102, 97, 108, 108]) :
 ((shapeE W n).bind fun e => if evOkT e = true then some e else none) = if n.length = 1 then (if evOkT (singleR W (rd n 0)) = true then some (singleR W (rd n 0)) else none) else none := by
 unfold shapeE singleR
 simp only [if_neg hc, if_neg hq, if_neg hy, if_neg hv, if_neg hf]
 by_cases hn : n.length = 1
 ·simp only [if_pos hn]
  by_cases t0 : W = [116, 105, 99, 107]
  ·simp only [if_pos t0]
   rfl
  simp only [if_neg t0]
  by_cases t1 : W = [100, 114, 97, 105, 110]
  ·simp only [if_pos t1]
   rfl
  simp only [if_neg t1]
  by_cases t2 : W = [99, 97, 114, 114, 121]
  ·simp only [if_pos t2]
   rfl
  simp only [if_neg t2]
  by_cases t3 : W = [108, 111, 115, 101]
  ·simp only [if_pos t3]
   rfl
  simp only [if_neg t3]
  by_cases t4 : W = [116, 119, 105, 99, 101]
  ·simp only [if_pos t4]
   rfl
  simp only [if_neg t4]
  by_cases t5 : W = [97, 99, 107]
  ·simp only [if_pos t5]
   rfl
  simp only [if_neg t5]
  rw [evOkT_zero]
  rfl
 ·simp only [if_neg hn]
  by_cases t0 : W = [116, 105, 99, 107]
  ·simp only [if_pos t0]
   rfl
  simp only [if_neg t0]
  by_cases t1 : W = [100, 114, 97, 105, 110]
  ·simp only [if_pos t1]
   rfl
  simp only [if_neg t1]
  by_cases t2 : W = [99, 97, 114, 114, 121]
  ·simp only [if_pos t2]
   rfl
  simp only [if_neg t2]
  by_cases t3 : W = [108, 111, 115, 101]
  ·simp only [if_pos t3]
   rfl
  simp only [if_neg t3]
  by_cases t4 : W = [116, 119, 105, 99, 101]
  ·simp only [if_pos t4]
   rfl
  simp only [if_neg t4]
  by_cases t5 : W = [97, 99, 107]
  ·simp only [if_pos t5]
   rfl
  simp only [if_neg t5]
  rfl
theorem ev_j3p (n : List Int) (want : Int) (hw : (n.length : Int) = want) (a b c d f : Int) (g : List S98) (h : ByteArray) (hg : g.length ≤ 1048576) : Ev (fun k => impl_eventOf.j3 k n want a b c d f g h) (a, b, c, d, f, g, h, evOkB a b c d f g h) := by
 refine evSucc ?_
 simp only [impl_eventOf.j3]
 exact evPos hw (Ev.bind (ev_impl_EventOk a b c d f g h hg) (Ev.now _))
theorem ev_j3n (n : List Int) (want : Int) (hw : ¬ (n.length : Int) = want) (a b c d f : Int) (g : List S98) (h : ByteArray) : Ev (fun k => impl_eventOf.j3 k n want a b c d f g h) (a, b, c, d, f, g, h, false) := by
 refine evSucc ?_
 simp only [impl_eventOf.j3]
 exact evNeg hw (Ev.now _)
theorem ev_impl_eventOf (p : List ByteArray) (h1 : 1 ≤ p.length) (h2 : p.length ≤ 100) (hx : ∀ x ∈ p, x.size ≤ 100000) :
 ∃ a b c d f g h ok, Ev (fun k => impl_eventOf.f k p) (a, b, c, d, f, g, h, ok) ∧ asR (evE p) a b c d f g h ok := by
 simp only [impl_eventOf.f]
 unfold evE rawE
 have hl := numsGo_len (p.drop 1) []
 rw [List.length_nil, List.length_drop] at hl
 have en := ev_impl_numbersOf (p.drop 1) (by rw [List.length_drop]; omega)
 obtain ⟨W, hW⟩ : ∃ W, W = (rdOf ByteArray.empty p 0).toList := ⟨_, rfl⟩
 rw [← hW]
 by_cases hp : W = [112, 117, 115, 104]
 ·rw [if_pos hp]
  by_cases hl2 : p.length < 2
  ·rw [if_pos hl2]
   refine ⟨_, _, _, _, _, _, _, _, evPos (by omega) (evPos hp (Ev.bind (a := (0, 0, 0, 0, 0, [], (⟨#[]⟩ : ByteArray), false)) ?_ (Ev.now _))), rfl⟩
   simp only [impl_pushOf.f]
   exact evPos (by omega) (Ev.now _)
  ·rw [if_neg hl2]
   obtain ⟨n, ok, hr⟩ : ∃ n ok, readD (rdOf ByteArray.empty p 1) = (n, ok) := ⟨(readD (rdOf ByteArray.empty p 1)).1, (readD (rdOf ByteArray.empty p 1)).2, rfl⟩
   have ep := ev_impl_pushOf p (by omega) h2 hx n ok hr
   rw [hr]
   refine ⟨_, _, _, _, _, _, _, _, evPos (by omega) (evPos hp (Ev.bind ep (Ev.now _))), ?_⟩
   cases ok
   ·rfl
   ·rfl
 ·rw [if_neg hp]
  generalize numsGo (p.drop 1) [] = x at *
  obtain ⟨n, ok⟩ := x
  simp only at hl
  cases ok
  ·rw [if_neg (fun z => Bool.noConfusion z)]
   exact ⟨_, _, _, _, _, _, _, _, evPos (by omega) (evNeg hp (evPos (by omega) (Ev.bind en (evNeg (fun z => Bool.noConfusion z) (Ev.now _))))), rfl⟩
  ·rw [if_pos rfl]
   dsimp only
   by_cases hc : W = [99, 97, 108, 108]
   ·unfold shapeE
    rw [if_pos hc]
    by_cases h6 : n.length = 6
    ·rw [if_pos h6]
     have a6 : (n.length : Int) = 6 := by omega
     have a0 : (0 : Int) < (n.length : Int) := by omega
     have a1 : (1 : Int) < (n.length : Int) := by omega
     have a2 : (2 : Int) < (n.length : Int) := by omega
     have a3 : (3 : Int) < (n.length : Int) := by omega
     have a4 : (4 : Int) < (n.length : Int) := by omega
     have a5 : (5 : Int) < (n.length : Int) := by omega
     exact ⟨_, _, _, _, _, _, _, _, evPos (by omega) (evNeg hp (evPos (by omega) (Ev.bind en (evPos rfl (evPos hc (evPos a6 (evPos a0 (evPos a1 (evPos a2 (evPos a3 (evPos a4 (evPos a5 (ev_j3p n 6 a6 _ _ _ _ _ _ _ (by simp)))))))))))))), rfl⟩
    ·rw [if_neg h6]
     have a6 : ¬ (n.length : Int) = 6 := by omega
     exact ⟨_, _, _, _, _, _, _, _, evPos (by omega) (evNeg hp (evPos (by omega) (Ev.bind en (evPos rfl (evPos hc (evNeg a6 (ev_j3n n 6 a6 _ _ _ _ _ _ _))))))), rfl⟩
   ·by_cases hv : W = [115, 97, 118, 101]
    ·have hf : ¬ W = [102, 97, 108, 108] := by rw [hv]; decide
     have hs : shapeE W n = if n.length = 0 then some (10, 0, 0, 0, 0, [], ⟨#[]⟩) else none := by unfold shapeE; rw [hv]; rfl
     have e1 : (W == ([115, 97, 118, 101] : List UInt8)) = true := by rw [hv]; rfl
     rw [hs]
     by_cases n0 : n.length = 0
     ·have a0 : (n.length : Int) = 0 := by omega
      have ej : Ev (fun k => impl_eventOf.j0 k p n 1 (rdOf ByteArray.empty p 0) (W == ([115, 97, 118, 101] : List UInt8)) 0 0 0 0 0 (⟨#[]⟩ : ByteArray)) (10, 0, 0, 0, 0, [], ⟨#[]⟩, evOkB 10 0 0 0 0 [] ⟨#[]⟩) := by
       rw [e1]
       refine evSucc ?_
       simp only [impl_eventOf.j0]
       rw [← hW]
       exact evPos (by trivial) (evPos (by omega) (evNeg hf (ev_j3p n 0 a0 _ _ _ _ _ _ _ (by simp))))
      exact ⟨_, _, _, _, _, _, _, _, evPos (by omega) (evNeg hp (evPos (by omega) (Ev.bind en (evPos (by trivial) (evNeg hc (evPos hv ej)))))), by rw [if_pos n0]; rfl⟩
     ·have a0 : ¬ (n.length : Int) = 0 := by omega
      have ej : Ev (fun k => impl_eventOf.j0 k p n 1 (rdOf ByteArray.empty p 0) (W == ([115, 97, 118, 101] : List UInt8)) 0 0 0 0 0 (⟨#[]⟩ : ByteArray)) (10, 0, 0, 0, 0, [], ⟨#[]⟩, false) := by
       rw [e1]
       refine evSucc ?_
       simp only [impl_eventOf.j0]
       rw [← hW]
       exact evPos (by trivial) (evPos (by omega) (evNeg hf (ev_j3n n 0 a0 _ _ _ _ _ _ _)))
      exact ⟨_, _, _, _, _, _, _, _, evPos (by omega) (evNeg hp (evPos (by omega) (Ev.bind en (evPos (by trivial) (evNeg hc (evPos hv ej)))))), by rw [if_neg n0]; rfl⟩
    ·by_cases hf : W = [102, 97, 108, 108]
     ·have hs : shapeE W n = if n.length = 0 then some (11, 0, 0, 0, 0, [], ⟨#[]⟩) else none := by unfold shapeE; rw [hf]; rfl
      have e1 : (W == ([102, 97, 108, 108] : List UInt8)) = true := by rw [hf]; rfl
      rw [hs]
      by_cases n0 : n.length = 0
      ·have a0 : (n.length : Int) = 0 := by omega
       have ej : Ev (fun k => impl_eventOf.j0 k p n 1 (rdOf ByteArray.empty p 0) (W == ([102, 97, 108, 108] : List UInt8)) 0 0 0 0 0 (⟨#[]⟩ : ByteArray)) (11, 0, 0, 0, 0, [], ⟨#[]⟩, evOkB 11 0 0 0 0 [] ⟨#[]⟩) := by
        rw [e1]
        refine evSucc ?_
        simp only [impl_eventOf.j0]
        rw [← hW]
        exact evPos (by trivial) (evPos (by omega) (evPos hf (ev_j3p n 0 a0 _ _ _ _ _ _ _ (by simp))))
       exact ⟨_, _, _, _, _, _, _, _, evPos (by omega) (evNeg hp (evPos (by omega) (Ev.bind en (evPos (by trivial) (evNeg hc (evNeg hv ej)))))), by rw [if_pos n0]; rfl⟩
      ·have a0 : ¬ (n.length : Int) = 0 := by omega
       have ej : Ev (fun k => impl_eventOf.j0 k p n 1 (rdOf ByteArray.empty p 0) (W == ([102, 97, 108, 108] : List UInt8)) 0 0 0 0 0 (⟨#[]⟩ : ByteArray)) (11, 0, 0, 0, 0, [], ⟨#[]⟩, false) := by
        rw [e1]
        refine evSucc ?_
        simp only [impl_eventOf.j0]
        rw [← hW]
        exact evPos (by trivial) (evPos (by omega) (evPos hf (ev_j3n n 0 a0 _ _ _ _ _ _ _)))
       exact ⟨_, _, _, _, _, _, _, _, evPos (by omega) (evNeg hp (evPos (by omega) (Ev.bind en (evPos (by trivial) (evNeg hc (evNeg hv ej)))))), by rw [if_neg n0]; rfl⟩
     ·have e1 : (W == ([102, 97, 108, 108] : List UInt8)) = false := by simpa using hf
      suffices hh : ∃ a b c d f g h ok, Ev (fun k => if W = ([115, 97, 121] : List UInt8) then (impl_eventOf.j1 k p n 1 (W == ([115, 97, 121] : List UInt8)) 0 0 0 0 0 (⟨#[]⟩ : ByteArray)) else (impl_eventOf.j1 k p n 1 (W == ([115, 112, 111, 105, 108] : List UInt8)) 0 0 0 0 0 (⟨#[]⟩ : ByteArray))) (a, b, c, d, f, g, h, ok) ∧ asR ((shapeE W n).bind fun e => if evOkT e = true then some e else none) a b c d f g h ok by
       obtain ⟨a, b, c, d, f, g, h, ok, hE, hA⟩ := hh
       have ej : Ev (fun k => impl_eventOf.j0 k p n 1 (rdOf ByteArray.empty p 0) (W == ([102, 97, 108, 108] : List UInt8)) 0 0 0 0 0 (⟨#[]⟩ : ByteArray)) (a, b, c, d, f, g, h, ok) := by
        rw [e1]
        refine evSucc ?_
        simp only [impl_eventOf.j0]
        rw [← hW]
        exact evNeg (fun z => Bool.noConfusion z) hE
       exact ⟨_, _, _, _, _, _, _, _, evPos (by omega) (evNeg hp (evPos (by omega) (Ev.bind en (evPos (by trivial) (evNeg hc (evNeg hv ej)))))), hA⟩
      have j2f : ∀ x : Bool, ¬ n.length = 2 → Ev (fun k => impl_eventOf.j2 k n 2 false 0 0 0 0 0 (⟨#[]⟩ : ByteArray)) (0, 0, 0, 0, 0, [], ⟨#[]⟩, false) := by
       intro _ n2
       have a2 : ¬ (n.length : Int) = 2 := by omega
       refine evSucc ?_
       simp only [impl_eventOf.j2]
       exact evNeg (fun z => Bool.noConfusion z) (evNeg a2 (ev_j3n n 2 a2 _ _ _ _ _ _ _))
      by_cases hy : W = [115, 97, 121]
      ·have hs : shapeE W n = if n.length = 2 then some (5, rd n 0, rd n 1, 0, 0, [], ⟨#[]⟩) else none := by unfold shapeE; rw [hy]; rfl
       have e2 : (W == ([115, 97, 121] : List UInt8)) = true := by rw [hy]; rfl
       rw [hs, e2]
       by_cases n2 : n.length = 2
       ·have a2 : (n.length : Int) = 2 := by omega
        refine ⟨_, _, _, _, _, _, _, _, evPos hy (evSucc (r := (5, rd n 0, rd n 1, 0, 0, [], ⟨#[]⟩, evOkB 5 (rd n 0) (rd n 1) 0 0 [] ⟨#[]⟩)) ?_), by rw [if_pos n2]; rfl⟩
        simp only [impl_eventOf.j1]
        rw [← hW, e2]
        refine evPos (by trivial) (evPos a2 (evPos (by omega) (evSucc ?_)))
        simp only [impl_eventOf.j2]
        exact evPos (by trivial) (evPos (by omega) (evPos (by omega) (ev_j3p n 2 a2 _ _ _ _ _ _ _ (by simp))))
       ·have a2 : ¬ (n.length : Int) = 2 := by omega
        refine ⟨_, _, _, _, _, _, _, _, evPos hy (evSucc (r := (0, 0, 0, 0, 0, [], ⟨#[]⟩, false)) ?_), by rw [if_neg n2]; rfl⟩
        simp only [impl_eventOf.j1]
        exact evPos (by trivial) (evNeg a2 (j2f true n2))
      ·by_cases hq : W = [115, 112, 111, 105, 108]
       ·have hs : shapeE W n = if n.length = 2 then some (9, rd n 1, rd n 0, 0, 0, [], ⟨#[]⟩) else none := by unfold shapeE; rw [hq]; rfl
        have e2 : (W == ([115, 112, 111, 105, 108] : List UInt8)) = true := by rw [hq]; rfl
        have e3 : (W == ([115, 97, 121] : List UInt8)) = false := by simpa using hy
        rw [hs, e2]
        by_cases n2 : n.length = 2
        ·have a2 : (n.length : Int) = 2 := by omega
         refine ⟨_, _, _, _, _, _, _, _, evNeg hy (evSucc (r := (9, rd n 1, rd n 0, 0, 0, [], ⟨#[]⟩, evOkB 9 (rd n 1) (rd n 0) 0 0 [] ⟨#[]⟩)) ?_), by rw [if_pos n2]; rfl⟩
         simp only [impl_eventOf.j1]
         rw [← hW, e3]
         refine evPos (by trivial) (evPos a2 (evPos (by omega) (evSucc ?_)))
         simp only [impl_eventOf.j2]
         exact evNeg (fun z => Bool.noConfusion z) (evPos a2 (evPos (by omega) (evPos (by omega) (ev_j3p n 2 a2 _ _ _ _ _ _ _ (by simp)))))
        ·have a2 : ¬ (n.length : Int) = 2 := by omega
         refine ⟨_, _, _, _, _, _, _, _, evNeg hy (evSucc (r := (0, 0, 0, 0, 0, [], ⟨#[]⟩, false)) ?_), by rw [if_neg n2]; rfl⟩
         simp only [impl_eventOf.j1]
         exact evPos (by trivial) (evNeg a2 (j2f true n2))
       ·have e2 : (W == ([115, 112, 111, 105, 108] : List UInt8)) = false := by simpa using hq
        rw [shape_one W n hc hq hy hv hf, e2]
        by_cases n1 : n.length = 1
        ·have a1 : (n.length : Int) = 1 := by omega
         rw [if_pos n1]
         have es := impl_single_f (rdOf ByteArray.empty p 0) (rd n 0)
         rw [← hW] at es
         have hgl : (singleR W (rd n 0)).2.2.2.2.2.1.length = 0 := singleR_args W _
         generalize singleR W (rd n 0) = e at *
         obtain ⟨a, b, c, d, f, g, h⟩ := e
         by_cases hg : g.length ≤ 1048576
         ·refine ⟨a, b, c, d, f, g, h, _, evNeg hy (evSucc (r := (a, b, c, d, f, g, h, evOkB a b c d f g h)) ?_), rfl⟩
          simp only [impl_eventOf.j1]
          exact evNeg (fun z => Bool.noConfusion z) (evPos a1 (evPos (by omega) (evPos (by omega) (evBindS es (ev_j3p n 1 a1 _ _ _ _ _ _ _ hg)))))
         ·exact absurd (by simp only at hgl; omega) hg
        ·have a1 : ¬ (n.length : Int) = 1 := by omega
         rw [if_neg n1]
         refine ⟨_, _, _, _, _, _, _, _, evNeg hy (evSucc (r := (0, 0, 0, 0, 0, [], ⟨#[]⟩, false)) ?_), rfl⟩
         simp only [impl_eventOf.j1]
         exact evNeg (fun z => Bool.noConfusion z) (evNeg a1 (ev_j3n n 1 a1 _ _ _ _ _ _ _))
def linGo (s : ByteArray) : Nat → Nat → Nat → List ByteArray → List ByteArray
 | 0, _, b, out => if b < s.size then out ++ [s.extract b s.size] else out
 | d + 1, i, b, out => if bt s (i : Int) = 10 then linGo s d (i + 1) (i + 1) (out ++ [s.extract b i]) else linGo s d (i + 1) b out
theorem linGo_len (s : ByteArray) : ∀ d i b out, (linGo s d i b out).length ≤ out.length + d + 1 := by
 intro d
 induction d with
 | zero =>
  intro i b out
  unfold linGo
  split
  ·rw [List.length_append, List.length_singleton]; omega
  ·omega
 | succ d ih =>
  intro i b out
  unfold linGo
  split
  ·have := ih (i + 1) (i + 1) (out ++ [s.extract b i])
   rw [List.length_append, List.length_singleton] at this
   omega
  ·have := ih (i + 1) b out
   omega
theorem ev_impl_lin (s : ByteArray) (hs : s.size ≤ 1048576) : ∀ (d i b : Nat) (out : List ByteArray), i + d = s.size → b ≤ i → out.length ≤ i → Ev (fun k => impl_linesOf.l0 k s out (b : Int) (i : Int)) (linGo s d i b out) := by
 intro d
 induction d with
 | zero =>
  intro i b out hi hb ho
  refine evSucc ?_
  simp only [impl_linesOf.l0]
  unfold linGo
  refine evNeg (by omega) ?_
  by_cases h : b < s.size
  ·rw [if_pos h]
   exact evPos (by omega) (evPos (by omega) (evPos (by omega) (evPos (by omega) (Ev.now _))))
  ·rw [if_neg h]
   exact evNeg (by omega) (Ev.now _)
 | succ d ih =>
  intro i b out hi hb ho
  refine evSucc ?_
  simp only [impl_linesOf.l0]
  unfold linGo
  rw [w64 (x := (i : Int) + 1) (by omega) (by omega), ci]
  refine evPos (by omega) (evPos (by omega) ?_)
  by_cases h : bt s (i : Int) = 10
  ·rw [if_pos h]
   exact evPos h (evPos (by omega) (evPos (by omega) (evPos (by omega) (evPos (by omega) (ih (i + 1) (i + 1) _ (by omega) (by omega) (by rw [List.length_append, List.length_singleton]; omega))))))
  ·rw [if_neg h]
   exact evNeg h (ih (i + 1) b _ (by omega) (by omega) (by omega))
theorem ev_spec_lin (s : ByteArray) (hs : s.size ≤ 1048576) : ∀ (d i b : Nat) (out : List ByteArray), i + d = s.size → b ≤ i → out.length ≤ i → Ev (fun k => spec_l30Lines.l0 k s out (b : Int) (i : Int)) (linGo s d i b out) := by
 intro d
 induction d with
 | zero =>
  intro i b out hi hb ho
  refine evSucc ?_
  simp only [spec_l30Lines.l0]
  unfold linGo
  refine evNeg (by omega) ?_
  by_cases h : b < s.size
  ·rw [if_pos h]
   exact evPos (by omega) (evPos (by omega) (evPos (by omega) (evPos (by omega) (Ev.now _))))
  ·rw [if_neg h]
   exact evNeg (by omega) (Ev.now _)
 | succ d ih =>
  intro i b out hi hb ho
  refine evSucc ?_
  simp only [spec_l30Lines.l0]
  unfold linGo
  rw [w64 (x := (i : Int) + 1) (by omega) (by omega), ci]
  refine evPos (by omega) (evPos (by omega) ?_)
  by_cases h : bt s (i : Int) = 10
  ·rw [if_pos h]
   exact evPos h (evPos (by omega) (evPos (by omega) (evPos (by omega) (evPos (by omega) (ih (i + 1) (i + 1) _ (by omega) (by omega) (by rw [List.length_append, List.length_singleton]; omega))))))
  ·rw [if_neg h]
   exact evNeg h (ih (i + 1) b _ (by omega) (by omega) (by omega))
def linesS (s : ByteArray) : List ByteArray := linGo s s.size 0 0 []
theorem ev_impl_linesOf (s : ByteArray) (hs : s.size ≤ 1048576) : Ev (fun k => impl_linesOf.f k s) (linesS s) := by
 simp only [impl_linesOf.f]
 exact ev_impl_lin s hs s.size 0 0 [] (by omega) (by omega) (Nat.le_refl _)
theorem ev_spec_l30Lines (s : ByteArray) (hs : s.size ≤ 1048576) : Ev (fun k => spec_l30Lines.f k s) (linesS s) := by
 simp only [spec_l30Lines.f]
 exact ev_spec_lin s hs s.size 0 0 [] (by omega) (by omega) (Nat.le_refl _)
theorem linesS_len (s : ByteArray) : (linesS s).length ≤ s.size + 1 := by
 have := linGo_len s s.size 0 0 []
 rw [List.length_nil] at this
 unfold linesS
 omega
theorem one48 (s : ByteArray) (i : Nat) : wrap64 (bt s (i : Int)) = bt s (i : Int) := by
 have := bt_range s (i : Int)
 exact w64 (by omega) (by omega)
def prB (c : Int) : Bool := decide (32 ≤ c) && decide (c ≤ 126)
def partsR (s : ByteArray) : Nat → Nat → Nat → List ByteArray → List ByteArray × Bool
 | 0, _, _, out => if 10 < out.length then ([], false) else (out, true)
 | d + 1, i, b, out =>
  if i < s.size ∧ prB (bt s (i : Int)) = false then ([], false)
  else if i < s.size ∧ bt s (i : Int) ≠ 32 then partsR s d (i + 1) b out
  else if b < i then partsR s d (i + 1) (i + 1) (out ++ [s.extract b i]) else partsR s d (i + 1) (i + 1) out
def partsB (s : ByteArray) : List ByteArray × Bool := if 600 < s.size then ([], false) else partsR s (s.size + 1) 0 0 []
theorem partsR_le (s : ByteArray) : ∀ d i b out, (∀ x ∈ out, x.size ≤ s.size) → ∀ x ∈ (partsR s d i b out).1, x.size ≤ s.size := by
 intro d
 induction d with
 | zero =>
  intro i b out h x hx
  unfold partsR at hx
  split at hx
  ·cases hx
  ·exact h x hx
 | succ d ih =>
  intro i b out h x hx
  unfold partsR at hx
  split at hx
  ·cases hx
  ·split at hx
   ·exact ih _ _ _ h x hx
   ·split at hx
    ·refine ih _ _ _ (fun y hy => ?_) x hx
     rcases List.mem_append.1 hy with hy | hy
     ·exact h y hy
     ·rw [List.mem_singleton] at hy
      subst hy
      rw [ByteArray.size_extract]
      omega
    ·exact ih _ _ _ h x hx
theorem partsB_le (s : ByteArray) : ∀ x ∈ (partsB s).1, x.size ≤ 600 := by
 unfold partsB
 split
 ·intro x hx; cases hx
 ·intro x hx
  have := partsR_le s _ _ _ [] (fun y hy => by cases hy) x hx
  omega
theorem partsR_len (s : ByteArray) : ∀ d i b out, (partsR s d i b out).1.length ≤ 10 := by
 intro d
 induction d with
 | zero =>
  intro i b out
  unfold partsR
  split
  ·exact Nat.zero_le _
  ·show out.length ≤ 10; omega
 | succ d ih =>
  intro i b out
  unfold partsR
  split
  ·exact Nat.zero_le _
  ·split
   ·exact ih _ _ _
   ·split
    ·exact ih _ _ _
    ·exact ih _ _ _
theorem partsB_len (s : ByteArray) : (partsB s).1.length ≤ 10 := by
 unfold partsB
 split
 ·exact Nat.zero_le _
 ·exact partsR_len _ _ _ _ _
theorem ev_spec_partsR (s : ByteArray) (hs : s.size ≤ 600) : ∀ d i b out, i + d = s.size + 1 → b ≤ i → out.length ≤ i → Ev (fun k => spec_PartsOf.l0 k s out (b : Int) (i : Int)) (partsR s d i b out) := by
 intro d
 induction d with
 | zero =>
  intro i b out hi hb ho
  refine evSucc ?_
  simp only [spec_PartsOf.l0]
  refine evNeg (by omega) ?_
  by_cases h : 10 < out.length
  ·exact evPos (by omega) (evEq (Ev.now _) (if_pos h).symm)
  ·exact evNeg (by omega) (evEq (Ev.now _) (if_neg h).symm)
 | succ d ih =>
  intro i b out hi hb ho
  have hbr := bt_range s (i : Int)
  have blank : ¬ (i < s.size ∧ prB (bt s (i : Int)) = false) → ¬ (i < s.size ∧ bt s (i : Int) ≠ 32) → Ev (fun k => spec_PartsOf.j2 k s out (b : Int) (i : Int) false) (partsR s (d + 1) i b out) := by
   intro h1 h2
   refine evSucc ?_
   simp only [spec_PartsOf.j2]
   refine evNeg (by simp) ?_
   unfold partsR
   rw [if_neg h1, if_neg h2]
   by_cases hbi : b < i
   ·rw [if_pos hbi]
    refine evPos (by omega) (evPos (by omega) (evPos (by omega) (evPos (by omega) (evPos (by omega) ?_))))
    rw [Int.toNat_natCast, Int.toNat_natCast, w64 (by omega) (by omega), ci]
    exact ih (i + 1) (i + 1) _ (by omega) (by omega) (by rw [List.length_append, List.length_singleton]; omega)
   ·rw [if_neg hbi]
    refine evNeg (by omega) ?_
    rw [w64 (by omega) (by omega), ci]
    exact ih (i + 1) (i + 1) _ (by omega) (by omega) (by omega)
  refine evSucc ?_
  simp only [spec_PartsOf.l0]
  refine evPos (by omega) ?_
  by_cases hlt : i < s.size
  ·refine evPos (by omega) (evPos (by omega) ?_)
   by_cases hp : prB (bt s (i : Int)) = true
   ·have hp' : 32 ≤ bt s (i : Int) ∧ bt s (i : Int) ≤ 126 := by unfold prB at hp; rw [Bool.and_eq_true, decide_eq_true_eq, decide_eq_true_eq] at hp; exact hp
    refine evNeg (by omega) (evSucc ?_)
    simp only [spec_PartsOf.j1]
    refine evNeg (by simp; omega) (evPos (by omega) (evPos (by omega) ?_))
    by_cases h32 : bt s (i : Int) = 32
    ·rw [show (bt s (i : Int) != 32) = false by rw [h32]; rfl]
     exact blank (fun z => by rw [hp] at z; cases z.2) (fun z => z.2 h32)
    ·rw [show (bt s (i : Int) != 32) = true from bne_iff_ne.2 h32]
     refine evSucc ?_
     simp only [spec_PartsOf.j2]
     refine evPos trivial ?_
     rw [w64 (by omega) (by omega), ci]
     unfold partsR
     rw [if_neg (fun z => by rw [hp] at z; cases z.2), if_pos ⟨hlt, h32⟩]
     exact ih (i + 1) b _ (by omega) (by omega) (by omega)
   ·have hp0 : prB (bt s (i : Int)) = false := by simpa using hp
    have hp' : ¬ (32 ≤ bt s (i : Int) ∧ bt s (i : Int) ≤ 126) := fun z => hp (by unfold prB; rw [Bool.and_eq_true, decide_eq_true_eq, decide_eq_true_eq]; exact z)
    have hr : partsR s (d + 1) i b out = ([], false) := by unfold partsR; rw [if_pos ⟨hlt, hp0⟩]
    rw [hr]
    by_cases h1 : bt s (i : Int) < 32
    ·refine evPos h1 (evSucc ?_)
     simp only [spec_PartsOf.j1]
     exact evPos trivial (Ev.now _)
    ·refine evNeg h1 (evSucc ?_)
     simp only [spec_PartsOf.j1]
     exact evPos (by rw [decide_eq_true_eq]; omega) (Ev.now _)
  ·refine evNeg (by omega) (evSucc ?_)
   simp only [spec_PartsOf.j1]
   refine evNeg (by simp) (evNeg (by omega) ?_)
   exact blank (fun z => hlt z.1) (fun z => hlt z.1)
theorem ev_spec_PartsOf (s : ByteArray) : Ev (fun k => spec_PartsOf.f k s) (partsB s) := by
 simp only [spec_PartsOf.f, Option.bind_some]
 unfold partsB
 by_cases h : 600 < s.size
 ·exact evPos (by omega) (evEq (Ev.now _) (if_pos h).symm)
 ·refine evNeg (by omega) (evEq (ev_spec_partsR s (by omega) (s.size + 1) 0 0 [] (by omega) (by omega) (by show (0 : Nat) ≤ _; omega)) (if_neg h).symm)
theorem ev_impl_partsR (s : ByteArray) (hs : s.size ≤ 600) : ∀ d i b (f : Int) out, i + d = s.size + 1 → (f = -1 ∧ b = i) ∨ (f = (b : Int) ∧ b < i) → out.length ≤ i → Ev (fun k => impl_PartsOf.l0 k s out f (i : Int)) (partsR s d i b out) := by
 intro d
 induction d with
 | zero =>
  intro i b f out hi hb ho
  refine evSucc ?_
  simp only [impl_PartsOf.l0]
  refine evNeg (by omega) ?_
  by_cases h : 10 < out.length
  ·exact evPos (by omega) (evEq (Ev.now _) (if_pos h).symm)
  ·exact evNeg (by omega) (evEq (Ev.now _) (if_neg h).symm)
 | succ d ih =>
  intro i b f out hi hb ho
  have blank : ¬ (i < s.size ∧ prB (bt s (i : Int)) = false) → ¬ (i < s.size ∧ bt s (i : Int) ≠ 32) → Ev (fun k => impl_PartsOf.j2 k s out f (i : Int) true) (partsR s (d + 1) i b out) := by
   intro h1 h2
   refine evSucc ?_
   simp only [impl_PartsOf.j2]
   refine evPos trivial (evSucc ?_)
   simp only [impl_PartsOf.j3]
   refine evNeg (by simp) (evPos trivial ?_)
   unfold partsR
   rw [if_neg h1, if_neg h2]
   rcases hb with ⟨rfl, rfl⟩ | ⟨rfl, hbi⟩
   ·rw [if_neg (Nat.lt_irrefl _)]
    refine evNeg (by omega) ?_
    rw [w64 (by omega) (by omega), ci]
    exact ih (b + 1) (b + 1) (-1) _ (by omega) (Or.inl ⟨rfl, rfl⟩) (by omega)
   ·rw [if_pos hbi]
    refine evPos (by omega) (evPos (by omega) (evPos (by omega) (evPos (by omega) (evPos (by omega) ?_))))
    rw [Int.toNat_natCast, Int.toNat_natCast, w64 (by omega) (by omega), ci]
    exact ih (i + 1) (i + 1) (-1) _ (by omega) (Or.inl ⟨rfl, rfl⟩) (by rw [List.length_append, List.length_singleton]; omega)
  refine evSucc ?_
  simp only [impl_PartsOf.l0]
  refine evPos (by omega) ?_
  by_cases hlt : i < s.size
  ·refine evPos (by omega) (evPos (by omega) ?_)
   rw [one48, within_f]
   refine evBindS rfl (evSucc ?_)
   simp only [impl_PartsOf.j1]
   by_cases hp : prB (bt s (i : Int)) = true
   ·have hpe : (decide (32 ≤ bt s (i : Int)) && decide (bt s (i : Int) ≤ 126)) = true := hp
    rw [hpe]
    refine evNeg (by simp) (evNeg (by omega) (evPos (by omega) (evPos (by omega) ?_)))
    by_cases h32 : bt s (i : Int) = 32
    ·rw [show (bt s (i : Int) == 32) = true from beq_iff_eq.2 h32]
     exact blank (fun z => by rw [hp] at z; cases z.2) (fun z => z.2 h32)
    ·rw [show (bt s (i : Int) == 32) = false from beq_eq_false_iff_ne.2 h32]
     refine evSucc ?_
     simp only [impl_PartsOf.j2]
     refine evNeg (by simp) (evSucc ?_)
     simp only [impl_PartsOf.j3]
     unfold partsR
     rw [if_neg (fun z => by rw [hp] at z; cases z.2), if_pos ⟨hlt, h32⟩]
     rcases hb with ⟨rfl, rfl⟩ | ⟨rfl, hbi⟩
     ·refine evPos (by decide) (evNeg (by simp) ?_)
      rw [w64 (by omega) (by omega), ci]
      exact ih (b + 1) b _ _ (by omega) (Or.inr ⟨rfl, by omega⟩) (by omega)
     ·refine evNeg (by rw [decide_eq_true_eq]; omega) (evNeg (by simp) ?_)
      rw [w64 (by omega) (by omega), ci]
      exact ih (i + 1) b _ _ (by omega) (Or.inr ⟨rfl, by omega⟩) (by omega)
   ·have hp0 : prB (bt s (i : Int)) = false := by simpa using hp
    have hpe : (decide (32 ≤ bt s (i : Int)) && decide (bt s (i : Int) ≤ 126)) = false := hp0
    rw [hpe]
    have hr : partsR s (d + 1) i b out = ([], false) := by unfold partsR; rw [if_pos ⟨hlt, hp0⟩]
    rw [hr]
    exact evPos rfl (Ev.now _)
  ·refine evNeg (by omega) (evSucc ?_)
   simp only [impl_PartsOf.j1]
   refine evNeg (by simp) (evPos (by omega) ?_)
   exact blank (fun z => hlt z.1) (fun z => hlt z.1)
theorem ev_impl_PartsOf (s : ByteArray) : Ev (fun k => impl_PartsOf.f k s) (partsB s) := by
 simp only [impl_PartsOf.f]
 unfold partsB
 by_cases h : 600 < s.size
 ·exact evPos (by omega) (evEq (Ev.now _) (if_pos h).symm)
 ·refine evNeg (by omega) (evEq (ev_impl_partsR s (by omega) (s.size + 1) 0 0 (-1) [] (by omega) (Or.inl ⟨rfl, rfl⟩) (by show (0 : Nat) ≤ _; omega)) (if_neg h).symm)
def mtGo (n : Nat) (acc : ByteArray) : ByteArray := if h : n = 0 then (⟨#[109]⟩ : ByteArray) ++ acc else mtGo (n / 10) (strOfNums [((48 + n % 10 : Nat) : Int)] ++ acc)
 termination_by n
 decreasing_by omega
def markT (k : Int) : ByteArray := if k ≤ 0 then (⟨#[109, 48]⟩ : ByteArray) else mtGo k.toNat ⟨#[]⟩
theorem ev_markText (k0 : Int) (h1 : k0 ≤ 1000000000) : Ev (fun k => laws_markText.f k k0) (markT k0) := by
 simp only [laws_markText.f]
 unfold markT
 refine evIte (fun h => Ev.now _) (fun h => ?_)
 have key : ∀ (n : Nat) (acc : ByteArray), n ≤ 1000000000 → n + acc.size ≤ 2000000000 → Ev (fun k => laws_markText.l0 k (n : Int) acc) (mtGo n acc) := by
  intro n
  induction n using Nat.strongRecOn with
  | ind n ih =>
   intro acc hn ha
   refine evSucc ?_
   simp only [laws_markText.l0]
   rw [mtGo]
   by_cases h0 : n = 0
   ·rw [dif_pos h0]
    exact evNeg (by omega) (evPos (by omega) (Ev.now _))
   ·rw [dif_neg h0]
    simp only [Option.bind_some]
    have e1 : Int.tmod (n : Int) 10 = ((n % 10 : Nat) : Int) := by rw [Int.tmod_eq_emod_of_nonneg (by omega)]; omega
    have e2 : Int.tdiv (n : Int) 10 = ((n / 10 : Nat) : Int) := by rw [Int.tdiv_eq_ediv_of_nonneg (by omega)]; omega
    rw [e1, e2, w64 (x := 48 + ((n % 10 : Nat) : Int)) (by omega) (by omega), w64 (x := ((n / 10 : Nat) : Int)) (by omega) (by omega), show (48 + ((n % 10 : Nat) : Int)) % 256 = ((48 + n % 10 : Nat) : Int) by omega]
    have hs : (strOfNums [((48 + n % 10 : Nat) : Int)]).size = 1 := by rw [strOfNums_size]; rfl
    refine evPos (by omega) (evPos (by rw [hs]; omega) ?_)
    exact ih (n / 10) (by omega) _ (by omega) (by rw [sizeApp, hs]; omega)
 have := key k0.toNat ⟨#[]⟩ (by omega) (by show k0.toNat + 0 ≤ _; omega)
 rw [Int.toNat_of_nonneg (by omega)] at this
 exact this
theorem partsR_pos (s : ByteArray) : ∀ d i b out, i + d = s.size + 1 → (∀ x ∈ out, 1 ≤ x.size) → ∀ x ∈ (partsR s d i b out).1, 1 ≤ x.size := by
 intro d
 induction d with
 | zero =>
  intro i b out hi h x hx
  unfold partsR at hx
  split at hx
  ·cases hx
  ·exact h x hx
 | succ d ih =>
  intro i b out hi h x hx
  unfold partsR at hx
  split at hx
  ·cases hx
  ·split at hx
   ·exact ih _ _ _ (by omega) h x hx
   ·split at hx
    ·refine ih _ _ _ (by omega) (fun y hy => ?_) x hx
     rcases List.mem_append.1 hy with hy | hy
     ·exact h y hy
     ·rw [List.mem_singleton] at hy
      subst hy
      rw [ByteArray.size_extract]
      omega
    ·exact ih _ _ _ (by omega) h x hx
theorem partsB_pos (s : ByteArray) : ∀ x ∈ (partsB s).1, 1 ≤ x.size := by
 unfold partsB
 split
 ·intro x hx; cases hx
 ·exact partsR_pos s _ _ _ _ (by omega) (fun x hx => by cases hx)
def toEv (e : EvT) : S69 := ⟨e.1, e.2.1, e.2.2.1, ⟨e.2.2.2.1, e.2.2.2.2.1, e.2.2.2.2.2.1⟩, e.2.2.2.2.2.2⟩
def scrGo : List ByteArray → Nat → List S69 → Int → Bool → List S69 × Int × Int
 | [], _, out, calm, _ => (out, calm, 0)
 | l :: r, i, out, calm, has =>
  if (partsB l).2 = true ∧ ((partsB l).1.length = 0 ∨ bt (rdOf ByteArray.empty (partsB l).1 0) 0 = 35) then scrGo r (i + 1) out calm has
  else if (partsB l).2 = false ∨ has = true then ([], 0, (i : Int) + 1)
  else if (rdOf ByteArray.empty (partsB l).1 0).toList = [99, 97, 108, 109] then
   (if (numsGo ((partsB l).1.drop 1) []).2 = true ∧ (numsGo ((partsB l).1.drop 1) []).1.length = 1 then scrGo r (i + 1) out (rd (numsGo ((partsB l).1.drop 1) []).1 0) true else ([], 0, (i : Int) + 1))
  else match evE (partsB l).1 with
   | none => ([], 0, (i : Int) + 1)
   | some e => if out.length = 90 then ([], 0, (i : Int) + 1) else scrGo r (i + 1) (out ++ [toEv e]) calm has
theorem evOkT_args (e : EvT) (h : evOkT e = true) : e.2.2.2.2.2.1.length ≤ 3 := by
 obtain ⟨a, b, c, d, f, g, t⟩ := e
 show g.length ≤ 3
 simp only [evOkT, evOkB, evBody, Bool.and_eq_true] at h
 have h1 := h.2.1
 by_cases hk : a = 1
 ·rw [if_pos hk] at h1
  simp only [callB, Bool.and_eq_true] at h1
  have := h1.2.2.2
  simp at this
  omega
 ·rw [if_neg hk] at h1
  simp only [Bool.and_eq_true, decide_eq_true_eq] at h1
  omega
theorem evE_args {p : List ByteArray} {e : EvT} (h : evE p = some e) : e.2.2.2.2.2.1.length ≤ 3 := by
 unfold evE at h
 obtain ⟨e', _, h2⟩ := Option.bind_eq_some_iff.1 h
 split at h2
 ·rename_i hk
  obtain rfl := Option.some.inj h2
  exact evOkT_args _ hk
 ·cases h2
theorem shapeE_args (W : List UInt8) (n : List Int) (e : EvT) (h : shapeE W n = some e) : e.2.2.2.2.2.1.length ≤ 3 := by
 unfold shapeE at h
 by_cases t_call : W = [99, 97, 108, 108]
 ·rw [if_pos t_call] at h
  by_cases n_ : n.length = 6
  ·rw [if_pos n_] at h
   obtain rfl := Option.some.inj h
   simp
  ·rw [if_neg n_] at h
   cases h
 rw [if_neg t_call] at h
 by_cases t_spoil : W = [115, 112, 111, 105, 108]
 ·rw [if_pos t_spoil] at h
  by_cases n_ : n.length = 2
  ·rw [if_pos n_] at h
   obtain rfl := Option.some.inj h
   simp
  ·rw [if_neg n_] at h
   cases h
 rw [if_neg t_spoil] at h
 by_cases t_tick : W = [116, 105, 99, 107]
 ·rw [if_pos t_tick] at h
  by_cases n_ : n.length = 1
  ·rw [if_pos n_] at h
   obtain rfl := Option.some.inj h
   simp
  ·rw [if_neg n_] at h
   cases h
 rw [if_neg t_tick] at h
 by_cases t_drain : W = [100, 114, 97, 105, 110]
 ·rw [if_pos t_drain] at h
  by_cases n_ : n.length = 1
  ·rw [if_pos n_] at h
   obtain rfl := Option.some.inj h
   simp
  ·rw [if_neg n_] at h
   cases h
 rw [if_neg t_drain] at h
 by_cases t_say : W = [115, 97, 121]
 ·rw [if_pos t_say] at h
  by_cases n_ : n.length = 2
  ·rw [if_pos n_] at h
   obtain rfl := Option.some.inj h
   simp
  ·rw [if_neg n_] at h
   cases h
 rw [if_neg t_say] at h
 by_cases t_carry : W = [99, 97, 114, 114, 121]
 ·rw [if_pos t_carry] at h
  by_cases n_ : n.length = 1
  ·rw [if_pos n_] at h
   obtain rfl := Option.some.inj h
   simp
  ·rw [if_neg n_] at h
   cases h
 rw [if_neg t_carry] at h
 by_cases t_lose : W = [108, 111, 115, 101]
 ·rw [if_pos t_lose] at h
  by_cases n_ : n.length = 1
  ·rw [if_pos n_] at h
   obtain rfl := Option.some.inj h
   simp
  ·rw [if_neg n_] at h
   cases h
 rw [if_neg t_lose] at h
 by_cases t_twice : W = [116, 119, 105, 99, 101]
 ·rw [if_pos t_twice] at h
  by_cases n_ : n.length = 1
  ·rw [if_pos n_] at h
   obtain rfl := Option.some.inj h
   simp
  ·rw [if_neg n_] at h
   cases h
 rw [if_neg t_twice] at h
 by_cases t_save : W = [115, 97, 118, 101]
 ·rw [if_pos t_save] at h
  by_cases n_ : n.length = 0
  ·rw [if_pos n_] at h
   obtain rfl := Option.some.inj h
   simp
  ·rw [if_neg n_] at h
   cases h
 rw [if_neg t_save] at h
 by_cases t_fall : W = [102, 97, 108, 108]
 ·rw [if_pos t_fall] at h
  by_cases n_ : n.length = 0
  ·rw [if_pos n_] at h
   obtain rfl := Option.some.inj h
   simp
  ·rw [if_neg n_] at h
   cases h
 rw [if_neg t_fall] at h
 by_cases t_ack : W = [97, 99, 107]
 ·rw [if_pos t_ack] at h
  by_cases n_ : n.length = 1
  ·rw [if_pos n_] at h
   obtain rfl := Option.some.inj h
   simp
  ·rw [if_neg n_] at h
   cases h
 rw [if_neg t_ack] at h
 cases h
theorem rawE_args {p : List ByteArray} {a b c d f : Int} {g : List S98} {h : ByteArray} (hA : rawE p = if true = true then some (a, b, c, d, f, g, h) else none) : g.length ≤ 1048576 := by
 rw [if_pos rfl] at hA
 unfold rawE at hA
 split at hA
 ·split at hA
  ·cases hA
  ·split at hA
   ·have := Option.some.inj hA
    simp only [Prod.mk.injEq] at this
    rw [← this.2.2.2.2.2.1]
    exact Nat.zero_le _
   ·cases hA
 ·split at hA
  ·have := shapeE_args _ _ _ hA
   simp only at this
   omega
  ·cases hA
theorem scrGo_facts : ∀ (r : List ByteArray) (i : Nat) (out : List S69) (calm : Int) (has : Bool), out.length ≤ 90 → (∀ e ∈ out, e.f3.f2.length ≤ 3) → (scrGo r i out calm has).1.length ≤ 90 ∧ ∀ e ∈ (scrGo r i out calm has).1, e.f3.f2.length ≤ 3 := by
 intro r
 induction r with
 | nil => intro i out calm has h1 h2; exact ⟨h1, h2⟩
 | cons l r ih =>
  intro i out calm has h1 h2
  have z : ∀ x : Int, (([], 0, x) : List S69 × Int × Int).1.length ≤ 90 ∧ ∀ e ∈ (([], 0, x) : List S69 × Int × Int).1, e.f3.f2.length ≤ 3 := fun x => ⟨Nat.zero_le _, fun e he => by cases he⟩
  unfold scrGo
  split
  ·exact ih _ _ _ _ h1 h2
  ·split
   ·exact z _
   ·split
    ·split
     ·exact ih _ _ _ _ h1 h2
     ·exact z _
    ·split
     ·exact z _
     ·rename_i e he
      split
      ·exact z _
      ·refine ih _ _ _ _ (by rw [List.length_append, List.length_singleton]; omega) (fun x hx => ?_)
       rcases List.mem_append.1 hx with hx | hx
       ·exact h2 x hx
       ·rw [List.mem_singleton] at hx
        subst hx
        exact evE_args he
theorem ev_impl_scr (L : List ByteArray) (hL : L.length ≤ 1048577) : ∀ (d i : Nat) (out : List S69) (calm : Int) (has : Bool), i + d = L.length → out.length ≤ 90 → Ev (fun k => impl_ReadScript.l0 k out calm has L (L.length : Int) (i : Int)) (scrGo (L.drop i) i out calm has) := by
 intro d
 induction d with
 | zero =>
  intro i out calm has hi ho
  refine evSucc ?_
  simp only [impl_ReadScript.l0]
  rw [List.drop_of_length_le (by omega)]
  exact evNeg (by omega) (Ev.now _)
 | succ d ih =>
  intro i out calm has hi ho
  have hlt : i < L.length := by omega
  have w1 : wrap64 ((i : Int) + 1) = ((i + 1 : Nat) : Int) := by rw [w64 (by omega) (by omega)]; omega
  have hp := ev_impl_PartsOf L[i]
  have hpos := partsB_pos L[i]
  have hle := partsB_le L[i]
  have hlen := partsB_len L[i]
  refine evSucc ?_
  simp only [impl_ReadScript.l0]
  rw [List.drop_eq_getElem_cons hlt, rdS L i hlt]
  unfold scrGo
  generalize partsB L[i] = x at *
  obtain ⟨p, ok⟩ := x
  simp only at hpos hle hlen
  dsimp only
  refine evPos (by omega) (evPos (by omega) (evPos (by omega) (Ev.bind hp ?_)))
  have jback : Ev (fun k => impl_ReadScript.j1 k out calm has (i : Int) p ok L (L.length : Int) (i : Int) true) (scrGo (L.drop (i + 1)) (i + 1) out calm has) := by
   refine evSucc ?_
   simp only [impl_ReadScript.j1]
   rw [w1]
   exact evPos (by trivial) (ih (i + 1) out calm has (by omega) ho)
  have jstop : Ev (fun k => impl_ReadScript.j2 k out calm has (i : Int) p L (L.length : Int) (i : Int) true) ([], 0, (i : Int) + 1) := by
   refine evSucc ?_
   simp only [impl_ReadScript.j2]
   rw [w1]
   exact evPos (by trivial) (evEq (Ev.now _) (by rw [ci]))
  cases ok
  ·refine evNeg (fun z => Bool.noConfusion z) ?_
   rw [if_neg (fun z => Bool.noConfusion z.1), if_pos (Or.inl rfl)]
   refine evSucc ?_
   simp only [impl_ReadScript.j1]
   exact evNeg (fun z => Bool.noConfusion z) (evNeg (fun z => Bool.noConfusion z) jstop)
  ·refine evPos (by trivial) ?_
   by_cases h0 : p.length = 0
   ·rw [if_pos ⟨rfl, Or.inl h0⟩]
    have a0 : (p.length : Int) = 0 := by omega
    exact evPos a0 jback
   ·have a0 : ¬ (p.length : Int) = 0 := by omega
    have a1 : (0 : Int) < (p.length : Int) := by omega
    have hp0 : rdOf ByteArray.empty p ((0 : Nat) : Int) = p[0] := rdS p 0 (by omega)
    have hs0 : (0 : Int) < ((rdOf ByteArray.empty p 0).size : Int) := by
     have := hpos p[0] (List.getElem_mem _)
     have e : rdOf ByteArray.empty p 0 = p[0] := hp0
     rw [e]; omega
    refine evNeg a0 (evPos a1 (evPos hs0 ?_))
    by_cases h35 : bt (rdOf ByteArray.empty p 0) 0 = 35
    ·rw [if_pos ⟨rfl, Or.inr h35⟩]
     have e : (bt (rdOf ByteArray.empty p 0) 0 == 35) = true := by simpa using h35
     rw [e]
     exact jback
    ·rw [if_neg (fun z => z.2.elim h0 h35)]
     have e : (bt (rdOf ByteArray.empty p 0) 0 == 35) = false := by simpa using h35
     rw [e]
     refine evSucc ?_
     simp only [impl_ReadScript.j1]
     refine evNeg (fun z => Bool.noConfusion z) (evPos (by trivial) ?_)
     cases has
     ·rw [if_neg (fun z => z.elim (fun y => Bool.noConfusion y) (fun y => Bool.noConfusion y))]
      refine evNeg (fun z => Bool.noConfusion z) ?_
      have e2 : ((p.length : Int) == 0) = false := by simpa using a0
      rw [e2]
      refine evSucc ?_
      simp only [impl_ReadScript.j2]
      refine evNeg (fun z => Bool.noConfusion z) (evPos a1 ?_)
      by_cases hc : (rdOf ByteArray.empty p 0).toList = [99, 97, 108, 109]
      ·rw [if_pos hc]
       have en := ev_impl_numbersOf (p.drop 1) (by rw [List.length_drop]; omega)
       refine evPos hc (evPos (by omega) (Ev.bind en ?_))
       generalize numsGo (p.drop 1) [] = y at *
       obtain ⟨n, ok⟩ := y
       dsimp only
       have j3stop : Ev (fun k => impl_ReadScript.j3 k out (i : Int) n L (L.length : Int) (i : Int) true) ([], 0, (i : Int) + 1) := by
        refine evSucc ?_
        simp only [impl_ReadScript.j3]
        rw [w1]
        exact evPos (by trivial) (evEq (Ev.now _) (by rw [ci]))
       cases ok
       ·rw [if_neg (fun z => Bool.noConfusion z.1)]
        exact evNeg (fun z => Bool.noConfusion z) j3stop
       ·by_cases hn : n.length = 1
        ·rw [if_pos ⟨rfl, hn⟩]
         have e3 : ((n.length : Int) != 1) = false := by simp [hn]
         have a3 : (0 : Int) < (n.length : Int) := by omega
         rw [e3]
         refine evPos (by trivial) (evSucc ?_)
         simp only [impl_ReadScript.j3]
         rw [w1]
         exact evNeg (fun z => Bool.noConfusion z) (evPos a3 (ih (i + 1) out _ true (by omega) ho))
        ·rw [if_neg (fun z => hn z.2)]
         have e3 : ((n.length : Int) != 1) = true := by simp; omega
         rw [e3]
         exact evPos (by trivial) j3stop
      ·rw [if_neg hc]
       obtain ⟨a, b, c, d', f, g, h, ok, hE, hA⟩ := ev_impl_eventOf p (by omega) (by omega) (fun x hx => by have := hle x hx; omega)
       unfold asR at hA
       rw [hA]
       refine evNeg hc (Ev.bind hE ?_)
       cases ok
       ·rw [if_neg (fun z => Bool.noConfusion z), w1]
        exact evNeg (fun z => Bool.noConfusion z) (evEq (Ev.now _) (by rw [ci]))
       ·rw [if_pos rfl, w1]
        dsimp only
        refine evPos (by trivial) ?_
        by_cases h90 : out.length = 90
        ·have a9 : (out.length : Int) = 90 := by omega
         rw [if_pos h90]
         exact evPos a9 (evEq (Ev.now _) (by rw [ci]))
        ·have a9 : ¬ (out.length : Int) = 90 := by omega
         rw [if_neg h90]
         exact evNeg a9 (evPos (by omega) (ih (i + 1) _ calm false (by omega) (by rw [List.length_append, List.length_singleton]; omega)))
     ·rw [if_pos (Or.inr rfl)]
      exact evPos (by trivial) jstop
theorem ev_spec_scr (L : List ByteArray) (hL : L.length ≤ 1048577) : ∀ (d i : Nat) (out : List S69) (calm : Int) (has : Bool), i + d = L.length → out.length ≤ 90 → Ev (fun k => spec_ReadScript.l0 k [] out calm has L (i : Int)) (scrGo (L.drop i) i out calm has) := by
 intro d
 induction d with
 | zero =>
  intro i out calm has hi ho
  refine evSucc ?_
  simp only [spec_ReadScript.l0]
  rw [List.drop_of_length_le (by omega)]
  exact evNeg (by omega) (Ev.now _)
 | succ d ih =>
  intro i out calm has hi ho
  have hlt : i < L.length := by omega
  have w1 : wrap64 ((i : Int) + 1) = ((i + 1 : Nat) : Int) := by rw [w64 (by omega) (by omega)]; omega
  have hp := ev_spec_PartsOf L[i]
  have hpos := partsB_pos L[i]
  have hle := partsB_le L[i]
  have hlen := partsB_len L[i]
  refine evSucc ?_
  simp only [spec_ReadScript.l0]
  rw [List.drop_eq_getElem_cons hlt, rdS L i hlt]
  unfold scrGo
  generalize partsB L[i] = x at *
  obtain ⟨p, ok⟩ := x
  simp only at hpos hle hlen
  dsimp only
  refine evPos (by omega) (evPos (by omega) (Ev.bind hp ?_))
  have jback : Ev (fun k => spec_ReadScript.j1 k [] out calm has L (i : Int) p ok true) (scrGo (L.drop (i + 1)) (i + 1) out calm has) := by
   refine evSucc ?_
   simp only [spec_ReadScript.j1]
   rw [w1]
   exact evPos (by trivial) (ih (i + 1) out calm has (by omega) ho)
  have jstop : Ev (fun k => spec_ReadScript.j2 k [] out calm has L (i : Int) p true) ([], 0, (i : Int) + 1) := by
   refine evSucc ?_
   simp only [spec_ReadScript.j2]
   rw [w1]
   exact evPos (by trivial) (evEq (Ev.now _) (by rw [ci]))
  cases ok
  ·refine evNeg (fun z => Bool.noConfusion z) ?_
   rw [if_neg (fun z => Bool.noConfusion z.1), if_pos (Or.inl rfl)]
   refine evSucc ?_
   simp only [spec_ReadScript.j1]
   exact evNeg (fun z => Bool.noConfusion z) (evNeg (fun z => Bool.noConfusion z) jstop)
  ·refine evPos (by trivial) ?_
   by_cases h0 : p.length = 0
   ·rw [if_pos ⟨rfl, Or.inl h0⟩]
    have a0 : (p.length : Int) = 0 := by omega
    exact evPos a0 jback
   ·have a0 : ¬ (p.length : Int) = 0 := by omega
    have a1 : (0 : Int) < (p.length : Int) := by omega
    have hp0 : rdOf ByteArray.empty p ((0 : Nat) : Int) = p[0] := rdS p 0 (by omega)
    have hs0 : (0 : Int) < ((rdOf ByteArray.empty p 0).size : Int) := by
     have := hpos p[0] (List.getElem_mem _)
     have e : rdOf ByteArray.empty p 0 = p[0] := hp0
     rw [e]; omega
    refine evNeg a0 (evPos a1 (evPos hs0 ?_))
    by_cases h35 : bt (rdOf ByteArray.empty p 0) 0 = 35
    ·rw [if_pos ⟨rfl, Or.inr h35⟩]
     have e : (bt (rdOf ByteArray.empty p 0) 0 == 35) = true := by simpa using h35
     rw [e]
     exact jback
    ·rw [if_neg (fun z => z.2.elim h0 h35)]
     have e : (bt (rdOf ByteArray.empty p 0) 0 == 35) = false := by simpa using h35
     rw [e]
     refine evSucc ?_
     simp only [spec_ReadScript.j1]
     refine evNeg (fun z => Bool.noConfusion z) (evPos (by trivial) ?_)
     cases has
     ·rw [if_neg (fun z => z.elim (fun y => Bool.noConfusion y) (fun y => Bool.noConfusion y))]
      refine evSucc ?_
      simp only [spec_ReadScript.j2]
      rw [w1]
      refine evNeg (fun z => Bool.noConfusion z) (evPos a1 ?_)
      by_cases hc : (rdOf ByteArray.empty p 0).toList = [99, 97, 108, 109]
      ·rw [if_pos hc]
       have en := ev_spec_l30Nums (p.drop 1) (by rw [List.length_drop]; omega)
       refine evPos hc (evPos (by omega) (Ev.bind en ?_))
       generalize numsGo (p.drop 1) [] = y at *
       obtain ⟨n, ok⟩ := y
       dsimp only
       cases ok
       ·rw [if_neg (fun z => Bool.noConfusion z.1)]
        exact evNeg (fun z => Bool.noConfusion z) (evEq (Ev.now _) (by rw [ci]))
       ·by_cases hn : n.length = 1
        ·rw [if_pos ⟨rfl, hn⟩]
         have a2 : (n.length : Int) = 1 := by omega
         have a3 : (0 : Int) < (n.length : Int) := by omega
         exact evPos (by trivial) (evPos a2 (evPos a3 (ih (i + 1) out _ true (by omega) ho)))
        ·rw [if_neg (fun z => hn z.2)]
         have a2 : ¬ (n.length : Int) = 1 := by omega
         exact evPos (by trivial) (evNeg a2 (evEq (Ev.now _) (by rw [ci])))
      ·rw [if_neg hc]
       obtain ⟨a, b, c, d', f, g, h, ok, hE, hA⟩ := ev_spec_l30Event p (by omega) (by omega) (fun x hx => by have := hle x hx; omega)
       unfold asR at hA
       unfold evE
       rw [hA]
       refine evNeg hc (Ev.bind hE ?_)
       cases ok
       ·exact evNeg (fun z => Bool.noConfusion z) (evEq (Ev.now _) (by rw [ci]; rfl))
       ·rw [if_pos rfl]
        dsimp only
        refine evPos (by trivial) ?_
        rw [Option.bind_some]
        by_cases hg : g.length ≤ 1048576
        ·refine Ev.bind (ev_spec_EventOk a b c d' f g h hg) ?_
         by_cases hk : evOkB a b c d' f g h = true
         ·have hk2 : evOkT (a, b, c, d', f, g, h) = true := hk
          rw [if_pos hk2]
          dsimp only
          refine evPos hk ?_
          by_cases h90 : out.length = 90
          ·have a9 : (out.length : Int) = 90 := by omega
           rw [if_pos h90]
           exact evPos a9 (evEq (Ev.now _) (by rw [ci]))
          ·have a9 : ¬ (out.length : Int) = 90 := by omega
           rw [if_neg h90]
           exact evNeg a9 (evPos (by omega) (ih (i + 1) _ calm false (by omega) (by rw [List.length_append, List.length_singleton]; omega)))
         ·have hk2 : ¬ evOkT (a, b, c, d', f, g, h) = true := hk
          rw [if_neg hk2]
          exact evNeg hk (evEq (Ev.now _) (by rw [ci]))
        ·exact absurd (rawE_args hA) hg
     ·rw [if_pos (Or.inr rfl)]
      refine evSucc ?_
      simp only [spec_ReadScript.j2]
      rw [w1]
      exact evPos (by trivial) (evEq (Ev.now _) (by rw [ci]))
def scrS (s : ByteArray) : List S69 × Int × Int := if s.size ≤ 3000 then scrGo (linesS s) 0 [] 0 false else ([], 0, -1)
theorem scrS_facts (s : ByteArray) : (scrS s).1.length ≤ 90 ∧ ∀ e ∈ (scrS s).1, e.f3.f2.length ≤ 3 := by
 unfold scrS
 split
 ·exact scrGo_facts _ _ _ _ _ (Nat.zero_le _) (fun e he => by cases he)
 ·exact ⟨Nat.zero_le _, fun e he => by cases he⟩
theorem ev_impl_ReadScript (s : ByteArray) : Ev (fun k => impl_ReadScript.f k s) (scrS s) := by
 simp only [impl_ReadScript.f]
 unfold scrS
 by_cases h : s.size ≤ 3000
 ·rw [if_pos h]
  have hl := linesS_len s
  exact evNeg (by omega) (Ev.bind (ev_impl_linesOf s (by omega)) (ev_impl_scr _ (by omega) (linesS s).length 0 [] 0 false (by omega) (Nat.zero_le _)))
 ·rw [if_neg h]
  exact evPos (by omega) (Ev.now _)
theorem ev_spec_ReadScript (s : ByteArray) : Ev (fun k => spec_ReadScript.f k s) (scrS s) := by
 simp only [spec_ReadScript.f, Option.bind_some]
 unfold scrS
 by_cases h : s.size ≤ 3000
 ·rw [if_pos h]
  have hl := linesS_len s
  exact evNeg (by omega) (Ev.bind (ev_spec_l30Lines s (by omega)) (ev_spec_scr _ (by omega) (linesS s).length 0 [] 0 false (by omega) (Nat.zero_le _)))
 ·rw [if_neg h]
  exact evPos (by omega) (Ev.now _)
def markWL : List S98 → Int → List S98
 | [], _ => []
 | _ :: r, k => ⟨k, k + 1⟩ :: markWL r (k + 2)
theorem rdMidW (d : List S98) (s : S98) (r : List S98) (i : Nat) (hi : d.length = i) : rd_T98 (d ++ s :: r) (i : Int) = s := by
 subst hi
 rw [rdW _ _ (by simp)]
 simp
theorem setMidW (d : List S98) (s x : S98) (r : List S98) (i : Nat) (hi : d.length = i) : (d ++ s :: r).set i x = d ++ x :: r := by
 subst hi
 simp
theorem ev_markWG : ∀ (r d : List S98) (k0 : Int) (i : Nat), d.length = i → i + r.length ≤ 1048576 → 0 ≤ k0 → k0 + 2 * (r.length : Int) ≤ 900000000 → Ev (fun k => laws_markWideS.l0 k (d ++ r) k0 (i : Int)) (k0 + 2 * (r.length : Int), d ++ markWL r k0) := by
 intro r
 induction r with
 | nil =>
  intro d k0 i hi h1 h2 h3
  refine evSucc ?_
  simp only [laws_markWideS.l0]
  refine evNeg (by simp; omega) (evEq (Ev.now _) ?_)
  simp [markWL]
 | cons s r ih =>
  intro d k0 i hi h1 h2 h3
  rw [List.length_cons] at h1 h3 ⊢
  have w1 : wrap64 (k0 + 1) = k0 + 1 := w64 (by omega) (by omega)
  have w2 : wrap64 (k0 + 1 + 1) = k0 + 2 := by rw [w64 (by omega) (by omega)]; omega
  have w4 : wrap64 ((i : Int) + 1) = ((i + 1 : Nat) : Int) := by rw [w64 (by omega) (by omega)]; omega
  refine evSucc ?_
  simp only [laws_markWideS.l0, Option.bind_some, Int.toNat_natCast, rdMidW d _ r i hi, setMidW d _ _ r i hi]
  rw [w1, w2, w4]
  refine evPos (by simp; omega) (evPos (by omega) ?_)
  have := ih (d ++ [⟨k0, k0 + 1⟩]) (k0 + 2) (i + 1) (by rw [List.length_append, hi]; rfl) (by omega) (by omega) (by omega)
  rw [List.append_assoc, List.append_assoc] at this
  refine evEq this ?_
  rw [show k0 + 2 + 2 * (r.length : Int) = k0 + 2 * ((r.length + 1 : Nat) : Int) by omega]
  rfl
theorem ev_markW (l : List S98) (k0 : Int) (h1 : l.length ≤ 1048576) (h2 : 0 ≤ k0) (h3 : k0 + 2 * (l.length : Int) ≤ 900000000) : Ev (fun k => laws_markWideS.f k l k0) (k0 + 2 * (l.length : Int), markWL l k0) := by
 simp only [laws_markWideS.f]
 exact ev_markWG l [] k0 0 rfl (by omega) h2 h3
theorem ev_heldWG : ∀ (r d : List S98) (k0 : Int) (i : Nat), d.length = i → i + r.length ≤ 1048576 → 0 ≤ k0 → k0 + 2 * (r.length : Int) ≤ 900000000 → Ev (fun k => laws_heldWideS.l0 k (d ++ markWL r k0) k0 (i : Int)) (k0 + 2 * (r.length : Int)) := by
 intro r
 induction r with
 | nil =>
  intro d k0 i hi h1 h2 h3
  refine evSucc ?_
  simp only [laws_heldWideS.l0]
  refine evNeg (by simp [markWL]; omega) (evEq (Ev.now _) ?_)
  simp
 | cons s r ih =>
  intro d k0 i hi h1 h2 h3
  rw [List.length_cons] at h1 h3 ⊢
  have w1 : wrap64 (k0 + 1) = k0 + 1 := w64 (by omega) (by omega)
  have w2 : wrap64 (k0 + 1 + 1) = k0 + 2 := by rw [w64 (by omega) (by omega)]; omega
  have w4 : wrap64 ((i : Int) + 1) = ((i + 1 : Nat) : Int) := by rw [w64 (by omega) (by omega)]; omega
  refine evSucc ?_
  unfold markWL
  simp only [laws_heldWideS.l0, rdMidW d _ _ i hi]
  rw [w1, w2, w4]
  refine evPos (by simp; omega) (evPos (by omega) (evPos (by trivial) (evPos (by trivial) ?_)))
  have := ih (d ++ [⟨k0, k0 + 1⟩]) (k0 + 2) (i + 1) (by rw [List.length_append, hi]; rfl) (by omega) (by omega) (by omega)
  rw [List.append_assoc] at this
  exact evEq this (by omega)
theorem ev_heldW (l : List S98) (k0 : Int) (h1 : l.length ≤ 1048576) (h2 : 0 ≤ k0) (h3 : k0 + 2 * (l.length : Int) ≤ 900000000) : Ev (fun k => laws_heldWideS.f k (markWL l k0) k0) (k0 + 2 * (l.length : Int)) := by
 simp only [laws_heldWideS.f]
 exact ev_heldWG l [] k0 0 rfl (by omega) h2 h3
theorem rdEv (l : List S69) (i : Nat) (hi : i < l.length) : rd_T69 l (i : Int) = l[i] := by simp [rd_T69, hi]
theorem rdMidEv (d : List S69) (s : S69) (r : List S69) (i : Nat) (hi : d.length = i) : rd_T69 (d ++ s :: r) (i : Int) = s := by
 subst hi
 rw [rdEv _ _ (by simp)]
 simp
theorem setMidEv (d : List S69) (s x : S69) (r : List S69) (i : Nat) (hi : d.length = i) : (d ++ s :: r).set i x = d ++ x :: r := by
 subst hi
 simp
def markedEv (s : S69) (k : Int) : S69 := ⟨k, k + 1, k + 2, ⟨k + 3, k + 4, markWL s.f3.f2 (k + 5)⟩, markT (k + 5 + 2 * (s.f3.f2.length : Int))⟩
def evCost (s : S69) : Int := 6 + 2 * (s.f3.f2.length : Int)
def markEvL : List S69 → Int → List S69
 | [], _ => []
 | s :: r, k => markedEv s k :: markEvL r (k + evCost s)
def evsCost : List S69 → Int
 | [] => 0
 | s :: r => evCost s + evsCost r
theorem evsCost_bound (l : List S69) (h : ∀ e ∈ l, e.f3.f2.length ≤ 3) : 0 ≤ evsCost l ∧ evsCost l ≤ 12 * (l.length : Int) := by
 induction l with
 | nil => exact ⟨Int.le_refl _, Int.le_refl _⟩
 | cons s r ih =>
  have h1 := ih (fun e he => h e (List.mem_cons_of_mem _ he))
  have h2 := h s List.mem_cons_self
  rw [List.length_cons]
  show 0 ≤ evCost s + evsCost r ∧ evCost s + evsCost r ≤ _
  have h3 : evCost s = 6 + 2 * (s.f3.f2.length : Int) := rfl
  omega
theorem ev_markEvG : ∀ (r d : List S69) (k0 : Int) (i : Nat), d.length = i → i + r.length ≤ 1048576 → 0 ≤ k0 → k0 + 12 * (r.length : Int) ≤ 800000000 → (∀ e ∈ r, e.f3.f2.length ≤ 3) → Ev (fun k => laws_markEventS.l0 k (d ++ r) k0 (i : Int)) (k0 + evsCost r, d ++ markEvL r k0) := by
 intro r
 induction r with
 | nil =>
  intro d k0 i hi h1 h2 h3 hs
  refine evSucc ?_
  simp only [laws_markEventS.l0]
  refine evNeg (by simp; omega) (evEq (Ev.now _) ?_)
  simp [markEvL, evsCost]
 | cons s r ih =>
  intro d k0 i hi h1 h2 h3 hs
  rw [List.length_cons] at h1 h3
  have hsl := hs s List.mem_cons_self
  have w1 : wrap64 (k0 + 1) = k0 + 1 := w64 (by omega) (by omega)
  have w2 : wrap64 (k0 + 1 + 1) = k0 + 2 := by rw [w64 (by omega) (by omega)]; omega
  have w3 : wrap64 (k0 + 2 + 1) = k0 + 3 := by rw [w64 (by omega) (by omega)]; omega
  have w4 : wrap64 (k0 + 3 + 1) = k0 + 4 := by rw [w64 (by omega) (by omega)]; omega
  have w5 : wrap64 (k0 + 4 + 1) = k0 + 5 := by rw [w64 (by omega) (by omega)]; omega
  have w7 : wrap64 ((i : Int) + 1) = ((i + 1 : Nat) : Int) := by rw [w64 (by omega) (by omega)]; omega
  refine evSucc ?_
  simp only [laws_markEventS.l0, Option.bind_some, Int.toNat_natCast, rdMidEv d _ r i hi, setMidEv d _ _ r i hi]
  rw [w1, w2, w3, w4, w5, w7]
  clear w1 w2 w3 w4 w5 w7
  refine evPos (by rw [List.length_append, List.length_cons]; omega) (evPos (Int.natCast_nonneg i) (Ev.bind (ev_markW s.f3.f2 (k0 + 5) (by omega) (by omega) (by omega)) (Ev.bind (ev_markText _ (by omega)) ?_)))
  have w6 : wrap64 (k0 + 5 + 2 * (s.f3.f2.length : Int) + 1) = k0 + (6 + 2 * (s.f3.f2.length : Int)) := by rw [w64 (by omega) (by omega)]; omega
  rw [w6]
  have := ih (d ++ [markedEv s k0]) (k0 + (6 + 2 * (s.f3.f2.length : Int))) (i + 1) (by rw [List.length_append, hi]; rfl) (by omega) (by omega) (by omega) (fun e he => hs e (List.mem_cons_of_mem _ he))
  rw [List.append_assoc, List.append_assoc] at this
  refine evEq this ?_
  rw [Int.add_assoc]
  rfl
theorem ev_heldEvG : ∀ (r d : List S69) (k0 : Int) (i : Nat), d.length = i → i + r.length ≤ 1048576 → 0 ≤ k0 → k0 + 12 * (r.length : Int) ≤ 800000000 → (∀ e ∈ r, e.f3.f2.length ≤ 3) → Ev (fun k => laws_heldEventS.l0 k (d ++ markEvL r k0) k0 (i : Int)) (k0 + evsCost r) := by
 intro r
 induction r with
 | nil =>
  intro d k0 i hi h1 h2 h3 hs
  refine evSucc ?_
  simp only [laws_heldEventS.l0]
  refine evNeg (by simp [markEvL]; omega) (evEq (Ev.now _) ?_)
  simp [evsCost]
 | cons s r ih =>
  intro d k0 i hi h1 h2 h3 hs
  rw [List.length_cons] at h1 h3
  have hsl := hs s List.mem_cons_self
  have w1 : wrap64 (k0 + 1) = k0 + 1 := w64 (by omega) (by omega)
  have w2 : wrap64 (k0 + 1 + 1) = k0 + 2 := by rw [w64 (by omega) (by omega)]; omega
  have w3 : wrap64 (k0 + 2 + 1) = k0 + 3 := by rw [w64 (by omega) (by omega)]; omega
  have w4 : wrap64 (k0 + 3 + 1) = k0 + 4 := by rw [w64 (by omega) (by omega)]; omega
  have w5 : wrap64 (k0 + 4 + 1) = k0 + 5 := by rw [w64 (by omega) (by omega)]; omega
  have w7 : wrap64 ((i : Int) + 1) = ((i + 1 : Nat) : Int) := by rw [w64 (by omega) (by omega)]; omega
  refine evSucc ?_
  unfold markEvL
  simp only [laws_heldEventS.l0, rdMidEv d _ _ i hi, markedEv]
  rw [w1, w2, w3, w4, w5, w7]
  clear w1 w2 w3 w4 w5 w7
  refine evPos (by rw [List.length_append, List.length_cons]; omega) ?_
  refine evPos (Int.natCast_nonneg i) ?_
  refine evPos (by trivial) ?_
  refine evPos (by trivial) ?_
  refine evPos (by trivial) ?_
  refine evPos (by trivial) ?_
  refine evPos (by trivial) ?_
  refine Ev.bind (ev_heldW s.f3.f2 (k0 + 5) (by omega) (by omega) (by omega)) ?_
  refine evNeg (by omega) ?_
  refine Ev.bind (ev_markText _ (by omega)) ?_
  refine evPos (by trivial) ?_
  have w6 : wrap64 (k0 + 5 + 2 * (s.f3.f2.length : Int) + 1) = k0 + (6 + 2 * (s.f3.f2.length : Int)) := by rw [w64 (by omega) (by omega)]; omega
  rw [w6]
  have := ih (d ++ [markedEv s k0]) (k0 + (6 + 2 * (s.f3.f2.length : Int))) (i + 1) (by rw [List.length_append, hi]; rfl) (by omega) (by omega) (by omega) (fun e he => hs e (List.mem_cons_of_mem _ he))
  rw [List.append_assoc] at this
  refine evEq this ?_
  rw [Int.add_assoc]
  rfl
theorem ev_eqEventS (l : List S69) (hl : l.length ≤ 1048576) (hs : ∀ e ∈ l, e.f3.f2.length ≤ 3) : Ev (fun k => laws_eqEventS.f k l l) true := by
 have key := evUp (r := true) l.length (fun i k => laws_eqEventS.l0 k l l (i : Int)) ?_ ?_
 ·refine Ev.congr (fun k => ?_) key
  unfold laws_eqEventS.f
  rw [if_pos rfl]
  rfl
 ·intro i hi ih
  have := hs _ (List.getElem_mem hi)
  refine evSucc ?_
  simp only [laws_eqEventS.l0, laws_eqEvent.f]
  rw [rdEv l i hi, w64 (by omega) (by omega), ci]
  exact evPos (by omega) (evPos (by omega) (evPos (by omega) (Ev.bind (a := true) (evPos (by trivial) (evPos (by trivial) (evPos (by trivial) (Ev.bind (ev_eqCall _ _ _ (by omega)) (evPos (by trivial) (evPos (by trivial) (Ev.now _))))))) (evPos (by trivial) ih))))
 ·refine evSucc ?_
  simp only [laws_eqEventS.l0]
  exact evNeg (by omega) (Ev.now _)
theorem FnExactReadScript : laws_FnExactReadScript.Pure := by
 intro s _
 refine Ev.rounds ?_
 simp only [laws_FnExactReadScript.f]
 by_cases hbig : (s.size : Int) > 1048576
 ·exact evPos hbig (Ev.now _)
 refine evNeg hbig ?_
 have e1 := ev_spec_ReadScript s
 have e2 := ev_impl_ReadScript s
 have hf := scrS_facts s
 generalize scrS s = x at *
 obtain ⟨l, c, f⟩ := x
 simp only at hf
 obtain ⟨hl, hs⟩ := hf
 have hb := evsCost_bound l hs
 have eq := ev_eqEventS l (by omega) hs
 have em : Ev (fun k => laws_markEventS.f k l 1) (1 + evsCost l, markEvL l 1) := by
  simp only [laws_markEventS.f]
  exact ev_markEvG l [] 1 0 rfl (by omega) (by omega) (by omega) hs
 have eh : Ev (fun k => laws_heldEventS.f k (markEvL l 1) 1) (1 + evsCost l) := by
  simp only [laws_heldEventS.f]
  exact ev_heldEvG l [] 1 0 rfl (by omega) (by omega) (by omega) hs
 refine Ev.bind e1 (Ev.bind e2 (Ev.bind eq (evPos (by trivial) (evPos (by trivial) (evSucc ?_)))))
 simp only [laws_FnExactReadScript.j0]
 refine evNeg (by simp) (Ev.bind em (Ev.bind eh (evNeg (by omega) (evPos (by trivial) (Ev.bind e2 (Ev.bind eq (evPos (by trivial) (evPos (by trivial) (evSucc ?_)))))))))
 simp only [laws_FnExactReadScript.j1]
 exact evNeg (by simp) (Ev.bind eh (evNeg (by omega) (evPos (by trivial) (Ev.now _))))

end Go.Proofs.Ytjfmpodeenidnaa.Pure

namespace Go.Proofs.Ytjfmpodeenidnaa.fnExactReadScript
open Go.ChangeShapes Go.WideShapes Go.ChangeAt Go.RowKit
open Go.ChangeMaps (open_string shut_string)
set_option linter.unusedVariables false
theorem own : ownKnob Try.prog.godebug = none := by kernel_rfl
set_option maxRecDepth 100000 in
theorem lifted (os : Os) (started : os.Started) (H : Type) (enc : TypeId × Value → H) :
 ReturnsInHanded {} Try.checked os 3 .any (Rows.fnExactReadScriptSpec.pre6 enc Try.prog Try.f3 Rows.fnExactReadScriptRow.domain false) (Rows.fnExactReadScriptSpec.post enc Try.prog Try.f3 false true false false) := by
 refine returnsInHanded_of_change_sized (C := Try.checked) own started (by kernel_rfl) Try.func3
  (ChangeSpec.witness6 (enc := enc) (C := Try.checked) false ⟨#[], #[.string ByteArray.empty], []⟩ 8 (by kernel_rfl) (by kernel_rfl) (by kernel_rfl) (by kernel_rfl)) ?_
 intro W base args ds gs before hval0 hW hcnd hsz0 _
 have hsz : (DataW.weightsEach Try.prog (Try.f3.params.toList ++ Rows.fnExactReadScriptSpec.plain.varTypes Try.prog) (ds ++ gs)).all (· ≤ reachBytes) = true := hsz0
 have hval : ∀ (j : Nat) t v, Try.f3.params[j]? = some t → args[j]? = some v → Value.okWide Try.prog W .any base t v := hval0
 have hW' := hW
 obtain ⟨p, q, hA0, hV, rfl, hfz, hnd⟩ := hW
 have hA : DataW.TrodAll enc Try.prog W 0 (fun _ => true) true Try.f3.params.toList args.toList ds p := hA0
 rw [Try.params3] at hA hval hsz
 obtain ⟨v0, vs0, d0, ds0, p0, q0, hargs, rfl, rfl, h0, r0⟩ := trodAll_cons hA
 obtain ⟨rfl, rfl, rfl⟩ := trodAll_nil r0
 obtain rfl : args = #[v0] := by cases args; simp_all
 obtain ⟨rfl, rfl⟩ := trodVars_none hV
 obtain ⟨a0, rfl, rfl, rfl, y0⟩ := open_string Try.underlying9 (hval 0 9 v0 rfl rfl) h0
 have w0 : a0.size ≤ 140737488351232 := by
  have z := sized_string hsz (j := 0) (t := 9) rfl rfl
  rw [Array.length_toList] at z
  exact z
 clear hA0 hval0 hsz0 hsz
 refine (PA.laws_FnExactReadScript.walk Pure.FnExactReadScript a0 W w0).mono fun e W' ⟨he, bel⟩ => ?_
 subst he
 exact ⟨_, rfl, _, _, _, [], _, [], hW', trodAll_mk1 (shut_bool Try.underlying4 _), (trodAll_cons_mk (shut_string Try.underlying9 y0) trodAll_mk0), rfl, bel.frame _, fun h => by cases h⟩
theorem over : Rows.fnExactReadScriptRow.holds Try.pinned (OpenSpec.ofChange Rows.fnExactReadScriptSpec) :=
 OpenClaim.holds_of_wide 3 Try.f3 rfl rfl rfl rfl rfl rfl rfl ⟨rfl, rfl, rfl, rfl, rfl⟩ rfl rfl rfl rfl rfl (by kernel_rfl) Try.func3 (by kernel_rfl)
  (of_decide_eq_true (by kernel_rfl)) (by unfold Func.isWrapper; first | (rw [if_pos (by decide +kernel)]; kernel_rfl) | (rw [if_neg (by decide +kernel)]; exact ⟨rfl, rfl⟩))
  (fun os started H enc _ => lifted os started H enc)
theorem proved : Rows.FnExactReadScriptSaid := over
#print axioms proved
end Go.Proofs.Ytjfmpodeenidnaa.fnExactReadScript
namespace Go.Proofs.Ytjfmpodeenidnaa
theorem fnExactReadScript_holds : Rows.FnExactReadScriptSaid := fnExactReadScript.proved
end Go.Proofs.Ytjfmpodeenidnaa

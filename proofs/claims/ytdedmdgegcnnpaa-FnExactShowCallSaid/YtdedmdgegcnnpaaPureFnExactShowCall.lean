/- The plain proof of the law FnExactShowCall: the plain functions that the program and the reference come to answer alike. No condition. -/
import Derived.Test.YtdedmdgegcnnpaaKit
import Derived.Test.YtdedmdgegcnnpaaPAx24
import Derived.Test.YtdedmdgegcnnpaaStFnExactShowCall
namespace Go.Proofs.Ytdedmdgegcnnpaa.Pure
open Go.RowKit Go.Proofs.Ytdedmdgegcnnpaa.PA Go.Proofs.YtdedmdgegcnnpaaW.PrintWords Go.Proofs.YtdedmdgegcnnpaaW.PrintLast Go.Proofs.YtdedmdgegcnnpaaW.PrintMore Go.Proofs.Ytdedmdgegcnnpaa.Kit Go.Proofs.Ytdedmdgegcnnpaa.PureFnExactShowCall
set_option linter.unusedVariables false
set_option linter.unusedSimpArgs false
/-! lists of wide numbers: compared, marked, held -/
theorem rdW (l : List S65) (i : Nat) (hi : i < l.length) : rd_T65 l (i : Int) = l[i] := by simp [rd_T65, hi]
theorem ev_eqWideS (l : List S65) (hl : l.length ≤ 1048576) : Ev (fun k => laws_eqWideS.f k l l) true := by
  have key := evUp (r := true) l.length (fun i k => laws_eqWideS.l0 k l l (i : Int)) ?_ ?_
  · refine Ev.congr (fun k => ?_) key
    unfold laws_eqWideS.f
    rw [if_pos rfl]
    rfl
  · intro i hi ih
    refine evSucc ?_
    simp only [laws_eqWideS.l0]
    refine evPos (by omega) (evPos (by omega) (evPos (by omega) ?_))
    simp only [laws_eqWide.f, if_true, Option.bind_some]
    rw [w64 (by omega) (by omega), ci]
    exact ih
  · refine evSucc ?_
    simp only [laws_eqWideS.l0]
    exact evNeg (by omega) (Ev.now _)
theorem ev_eqCall (a b : Int) (l : List S65) (hl : l.length ≤ 1048576) : Ev (fun k => laws_eqCall.f k a b l a b l) true := by
  simp only [laws_eqCall.f, if_true]
  exact Ev.bind (ev_eqWideS l hl) (evPos rfl (Ev.now _))
def cvWide (x : S104) : S65 := ⟨x.f0, x.f1⟩
theorem rdLW (l : List S104) (i : Nat) (hi : i < l.length) : rd_T104 l (i : Int) = l[i] := by simp [rd_T104, hi]
theorem ev_toWideS (l : List S104) (hl : l.length ≤ 1048576) : Ev (fun k => laws_toWideS.f k l) (l.map cvWide) := by
  have key := evUp (r := l.map cvWide) l.length (fun i k => laws_toWideS.l0 k l ((l.take i).map cvWide ++ List.replicate (l.length - i) z65) (i : Int)) ?_ ?_
  · refine Ev.congr (fun k => ?_) key
    unfold laws_toWideS.f
    rw [if_pos (by omega), if_pos (by omega)]
    simp
  · intro i hi ih
    refine evSucc ?_
    simp only [laws_toWideS.l0]
    refine evPos (by omega) (evPos (by omega) ?_)
    simp only [laws_toWide.f, Option.bind_some, rdLW l i hi]
    refine evPos (by simp; omega) ?_
    rw [w64 (by omega) (by omega), ci, Int.toNat_natCast]
    rw [show (⟨l[i].f0, l[i].f1⟩ : S65) = cvWide l[i] from rfl, fillStep cvWide _ l i hi]
    exact ih
  · refine evSucc ?_
    simp only [laws_toWideS.l0]
    refine evNeg (by omega) ?_
    simp
    exact Ev.now _
theorem ev_toCall (a b : Int) (l : List S104) (hl : l.length ≤ 1048576) : Ev (fun k => laws_toCall.f k a b l) (a, b, l.map cvWide) := by
  simp only [laws_toCall.f]
  exact Ev.bind (ev_toWideS l hl) (Ev.now _)
theorem szCall_small (a b : Int) (l : List S104) (h : l.length ≤ 1048576) : laws_szCall.f a b l 1048576 = some (1048576 - (l.length : Int)) := by
  unfold laws_szCall.f laws_szWideS.f
  rw [w64 (by omega) (by omega), if_neg (by omega)]
  simp only [Option.bind_some]
  rw [if_neg (by omega)]
theorem szCall_big (a b : Int) (l : List S104) (h : 1048576 < l.length) (hb : l.length ≤ 9223372036854775807) : laws_szCall.f a b l 1048576 = some (-1) := by
  unfold laws_szCall.f laws_szWideS.f
  rw [w64 (by omega) (by omega), if_pos (by omega)]
  rfl
/-! figures of a number -/
def dg (n : Nat) : ByteArray := ⟨#[UInt8.ofNat (48 + n % 10)]⟩
def decz (n : Nat) : ByteArray := if h : n = 0 then ⟨#[]⟩ else decz (n / 10) ++ dg n
  termination_by n
  decreasing_by omega
def dec (n : Nat) : ByteArray := if n = 0 then dg 0 else decz n
theorem dg_size (n : Nat) : (dg n).size = 1 := rfl
theorem decz_zero : decz 0 = ⟨#[]⟩ := by rw [decz]; rfl
theorem decz_step (n : Nat) (h : n ≠ 0) : decz n = decz (n / 10) ++ dg n := by rw [decz, dif_neg h]
theorem dec_small (n : Nat) (h : n < 10) : dec n = dg n := by
  unfold dec
  by_cases h0 : n = 0
  · rw [if_pos h0, h0]
  · rw [if_neg h0, decz_step n h0, show n / 10 = 0 by omega, decz_zero]
    exact ByteArray.empty_append
theorem dec_step (n : Nat) (h : 9 < n) : dec n = dec (n / 10) ++ dg n := by
  unfold dec
  rw [if_neg (by omega), if_neg (by omega), decz_step n (by omega)]
theorem decz_size (n : Nat) : (decz n).size ≤ n := by
  induction n using Nat.strongRecOn with
  | ind n ih =>
    by_cases h : n = 0
    · rw [h, decz_zero]; exact Nat.le_refl _
    · rw [decz_step n h, sizeApp, dg_size]
      have := ih (n / 10) (by omega)
      omega
theorem dec_size_lt : ∀ (k n : Nat), 0 < k → n < 10 ^ k → (dec n).size ≤ k := by
  intro k
  induction k with
  | zero => intro n h; omega
  | succ k ih =>
    intro n _ hn
    by_cases h : n < 10
    · rw [dec_small n h, dg_size]; omega
    · rw [dec_step n (by omega), sizeApp, dg_size]
      have hk : 0 < k := by
        rcases Nat.eq_zero_or_pos k with h0 | h0
        · subst h0; omega
        · exact h0
      have := ih (n / 10) hk (by rw [Nat.pow_succ] at hn; omega)
      omega
theorem dec_size (n : Nat) (h : n ≤ 9223372036854775808) : (dec n).size ≤ 19 := dec_size_lt 19 n (by omega) (by omega)
theorem dg_of (x : Int) (h0 : 0 ≤ x) (h1 : x ≤ 9) : strOfNums [(48 + x) % 256] = dg x.toNat := by
  unfold strOfNums dg
  rw [show ((48 + x) % 256) = 48 + x by omega]
  simp only [List.map_cons, List.map_nil]
  rw [show (48 + x).toNat = 48 + x.toNat % 10 by omega]
theorem ev_l08 : ∀ (m : Nat) (x : Int) (out : ByteArray), x.toNat = m → 0 ≤ x → x ≤ 9223372036854775807 → out.size + m ≤ 9223372036854775807 → out.size < 9223372036854775807 →
    Ev (fun k => spec_l08Figures.l0 k x out) (dec x.toNat ++ out) := by
  intro m
  induction m using Nat.strongRecOn with
  | ind m ih =>
    intro x out hm h0 h1 hs hs1
    refine evSucc ?_
    simp only [spec_l08Figures.l0, Option.bind_some]
    by_cases h : x > 9
    · refine evPos h ?_
      rw [Int.tmod_eq_emod_of_nonneg h0, Int.tdiv_eq_ediv_of_nonneg h0, w64 (x := 48 + x % 10) (by omega) (by omega), dg_of (x % 10) (by omega) (by omega), w64 (by omega) (by omega)]
      rw [show dg (x % 10).toNat = dg x.toNat by unfold dg; rw [show (x % 10).toNat % 10 = x.toNat % 10 by omega]]
      refine evPos (by rw [dg_size]; omega) ?_
      have := ih (x / 10).toNat (by omega) (x / 10) (dg x.toNat ++ out) rfl (by omega) (by omega) (by rw [sizeApp, dg_size]; omega) (by rw [sizeApp, dg_size]; omega)
      rw [show (x / 10).toNat = x.toNat / 10 by omega, ← ByteArray.append_assoc, ← dec_step x.toNat (by omega)] at this
      exact this
    · refine evNeg h ?_
      rw [w64 (x := 48 + x) (by omega) (by omega), dg_of x h0 (by omega), ← dec_small x.toNat (by omega)]
      exact evPos (by rw [dec_small x.toNat (by omega), dg_size]; omega) (Ev.now _)
def num0 (x : Int) : ByteArray := dec x.toNat
theorem num0_size (x : Int) (h : x ≤ 9223372036854775807) : (num0 x).size ≤ 19 := dec_size _ (by omega)
theorem fig_at (d : Nat) (h : d < 10) : (⟨#[48, 49, 50, 51, 52, 53, 54, 55, 56, 57, 97, 98, 99, 100, 101, 102]⟩ : ByteArray).extract d (d + 1) = dg d := by
  have : d = 0 ∨ d = 1 ∨ d = 2 ∨ d = 3 ∨ d = 4 ∨ d = 5 ∨ d = 6 ∨ d = 7 ∨ d = 8 ∨ d = 9 := by omega
  rcases this with rfl | rfl | rfl | rfl | rfl | rfl | rfl | rfl | rfl | rfl <;> decide
def sgn (x : Int) (s : ByteArray) : ByteArray := if x < 0 then ⟨#[45]⟩ ++ s else s
theorem tmod_abs (m : Int) (h0 : -9223372036854775808 ≤ m) (h1 : m ≤ 9223372036854775807) : mx (Int.tmod m 10) (wrap64 (-(Int.tmod m 10))) = ((m.natAbs % 10 : Nat) : Int) := by
  rcases Int.natAbs_eq m with h | h
  · rw [h, Int.tmod_eq_emod_of_nonneg (by omega), w64 (by omega) (by omega)]
    unfold mx
    split <;> omega
  · rw [h, Int.neg_tmod, Int.tmod_eq_emod_of_nonneg (by omega), w64 (by omega) (by omega)]
    unfold mx
    split <;> omega
theorem tdiv_abs (m : Int) : (Int.tdiv m 10).natAbs = m.natAbs / 10 := by
  rw [Int.natAbs_tdiv]
  rfl
theorem ev_impl_dec : ∀ (j : Nat) (x m : Int) (out : ByteArray), m.natAbs < 10 ^ j → -9223372036854775808 ≤ m → m ≤ 9223372036854775807 → out.size + j ≤ 1000 →
    Ev (fun k => impl_Decimal.l0 k x out m) (sgn x (decz m.natAbs ++ out)) := by
  intro j
  induction j with
  | zero =>
    intro x m out hm h0 h1 hs
    refine evSucc ?_
    simp only [impl_Decimal.l0]
    obtain rfl : m = 0 := by rw [Nat.pow_zero] at hm; omega
    refine evPos rfl ?_
    rw [show (0 : Int).natAbs = 0 from rfl, decz_zero, show (⟨#[]⟩ : ByteArray) ++ out = out from ByteArray.empty_append]
    unfold sgn
    by_cases hx : x < 0
    · exact evPos hx (evPos (by omega) (evEq (Ev.now _) (if_pos hx).symm))
    · exact evNeg hx (evEq (Ev.now _) (if_neg hx).symm)
  | succ j ih =>
    intro x m out hm h0 h1 hs
    by_cases h : m = 0
    · subst h
      exact ih x 0 out (Nat.pow_pos (by omega)) h0 h1 (by omega)
    · refine evSucc ?_
      simp only [impl_Decimal.l0]
      refine evNeg h ?_
      rw [tmod_abs m h0 h1, w64 (x := ((m.natAbs % 10 : Nat) : Int) + 1) (by omega) (by omega)]
      refine evPos (by omega) (evPos (by omega) (evPos (by omega) ?_))
      rw [ci, Int.toNat_natCast, Int.toNat_natCast, fig_at _ (by omega)]
      rw [show dg (m.natAbs % 10) = dg m.natAbs by unfold dg; rw [Nat.mod_mod]]
      have ht := tdiv_abs m
      refine evPos (by rw [dg_size]; omega) ?_
      rw [w64 (by omega) (by omega)]
      have := ih x (Int.tdiv m 10) (dg m.natAbs ++ out) (by rw [ht, Nat.div_lt_iff_lt_mul (by omega), ← Nat.pow_succ]; exact hm) (by omega) (by omega) (by rw [sizeApp, dg_size]; omega)
      rw [ht, ← ByteArray.append_assoc, ← decz_step m.natAbs (by omega)] at this
      exact this
def decI (x : Int) : ByteArray := if x < 0 then ⟨#[45]⟩ ++ dec x.natAbs else dec x.natAbs
theorem decI_size (x : Int) (h0 : -9223372036854775808 ≤ x) (h1 : x ≤ 9223372036854775807) : (decI x).size ≤ 20 := by
  have := dec_size x.natAbs (by omega)
  unfold decI
  split
  · rw [sizeApp]; show 1 + _ ≤ _; omega
  · omega
theorem ev_impl_Decimal (x : Int) (h0 : -9223372036854775808 ≤ x) (h1 : x ≤ 9223372036854775807) : Ev (fun k => impl_Decimal.f k x) (decI x) := by
  simp only [impl_Decimal.f]
  by_cases h : x = 0
  · refine evPos h (evEq (Ev.now _) ?_)
    subst h
    rfl
  · refine evNeg h (evEq (ev_impl_dec 19 x x _ (by omega) h0 h1 (by show 0 + 19 ≤ _; omega)) ?_)
    rw [show decz x.natAbs ++ (⟨#[]⟩ : ByteArray) = decz x.natAbs from ByteArray.append_empty]
    unfold sgn decI dec
    rw [if_neg (by omega : ¬ x.natAbs = 0)]
/-! halves, wide numbers, calls: right or not -/
def halfB (n : Int) : Bool := decide (0 ≤ n) && decide (n ≤ 4294967295)
theorem impl_half (n : Int) : impl_HalfOk.f n = some (halfB n) := by
  unfold impl_HalfOk.f impl_within.f halfB
  by_cases h : n ≥ 0
  · simp [h]
  · simp [h]
    try omega
def wideB (w : S65) : Bool := halfB w.f0 && halfB w.f1
theorem impl_wide (w : S65) : impl_WideOk.f w.f0 w.f1 = some (wideB w) := by
  unfold impl_WideOk.f wideB
  rw [impl_half, impl_half]
  cases halfB w.f0 <;> simp
def callB (a b : Int) (l : List S65) : Bool := l.all wideB && (halfB a && (halfB b && (l.length == 3)))
theorem ev_impl_CallOk (a b : Int) (l : List S65) (hl : l.length ≤ 1048576) : Ev (fun k => impl_CallOk.f k a b l) (callB a b l) := by
  unfold callB
  by_cases hall : l.all wideB = true
  · have key := evUp (r := (halfB a && (halfB b && (l.length == 3)))) l.length (fun i k => impl_CallOk.l0 k l (l.length : Int) (i : Int) a b l) ?_ ?_
    · rw [hall]; exact key
    · intro i hi ih
      refine evSucc ?_
      simp only [impl_CallOk.l0]
      refine evPos (by omega) (evPos (by omega) (evPos (by omega) ?_))
      rw [rdW l i hi, impl_wide, w64 (by omega) (by omega), ci]
      simp only [Option.bind_some]
      exact evPos (by simpa using List.all_eq_true.1 hall _ (List.getElem_mem hi)) ih
    · refine evSucc ?_
      simp only [impl_CallOk.l0]
      refine evNeg (by omega) ?_
      rw [impl_half, impl_half]
      simp only [Option.bind_some]
      cases halfB a
      · exact evNeg (by simp) (Ev.now _)
      · refine evPos rfl ?_
        cases halfB b
        · exact evNeg (by simp) (Ev.now _)
        · refine evPos rfl (evEq (Ev.now _) ?_)
          simp only [Bool.true_and]
          rw [Bool.eq_iff_iff]
          simp
          try omega
  · have h0 : l.all wideB = false := by simpa using hall
    rw [h0]
    obtain ⟨x, hx, hb⟩ := List.all_eq_false.1 h0
    obtain ⟨j, hj, rfl⟩ := List.getElem_of_mem hx
    have key : ∀ d i, i + d = j → Ev (fun k => impl_CallOk.l0 k l (l.length : Int) (i : Int) a b l) false := by
      intro d
      induction d with
      | zero =>
        intro i hi
        refine evSucc ?_
        simp only [impl_CallOk.l0]
        refine evPos (by omega) (evPos (by omega) (evPos (by omega) ?_))
        obtain rfl : i = j := by omega
        rw [rdW l i hj, impl_wide]
        simp only [Option.bind_some]
        exact evNeg (by simpa using hb) (Ev.now _)
      | succ d ih =>
        intro i hi
        refine evSucc ?_
        simp only [impl_CallOk.l0]
        have hi' : i < l.length := by omega
        refine evPos (by omega) (evPos (by omega) (evPos (by omega) ?_))
        rw [rdW l i hi', impl_wide, w64 (by omega) (by omega), ci]
        simp only [Option.bind_some]
        by_cases hw : wideB l[i] = true
        · exact evPos hw (ih (i + 1) (by omega))
        · exact evNeg hw (Ev.now _)
    exact key j 0 (by omega)
theorem spec_half (n : Int) : spec_HalfOk.f n = some (halfB n) := by
  unfold spec_HalfOk.f spec_l01In.f halfB
  by_cases h : n ≥ 0
  · simp [h]
  · simp [h]
    try omega
theorem spec_wide (w : S65) : spec_WideOk.f w.f0 w.f1 = some (wideB w) := by
  unfold spec_WideOk.f wideB
  rw [spec_half, spec_half]
  cases halfB w.f0 <;> simp
theorem ev_spec_CallOk (a b : Int) (l : List S65) (hl : l.length ≤ 1048576) : Ev (fun k => spec_CallOk.f k a b l) (callB a b l) := by
  unfold callB
  by_cases hall : l.all wideB = true
  · have key := evUp (r := (halfB a && (halfB b && (l.length == 3)))) l.length (fun i k => spec_CallOk.l0 k (i : Int) a b l) ?_ ?_
    · rw [hall]; exact key
    · intro i hi ih
      refine evSucc ?_
      simp only [spec_CallOk.l0]
      refine evPos (by omega) (evPos (by omega) ?_)
      rw [rdW l i hi, spec_wide, w64 (by omega) (by omega), ci]
      simp only [Option.bind_some]
      exact evPos (by simpa using List.all_eq_true.1 hall _ (List.getElem_mem hi)) ih
    · refine evSucc ?_
      simp only [spec_CallOk.l0]
      refine evNeg (by omega) ?_
      rw [spec_half, spec_half]
      simp only [Option.bind_some]
      cases halfB a
      · exact evNeg (by simp) (Ev.now _)
      · refine evPos rfl ?_
        cases halfB b
        · exact evNeg (by simp) (Ev.now _)
        · refine evPos rfl (evEq (Ev.now _) ?_)
          simp only [Bool.true_and]
          rw [Bool.eq_iff_iff]
          simp
          try omega
  · have h0 : l.all wideB = false := by simpa using hall
    rw [h0]
    obtain ⟨x, hx, hb⟩ := List.all_eq_false.1 h0
    obtain ⟨j, hj, rfl⟩ := List.getElem_of_mem hx
    have key : ∀ d i, i + d = j → Ev (fun k => spec_CallOk.l0 k (i : Int) a b l) false := by
      intro d
      induction d with
      | zero =>
        intro i hi
        refine evSucc ?_
        simp only [spec_CallOk.l0]
        refine evPos (by omega) (evPos (by omega) ?_)
        obtain rfl : i = j := by omega
        rw [rdW l i hj, spec_wide]
        simp only [Option.bind_some]
        exact evNeg (by simpa using hb) (Ev.now _)
      | succ d ih =>
        intro i hi
        refine evSucc ?_
        simp only [spec_CallOk.l0]
        have hi' : i < l.length := by omega
        refine evPos (by omega) (evPos (by omega) ?_)
        rw [rdW l i hi', spec_wide, w64 (by omega) (by omega), ci]
        simp only [Option.bind_some]
        by_cases hw : wideB l[i] = true
        · exact evPos hw (ih (i + 1) (by omega))
        · exact evNeg hw (Ev.now _)
    exact key j 0 (by omega)
theorem one32c : (⟨#[32]⟩ : ByteArray).size = 1 := rfl
theorem one58 : (⟨#[58]⟩ : ByteArray).size = 1 := rfl
def cNames : List ByteArray := [(⟨#[114, 101, 97, 100]⟩ : ByteArray), (⟨#[119, 114, 105, 116, 101]⟩ : ByteArray), (⟨#[111, 112, 101, 110]⟩ : ByteArray), (⟨#[99, 108, 111, 115, 101]⟩ : ByteArray), (⟨#[115, 116, 97, 116]⟩ : ByteArray), (⟨#[109, 109, 97, 112]⟩ : ByteArray), (⟨#[101, 120, 101, 99]⟩ : ByteArray), (⟨#[102, 111, 114, 107]⟩ : ByteArray), (⟨#[107, 105, 108, 108]⟩ : ByteArray), (⟨#[115, 101, 110, 100]⟩ : ByteArray), (⟨#[114, 101, 99, 118]⟩ : ByteArray), (⟨#[101, 120, 105, 116]⟩ : ByteArray)]
def nameOf (n : Int) : ByteArray := if n < 12 then rdOf ByteArray.empty cNames n else num0 n
def scStep (s : ByteArray) (w : S65) : ByteArray :=
  if w.f0 > 0 then (((s ++ (⟨#[32]⟩ : ByteArray)) ++ num0 w.f0) ++ (⟨#[58]⟩ : ByteArray)) ++ num0 w.f1 else (s ++ (⟨#[32]⟩ : ByteArray)) ++ num0 w.f1
theorem num0_decI (x : Int) (h : 0 ≤ x) : num0 x = decI x := by
  unfold num0 decI
  rw [if_neg (by omega), show x.toNat = x.natAbs by omega]
theorem ev_fig (x : Int) (h0 : 0 ≤ x) (h1 : x ≤ 9223372036854775807) : Ev (fun k => spec_l08Figures.f k x) (num0 x) := by
  simp only [spec_l08Figures.f]
  refine evNeg (by omega) (evSucc ?_)
  simp only [spec_l08Figures.j0]
  exact evEq (ev_l08 _ x _ rfl (by omega) h1 (by show 0 + x.toNat ≤ _; omega) (by show 0 < _; omega)) ByteArray.append_empty
theorem ev_dec0 (x : Int) (h0 : 0 ≤ x) (h1 : x ≤ 9223372036854775807) : Ev (fun k => impl_Decimal.f k x) (num0 x) := by
  rw [num0_decI x h0]
  exact ev_impl_Decimal x (by omega) h1
theorem half_of {n : Int} (h : halfB n = true) : 0 ≤ n ∧ n ≤ 4294967295 := by unfold halfB at h; simpa using h
theorem name_size (n : Int) (h0 : 0 ≤ n) (h1 : n ≤ 4294967295) : (nameOf n).size ≤ 19 := by
  unfold nameOf
  by_cases h : n < 12
  · rw [if_pos h]
    have : n = 0 ∨ n = 1 ∨ n = 2 ∨ n = 3 ∨ n = 4 ∨ n = 5 ∨ n = 6 ∨ n = 7 ∨ n = 8 ∨ n = 9 ∨ n = 10 ∨ n = 11 := by omega
    rcases this with rfl | rfl | rfl | rfl | rfl | rfl | rfl | rfl | rfl | rfl | rfl | rfl <;> decide
  · rw [if_neg h]; exact num0_size n (by omega)
theorem sc_size (s : ByteArray) (w : S65) (h : wideB w = true) : (scStep s w).size ≤ s.size + 40 := by
  unfold wideB at h
  simp at h
  have h1 := num0_size w.f0 (by have := half_of h.1; omega)
  have h2 := num0_size w.f1 (by have := half_of h.2; omega)
  unfold scStep
  split <;> simp only [sizeApp, one32c, one58] <;> omega
def scAll (n : Int) (l : List S65) : ByteArray := l.foldl scStep (nameOf n)
theorem scAll_size (n : Int) (h0 : 0 ≤ n) (h1 : n ≤ 4294967295) (l : List S65) (hl : ∀ w ∈ l, wideB w = true) : (scAll n l).size ≤ 19 + 40 * l.length := by
  have key : ∀ (l : List S65), (∀ w ∈ l, wideB w = true) → ∀ s : ByteArray, (l.foldl scStep s).size ≤ s.size + 40 * l.length := by
    intro l
    induction l with
    | nil => intro _ s; simp
    | cons w l ih =>
      intro hl s
      rw [List.foldl_cons]
      have h1 := ih (fun w hw => hl w (by simp [hw])) (scStep s w)
      have h2 := sc_size s w (hl w (by simp))
      simp only [List.length_cons]
      omega
  have h := key l hl (nameOf n)
  have h2 := name_size n h0 h1
  unfold scAll
  omega
theorem sc_step (n : Int) (l : List S65) (i : Nat) (hi : i < l.length) : scAll n (l.take (i + 1)) = scStep (scAll n (l.take i)) l[i] := by
  unfold scAll
  rw [takeSnoc l i hi, List.foldl_append]
  rfl
def callLine (a n : Int) (l : List S65) : ByteArray := if callB a n l = true then scAll n l else ⟨#[]⟩
theorem callB_facts {a n : Int} {l : List S65} (h : callB a n l = true) : (∀ w ∈ l, wideB w = true) ∧ (0 ≤ a ∧ a ≤ 4294967295) ∧ (0 ≤ n ∧ n ≤ 4294967295) ∧ l.length = 3 := by
  unfold callB at h
  simp at h
  exact ⟨h.1, half_of h.2.1, half_of h.2.2.1, h.2.2.2⟩
theorem ev_spec_ShowCall (a n : Int) (l : List S65) (hl : l.length ≤ 1048576) : Ev (fun k => spec_ShowCall.f k a n l) (callLine a n l) := by
  unfold callLine
  simp only [spec_ShowCall.f]
  refine Ev.bind (ev_spec_CallOk a n l hl) ?_
  by_cases h : callB a n l = true
  · rw [if_pos h]
    refine evPos h ?_
    obtain ⟨hw, ha, hn, h3⟩ := callB_facts h
    simp only [spec_CallNames.f, Option.bind_some]
    refine Ev.bind (ev_fig n hn.1 (by omega)) ?_
    have loop : Ev (fun k => spec_ShowCall.j0 k (nameOf n) a n l) (scAll n l) := by
      refine evSucc ?_
      simp only [spec_ShowCall.j0]
      have key := evUp (r := scAll n l) l.length (fun i k => spec_ShowCall.l0 k (scAll n (l.take i)) (i : Int) a n l) ?_ ?_
      · exact key
      · intro i hi ih
        have hs := scAll_size n hn.1 hn.2 (l.take i) (fun w hx => hw w (List.mem_of_mem_take hx))
        have hln : (l.take i).length ≤ i := by simp; omega
        have hi' := hw _ (List.getElem_mem hi)
        unfold wideB at hi'
        simp at hi'
        have b0 := half_of hi'.1
        have b1 := half_of hi'.2
        have s0 := num0_size l[i].f0 (by omega)
        have s1 := num0_size l[i].f1 (by omega)
        have st := sc_step n l i hi
        unfold scStep at st
        refine evSucc ?_
        simp only [spec_ShowCall.l0]
        refine evPos (by omega) (evPos (by omega) (evPos (by omega) ?_))
        rw [rdW l i hi, w64 (by omega) (by omega), ci]
        by_cases hp : l[i].f0 > 0
        · rw [if_pos hp] at st
          refine evPos hp (Ev.bind (ev_fig _ b0.1 (by omega)) (evPos (by simp only [sizeApp, one32c]; omega) (evPos (by simp only [sizeApp, one32c]; omega) (Ev.bind (ev_fig _ b1.1 (by omega)) (evPos (by simp only [sizeApp, one32c, one58]; omega) ?_)))))
          rw [← st]
          exact ih
        · rw [if_neg hp] at st
          refine evNeg hp (Ev.bind (ev_fig _ b1.1 (by omega)) (evPos (by simp only [sizeApp, one32c]; omega) ?_))
          rw [← st]
          exact ih
      · refine evSucc ?_
        simp only [spec_ShowCall.l0]
        refine evNeg (by omega) ?_
        rw [List.take_length]
        exact Ev.now _
    by_cases h12 : n < 12
    · refine evPos (by simpa using h12) (evPos hn.1 ?_)
      unfold nameOf at loop
      rw [if_pos h12] at loop
      exact loop
    · refine evNeg (by simpa using h12) ?_
      unfold nameOf at loop
      rw [if_neg h12] at loop
      exact loop
  · rw [if_neg h]
    exact evNeg h (Ev.now _)
theorem ev_impl_ShowCall (a n : Int) (l : List S65) (hl : l.length ≤ 1048576) : Ev (fun k => impl_ShowCall.f k a n l) (callLine a n l) := by
  unfold callLine
  simp only [impl_ShowCall.f]
  refine Ev.bind (ev_impl_CallOk a n l hl) ?_
  by_cases h : callB a n l = true
  · rw [if_pos h]
    refine evPos h ?_
    obtain ⟨hw, ha, hn, h3⟩ := callB_facts h
    refine Ev.bind (ev_dec0 n hn.1 (by omega)) ?_
    simp only [impl_CallNames.f, Option.bind_some]
    have loop : Ev (fun k => impl_ShowCall.j0 k (nameOf n) a n l) (scAll n l) := by
      refine evSucc ?_
      simp only [impl_ShowCall.j0]
      have key := evUp (r := scAll n l) l.length (fun i k => impl_ShowCall.l0 k (scAll n (l.take i)) l (l.length : Int) (i : Int)) ?_ ?_
      · exact key
      · intro i hi ih
        have hs := scAll_size n hn.1 hn.2 (l.take i) (fun w hx => hw w (List.mem_of_mem_take hx))
        have hln : (l.take i).length ≤ i := by simp; omega
        have hi' := hw _ (List.getElem_mem hi)
        unfold wideB at hi'
        simp at hi'
        have b0 := half_of hi'.1
        have b1 := half_of hi'.2
        have s0 := num0_size l[i].f0 (by omega)
        have s1 := num0_size l[i].f1 (by omega)
        have st := sc_step n l i hi
        unfold scStep at st
        refine evSucc ?_
        simp only [impl_ShowCall.l0]
        refine evPos (by omega) (evPos (by omega) (evPos (by omega) (evPos (by omega) ?_)))
        rw [rdW l i hi, w64 (by omega) (by omega), ci]
        by_cases hp : l[i].f0 > 0
        · rw [if_pos hp] at st
          refine evPos hp (Ev.bind (ev_dec0 _ b0.1 (by omega)) (evPos (by simp only [sizeApp, one32c]; omega) (evPos (by simp only [sizeApp, one32c]; omega) (Ev.bind (ev_dec0 _ b1.1 (by omega)) (evPos (by simp only [sizeApp, one32c, one58]; omega) ?_)))))
          rw [← st]
          exact ih
        · rw [if_neg hp] at st
          refine evNeg hp (Ev.bind (ev_dec0 _ b1.1 (by omega)) (evPos (by simp only [sizeApp, one32c]; omega) ?_))
          rw [← st]
          exact ih
      · refine evSucc ?_
        simp only [impl_ShowCall.l0]
        refine evNeg (by omega) ?_
        rw [List.take_length]
        exact Ev.now _
    by_cases h12 : n < 12
    · refine evPos (by simpa using h12) (evPos hn.1 ?_)
      unfold nameOf at loop
      rw [if_pos h12] at loop
      exact loop
    · refine evNeg (by simpa using h12) ?_
      unfold nameOf at loop
      rw [if_neg h12] at loop
      exact loop
  · rw [if_neg h]
    exact evNeg h (Ev.now _)
theorem FnExactShowCall : PureFnExactShowCall.Stated := by
  intro c ⟨_, _, _, hb⟩
  obtain ⟨a, n, l⟩ := c
  refine Ev.rounds ?_
  simp only [laws_FnExactShowCall.f]
  by_cases h : l.length ≤ 1048576
  · rw [szCall_small a n l h]
    simp only [Option.bind_some]
    refine evNeg (by omega) ?_
    have hm : (l.map cvWide).length ≤ 1048576 := by simpa using h
    refine Ev.bind (ev_toCall a n l h) (Ev.bind (ev_spec_ShowCall a n _ hm) (Ev.bind (ev_toCall a n l h) (Ev.bind (ev_impl_ShowCall a n _ hm) ?_)))
    refine evPos rfl (Ev.bind (ev_toCall a n l h) (Ev.bind (ev_eqCall a n _ hm) ?_))
    exact evPos rfl (Ev.now _)
  · rw [szCall_big a n l (by omega) hb]
    simp only [Option.bind_some]
    exact evPos (by omega) (Ev.now _)

end Go.Proofs.Ytdedmdgegcnnpaa.Pure

/- The plain proof of the law FnExactListing: the plain functions that the program and the reference come to answer alike. No condition. -/
import Derived.Test.YtdedmdgegcnnpaaKit
import Derived.Test.YtdedmdgegcnnpaaPAx41
import Derived.Test.YtdedmdgegcnnpaaStFnExactListing
namespace Go.Proofs.Ytdedmdgegcnnpaa.Pure
open Go.RowKit Go.Proofs.Ytdedmdgegcnnpaa.PA Go.Proofs.YtdedmdgegcnnpaaW.PrintWords Go.Proofs.YtdedmdgegcnnpaaW.PrintLast Go.Proofs.YtdedmdgegcnnpaaW.PrintMore Go.Proofs.Ytdedmdgegcnnpaa.Kit Go.Proofs.Ytdedmdgegcnnpaa.PureFnExactListing
set_option linter.unusedVariables false
set_option linter.unusedSimpArgs false
/-! figures of a number -/
def dg (n : Nat) : ByteArray := ⟨#[UInt8.ofNat (48 + n % 10)]⟩
def decz (n : Nat) : ByteArray := if h : n = 0 then ⟨#[]⟩ else decz (n / 10) ++ dg n
  termination_by n
  decreasing_by omega
def dec (n : Nat) : ByteArray := if n = 0 then dg 0 else decz n
theorem dg_size (n : Nat) : (dg n).size = 1 := rfl
theorem decz_zero : decz 0 = ⟨#[]⟩ := by rw [decz]; rfl
theorem decz_step (n : Nat) (h : n ≠ 0) : decz n = decz (n / 10) ++ dg n := by rw [decz, dif_neg h]
theorem dec_small (n : Nat) (h : n < 10) : dec n = dg n := by
  unfold dec
  by_cases h0 : n = 0
  · rw [if_pos h0, h0]
  · rw [if_neg h0, decz_step n h0, show n / 10 = 0 by omega, decz_zero]
    exact ByteArray.empty_append
theorem dec_step (n : Nat) (h : 9 < n) : dec n = dec (n / 10) ++ dg n := by
  unfold dec
  rw [if_neg (by omega), if_neg (by omega), decz_step n (by omega)]
theorem decz_size (n : Nat) : (decz n).size ≤ n := by
  induction n using Nat.strongRecOn with
  | ind n ih =>
    by_cases h : n = 0
    · rw [h, decz_zero]; exact Nat.le_refl _
    · rw [decz_step n h, sizeApp, dg_size]
      have := ih (n / 10) (by omega)
      omega
theorem dec_size_lt : ∀ (k n : Nat), 0 < k → n < 10 ^ k → (dec n).size ≤ k := by
  intro k
  induction k with
  | zero => intro n h; omega
  | succ k ih =>
    intro n _ hn
    by_cases h : n < 10
    · rw [dec_small n h, dg_size]; omega
    · rw [dec_step n (by omega), sizeApp, dg_size]
      have hk : 0 < k := by
        rcases Nat.eq_zero_or_pos k with h0 | h0
        · subst h0; omega
        · exact h0
      have := ih (n / 10) hk (by rw [Nat.pow_succ] at hn; omega)
      omega
theorem dec_size (n : Nat) (h : n ≤ 9223372036854775808) : (dec n).size ≤ 19 := dec_size_lt 19 n (by omega) (by omega)
theorem dg_of (x : Int) (h0 : 0 ≤ x) (h1 : x ≤ 9) : strOfNums [(48 + x) % 256] = dg x.toNat := by
  unfold strOfNums dg
  rw [show ((48 + x) % 256) = 48 + x by omega]
  simp only [List.map_cons, List.map_nil]
  rw [show (48 + x).toNat = 48 + x.toNat % 10 by omega]
theorem ev_l08 : ∀ (m : Nat) (x : Int) (out : ByteArray), x.toNat = m → 0 ≤ x → x ≤ 9223372036854775807 → out.size + m ≤ 9223372036854775807 → out.size < 9223372036854775807 →
    Ev (fun k => spec_l08Figures.l0 k x out) (dec x.toNat ++ out) := by
  intro m
  induction m using Nat.strongRecOn with
  | ind m ih =>
    intro x out hm h0 h1 hs hs1
    refine evSucc ?_
    simp only [spec_l08Figures.l0, Option.bind_some]
    by_cases h : x > 9
    · refine evPos h ?_
      rw [Int.tmod_eq_emod_of_nonneg h0, Int.tdiv_eq_ediv_of_nonneg h0, w64 (x := 48 + x % 10) (by omega) (by omega), dg_of (x % 10) (by omega) (by omega), w64 (by omega) (by omega)]
      rw [show dg (x % 10).toNat = dg x.toNat by unfold dg; rw [show (x % 10).toNat % 10 = x.toNat % 10 by omega]]
      refine evPos (by rw [dg_size]; omega) ?_
      have := ih (x / 10).toNat (by omega) (x / 10) (dg x.toNat ++ out) rfl (by omega) (by omega) (by rw [sizeApp, dg_size]; omega) (by rw [sizeApp, dg_size]; omega)
      rw [show (x / 10).toNat = x.toNat / 10 by omega, ← ByteArray.append_assoc, ← dec_step x.toNat (by omega)] at this
      exact this
    · refine evNeg h ?_
      rw [w64 (x := 48 + x) (by omega) (by omega), dg_of x h0 (by omega), ← dec_small x.toNat (by omega)]
      exact evPos (by rw [dec_small x.toNat (by omega), dg_size]; omega) (Ev.now _)
def num0 (x : Int) : ByteArray := dec x.toNat
theorem num0_size (x : Int) (h : x ≤ 9223372036854775807) : (num0 x).size ≤ 19 := dec_size _ (by omega)
theorem ev_spec_l29Num (x : Int) (h1 : x ≤ 9223372036854775807) : Ev (fun k => spec_l29Num.f k x) (num0 x) := by
  unfold num0
  simp only [spec_l29Num.f]
  by_cases h : x < 0
  · refine evPos h (evEq (Ev.now _) ?_)
    rw [show x.toNat = 0 by omega]
    rfl
  · refine evNeg h ?_
    refine Ev.bind (a := dec x.toNat) ?_ (Ev.now _)
    simp only [spec_l08Figures.f]
    refine evNeg h (evSucc ?_)
    simp only [spec_l08Figures.j0]
    exact evEq (ev_l08 _ x _ rfl (by omega) h1 (by show 0 + x.toNat ≤ _; omega) (by show 0 < _; omega)) ByteArray.append_empty
theorem fig_at (d : Nat) (h : d < 10) : (⟨#[48, 49, 50, 51, 52, 53, 54, 55, 56, 57, 97, 98, 99, 100, 101, 102]⟩ : ByteArray).extract d (d + 1) = dg d := by
  have : d = 0 ∨ d = 1 ∨ d = 2 ∨ d = 3 ∨ d = 4 ∨ d = 5 ∨ d = 6 ∨ d = 7 ∨ d = 8 ∨ d = 9 := by omega
  rcases this with rfl | rfl | rfl | rfl | rfl | rfl | rfl | rfl | rfl | rfl <;> decide
def sgn (x : Int) (s : ByteArray) : ByteArray := if x < 0 then ⟨#[45]⟩ ++ s else s
theorem tmod_abs (m : Int) (h0 : -9223372036854775808 ≤ m) (h1 : m ≤ 9223372036854775807) : mx (Int.tmod m 10) (wrap64 (-(Int.tmod m 10))) = ((m.natAbs % 10 : Nat) : Int) := by
  rcases Int.natAbs_eq m with h | h
  · rw [h, Int.tmod_eq_emod_of_nonneg (by omega), w64 (by omega) (by omega)]
    unfold mx
    split <;> omega
  · rw [h, Int.neg_tmod, Int.tmod_eq_emod_of_nonneg (by omega), w64 (by omega) (by omega)]
    unfold mx
    split <;> omega
theorem tdiv_abs (m : Int) : (Int.tdiv m 10).natAbs = m.natAbs / 10 := by
  rw [Int.natAbs_tdiv]
  rfl
theorem ev_impl_dec : ∀ (j : Nat) (x m : Int) (out : ByteArray), m.natAbs < 10 ^ j → -9223372036854775808 ≤ m → m ≤ 9223372036854775807 → out.size + j ≤ 1000 →
    Ev (fun k => impl_Decimal.l0 k x out m) (sgn x (decz m.natAbs ++ out)) := by
  intro j
  induction j with
  | zero =>
    intro x m out hm h0 h1 hs
    refine evSucc ?_
    simp only [impl_Decimal.l0]
    obtain rfl : m = 0 := by rw [Nat.pow_zero] at hm; omega
    refine evPos rfl ?_
    rw [show (0 : Int).natAbs = 0 from rfl, decz_zero, show (⟨#[]⟩ : ByteArray) ++ out = out from ByteArray.empty_append]
    unfold sgn
    by_cases hx : x < 0
    · exact evPos hx (evPos (by omega) (evEq (Ev.now _) (if_pos hx).symm))
    · exact evNeg hx (evEq (Ev.now _) (if_neg hx).symm)
  | succ j ih =>
    intro x m out hm h0 h1 hs
    by_cases h : m = 0
    · subst h
      exact ih x 0 out (Nat.pow_pos (by omega)) h0 h1 (by omega)
    · refine evSucc ?_
      simp only [impl_Decimal.l0]
      refine evNeg h ?_
      rw [tmod_abs m h0 h1, w64 (x := ((m.natAbs % 10 : Nat) : Int) + 1) (by omega) (by omega)]
      refine evPos (by omega) (evPos (by omega) (evPos (by omega) ?_))
      rw [ci, Int.toNat_natCast, Int.toNat_natCast, fig_at _ (by omega)]
      rw [show dg (m.natAbs % 10) = dg m.natAbs by unfold dg; rw [Nat.mod_mod]]
      have ht := tdiv_abs m
      refine evPos (by rw [dg_size]; omega) ?_
      rw [w64 (by omega) (by omega)]
      have := ih x (Int.tdiv m 10) (dg m.natAbs ++ out) (by rw [ht, Nat.div_lt_iff_lt_mul (by omega), ← Nat.pow_succ]; exact hm) (by omega) (by omega) (by rw [sizeApp, dg_size]; omega)
      rw [ht, ← ByteArray.append_assoc, ← decz_step m.natAbs (by omega)] at this
      exact this
def decI (x : Int) : ByteArray := if x < 0 then ⟨#[45]⟩ ++ dec x.natAbs else dec x.natAbs
theorem decI_size (x : Int) (h0 : -9223372036854775808 ≤ x) (h1 : x ≤ 9223372036854775807) : (decI x).size ≤ 20 := by
  have := dec_size x.natAbs (by omega)
  unfold decI
  split
  · rw [sizeApp]; show 1 + _ ≤ _; omega
  · omega
theorem ev_impl_Decimal (x : Int) (h0 : -9223372036854775808 ≤ x) (h1 : x ≤ 9223372036854775807) : Ev (fun k => impl_Decimal.f k x) (decI x) := by
  simp only [impl_Decimal.f]
  by_cases h : x = 0
  · refine evPos h (evEq (Ev.now _) ?_)
    subst h
    rfl
  · refine evNeg h (evEq (ev_impl_dec 19 x x _ (by omega) h0 h1 (by show 0 + 19 ≤ _; omega)) ?_)
    rw [show decz x.natAbs ++ (⟨#[]⟩ : ByteArray) = decz x.natAbs from ByteArray.append_empty]
    unfold sgn decI dec
    rw [if_neg (by omega : ¬ x.natAbs = 0)]
theorem figure_of (x : Int) (h0 : 0 ≤ x) (h1 : x ≤ 9) : ∃ t, spec_l01Figure.f x = some t ∧ strOfNums [t] = dg x.toNat := by
  unfold spec_l01Figure.f
  rw [if_pos (by omega), w64 (by omega) (by omega)]
  exact ⟨_, rfl, dg_of x h0 h1⟩
theorem ev_spec_dec : ∀ (j : Nat) (b : Bool) (m : Int) (out : ByteArray), m.natAbs < 10 ^ j → -9223372036854775808 ≤ m → m ≤ 9223372036854775807 → out.size + j ≤ 1000 →
    Ev (fun k => spec_Decimal.l0 k m b out) (if b = true then (⟨#[45]⟩ : ByteArray) ++ (decz m.natAbs ++ out) else decz m.natAbs ++ out) := by
  intro j
  induction j with
  | zero =>
    intro b m out hm h0 h1 hs
    refine evSucc ?_
    simp only [spec_Decimal.l0]
    obtain rfl : m = 0 := by rw [Nat.pow_zero] at hm; omega
    refine evPos rfl ?_
    rw [show (0 : Int).natAbs = 0 from rfl, decz_zero, show (⟨#[]⟩ : ByteArray) ++ out = out from ByteArray.empty_append]
    by_cases hx : b = true
    · exact evPos hx (evPos (by omega) (evEq (Ev.now _) (if_pos hx).symm))
    · exact evNeg hx (evEq (Ev.now _) (if_neg hx).symm)
  | succ j ih =>
    intro b m out hm h0 h1 hs
    by_cases h : m = 0
    · subst h
      exact ih b 0 out (Nat.pow_pos (by omega)) h0 h1 (by omega)
    · refine evSucc ?_
      simp only [spec_Decimal.l0]
      refine evNeg h ?_
      have ht : (Int.tdiv m 10).natAbs = m.natAbs / 10 := by rw [Int.natAbs_tdiv]; rfl
      have hrec := ih b (Int.tdiv m 10) (dg m.natAbs ++ out) (by rw [ht, Nat.div_lt_iff_lt_mul (by omega), ← Nat.pow_succ]; exact hm) (by omega) (by omega) (by rw [sizeApp, dg_size]; omega)
      rw [ht, show decz (m.natAbs / 10) ++ (dg m.natAbs ++ out) = decz m.natAbs ++ out by rw [decz_step m.natAbs (by omega), ByteArray.append_assoc]] at hrec
      have hd : ∀ q : Int, q = ((m.natAbs % 10 : Nat) : Int) → Ev (fun k => (spec_l01Figure.f q).bind fun t116 => ((some (([t116] : List Int) : List Int)).bind fun y117 => (if (strOfNums y117).size + out.size ≤ 9223372036854775807 then (spec_Decimal.l0 k (wrap64 (Int.tdiv m 10)) b ((strOfNums y117) ++ out)) else (none)))) (if b = true then (⟨#[45]⟩ : ByteArray) ++ (decz m.natAbs ++ out) else decz m.natAbs ++ out) := by
        intro q hq
        obtain ⟨t, h2, h3⟩ := figure_of q (by omega) (by omega)
        rw [h2]
        simp only [Option.bind_some]
        rw [h3, show dg q.toNat = dg m.natAbs by unfold dg; rw [show q.toNat % 10 = m.natAbs % 10 by omega], w64 (by omega) (by omega)]
        exact evPos (by rw [dg_size]; omega) hrec
      by_cases hn : Int.tmod m 10 < 0
      · refine evPos hn (hd _ ?_)
        rcases Int.natAbs_eq m with e | e
        · rw [e, Int.tmod_eq_emod_of_nonneg (by omega)] at hn; omega
        · rw [e, Int.neg_tmod, Int.tmod_eq_emod_of_nonneg (by omega), w64 (by omega) (by omega)]; omega
      · refine evNeg hn (hd _ ?_)
        rcases Int.natAbs_eq m with e | e
        · rw [e, Int.tmod_eq_emod_of_nonneg (by omega)]; omega
        · rw [e, Int.neg_tmod, Int.tmod_eq_emod_of_nonneg (by omega)] at hn ⊢; omega
theorem ev_spec_Decimal (x : Int) (h0 : -9223372036854775808 ≤ x) (h1 : x ≤ 9223372036854775807) : Ev (fun k => spec_Decimal.f k x) (decI x) := by
  simp only [spec_Decimal.f]
  by_cases h : x = 0
  · refine evPos h (evEq (Ev.now _) ?_)
    subst h
    rfl
  · refine evNeg h (evEq (ev_spec_dec 19 (decide (x < 0)) x _ (by omega) h0 h1 (by show 0 + 19 ≤ _; omega)) ?_)
    rw [show decz x.natAbs ++ (⟨#[]⟩ : ByteArray) = decz x.natAbs from ByteArray.append_empty]
    unfold decI dec
    rw [if_neg (by omega : ¬ x.natAbs = 0)]
    by_cases hx : x < 0
    · rw [if_pos hx, if_pos (by simpa using hx)]
    · rw [if_neg hx, if_neg (by simpa using hx)]
/-! a word of the machine: right or not -/
def rng (x lo hi : Int) : Bool := decide (lo ≤ x) && decide (x ≤ hi)
theorem spec_in (x lo hi : Int) : spec_l01In.f x lo hi = some (rng x lo hi) := by
  unfold spec_l01In.f rng
  by_cases h : x ≥ lo
  · simp [h]
  · simp [h]
    try omega
theorem impl_in (x lo hi : Int) : impl_within.f x lo hi = some (rng x lo hi) := by
  unfold impl_within.f rng
  by_cases h : x ≥ lo
  · simp [h]
  · simp [h]
    try omega
def okIns (op k y n : Int) : Bool :=
  if rng op 3 6 = true then rng k 0 4294967295 && (rng y 0 15 && rng n 0 15)
  else decide (y = 0) && (decide (n = 0) && (if op = 1 then rng k 0 7 else if op = 7 then rng k 0 399 else if op = 2 ∨ op = 8 then rng k 0 4294967295 else false))
theorem ev_impl_InsOk (op k y n : Int) : Ev (fun q => impl_InsOk.f q op k y n) (okIns op k y n) := by
  simp only [impl_InsOk.f, impl_Ins_asks.f, impl_HalfOk.f, impl_in, Option.bind_some]
  unfold okIns
  refine evIte (fun h => ?_) (fun h => ?_)
  · cases rng k 0 4294967295
    · exact evNeg (by simp) (Ev.now _)
    · refine evPos rfl ?_
      cases rng y 0 15
      · exact evNeg (by simp) (Ev.now _)
      · exact evPos rfl (Ev.now _)
  · by_cases hy : y = 0
    · refine evPos hy (evSucc ?_)
      simp only [impl_InsOk.j0, impl_in, impl_HalfOk.f, Option.bind_some]
      by_cases hn : n = 0
      · refine evNeg (by simp [hn]) ?_
        simp only [hy, hn, decide_true, Bool.true_and]
        refine evIte (fun _ => Ev.now _) (fun _ => evIte (fun _ => Ev.now _) (fun _ => ?_))
        by_cases h2 : op = 2
        · exact evPos h2 (evEq (Ev.now _) (if_pos (Or.inl h2)).symm)
        · refine evNeg h2 ?_
          by_cases h8 : op = 8
          · exact evPos h8 (evEq (Ev.now _) (if_pos (Or.inr h8)).symm)
          · exact evNeg h8 (evEq (Ev.now _) (if_neg (by omega)).symm)
      · simp only [hn, decide_false, Bool.false_and, Bool.and_false]
        exact evPos (by simp [hn]) (Ev.now _)
    · simp only [hy, decide_false, Bool.false_and]
      refine evNeg (by simp) (evSucc ?_)
      simp only [impl_InsOk.j0]
      exact evPos (by simp) (Ev.now _)
theorem ev_spec_InsOk (op k y n : Int) : Ev (fun q => spec_InsOk.f q op k y n) (okIns op k y n) := by
  have lv : ∀ r : Bool, Ev (fun q => spec_InsOk.j1 q true op k y n) false := fun _ => evSucc (by simp only [spec_InsOk.j1]; exact evPos (by simp) (Ev.now _))
  have l0 : Ev (fun q => spec_InsOk.j0 q true op k y n) false := evSucc (by simp only [spec_InsOk.j0]; exact evPos (by simp) (Ev.now _))
  simp only [spec_InsOk.f, spec_HalfOk.f, spec_in, Option.bind_some]
  by_cases h0 : rng op 1 8 = true
  · refine evPos h0 ?_
    by_cases hk : rng k 0 4294967295 = true
    · refine evPos hk ?_
      by_cases hy : rng y 0 15 = true
      · refine evPos hy (evSucc ?_)
        simp only [spec_InsOk.j0, spec_l06Ask.f, spec_in, Option.bind_some]
        by_cases hn : rng n 0 15 = true
        · refine evNeg (by simp [hn]) ?_
          by_cases ha : rng op 3 6 = true
          · refine evPos ha (evSucc ?_)
            simp only [spec_InsOk.j1]
            refine evNeg (by simp) ?_
            unfold okIns
            rw [if_pos ha, hk, hy, hn]
            unfold rng at ha
            simp at ha
            exact evNeg (by omega) (evNeg (by omega) (Ev.now _))
          · refine evNeg ha ?_
            by_cases hy0 : y = 0
            · refine evPos hy0 (evSucc ?_)
              simp only [spec_InsOk.j1]
              unfold okIns
              rw [if_neg ha]
              by_cases hn0 : n = 0
              · refine evNeg (by simp [hn0]) ?_
                simp only [hy0, hn0, decide_true, Bool.true_and]
                unfold rng at h0 hk ha ⊢
                simp at h0 hk ha
                by_cases h1 : op = 1
                · refine evPos h1 (evEq (Ev.now _) ?_)
                  rw [if_pos h1, Bool.eq_iff_iff]; simp; omega
                · refine evNeg h1 ?_
                  by_cases h7 : op = 7
                  · refine evPos h7 (evEq (Ev.now _) ?_)
                    rw [if_neg h1, if_pos h7, Bool.eq_iff_iff]; simp; omega
                  · refine evNeg h7 (evEq (Ev.now _) ?_)
                    rw [if_neg h1, if_neg h7, if_pos (by omega)]; simp; omega
              · simp only [hn0, decide_false, Bool.false_and, Bool.and_false]
                exact evPos (by simp [hn0]) (Ev.now _)
            · refine evNeg hy0 (evEq (lv true) ?_)
              unfold okIns
              rw [if_neg ha]
              simp [hy0]
        · refine evPos (by simp [hn]) (evEq (Ev.now _) ?_)
          unfold okIns
          unfold rng at hn ⊢
          by_cases hn0 : n = 0
          · subst hn0; simp at hn
          · simp at hn
            simp [hn0]
            intros
            omega
      · refine evNeg hy (evEq l0 ?_)
        unfold okIns
        unfold rng at hy ⊢
        by_cases hy0 : y = 0
        · subst hy0; simp at hy
        · simp at hy
          simp [hy0]
          intros
          omega
    · refine evNeg hk (evEq l0 ?_)
      unfold okIns
      unfold rng at hk ⊢
      simp at hk
      by_cases ha : 3 ≤ op ∧ op ≤ 6
      · simp [ha]
        intros
        omega
      · rw [if_neg (by simpa using ha)]
        simp
        intros
        split <;> (try split) <;> (try split) <;> (try simp) <;> (try intros) <;> omega
  · refine evNeg h0 (evEq l0 ?_)
    unfold okIns
    unfold rng at h0 ⊢
    simp at h0
    rw [if_neg (by simp; omega), if_neg (by omega), if_neg (by omega), if_neg (by omega)]
    simp
def opName (op : Int) : ByteArray := if op = 1 then ⟨#[108, 111, 97, 100]⟩ else if op = 2 then ⟨#[97, 110, 100]⟩ else if op = 3 then ⟨#[101, 113]⟩ else if op = 4 then ⟨#[109, 111, 114, 101]⟩ else if op = 5 then ⟨#[108, 101, 97, 115, 116]⟩ else if op = 6 then ⟨#[115, 101, 116]⟩ else if op = 7 then ⟨#[106, 117, 109, 112]⟩ else ⟨#[114, 101, 116]⟩
theorem opName_size (op : Int) : (opName op).size ≤ 5 := by
  unfold opName
  repeat' split
  all_goals decide
theorem okIns_facts {op k y n : Int} (h : okIns op k y n = true) : 1 ≤ op ∧ op ≤ 8 ∧ 0 ≤ k ∧ k ≤ 4294967295 ∧ 0 ≤ y ∧ y ≤ 15 ∧ 0 ≤ n ∧ n ≤ 15 := by
  unfold okIns rng at h
  by_cases ha : 3 ≤ op ∧ op ≤ 6
  · simp [ha] at h; omega
  · rw [if_neg (by simpa using ha)] at h
    simp at h
    obtain ⟨h1, h2, h3⟩ := h
    by_cases c1 : op = 1
    · simp [c1] at h3; omega
    · by_cases c7 : op = 7
      · simp [c7] at h3; omega
      · by_cases c2 : op = 2 ∨ op = 8
        · simp [c1, c7, c2] at h3; omega
        · simp [c1, c7, c2] at h3
def insLine (op k y n : Int) : ByteArray :=
  if okIns op k y n = true then
    (if rng op 3 6 = true then ((((((opName op) ++ (⟨#[32]⟩ : ByteArray)) ++ decI k) ++ (⟨#[32]⟩ : ByteArray)) ++ decI y) ++ (⟨#[32]⟩ : ByteArray)) ++ decI n
     else ((opName op) ++ (⟨#[32]⟩ : ByteArray)) ++ decI k)
  else ⟨#[]⟩
theorem one32 : (⟨#[32]⟩ : ByteArray).size = 1 := rfl
theorem nameS (op : Int) (h : 1 ≤ op ∧ op ≤ 8) : rdOf ByteArray.empty ([(⟨#[]⟩ : ByteArray), (⟨#[108, 111, 97, 100]⟩ : ByteArray), (⟨#[97, 110, 100]⟩ : ByteArray), (⟨#[101, 113]⟩ : ByteArray), (⟨#[109, 111, 114, 101]⟩ : ByteArray), (⟨#[108, 101, 97, 115, 116]⟩ : ByteArray), (⟨#[115, 101, 116]⟩ : ByteArray), (⟨#[106, 117, 109, 112]⟩ : ByteArray), (⟨#[114, 101, 116]⟩ : ByteArray)] : List ByteArray) op = opName op := by
  have : op = 1 ∨ op = 2 ∨ op = 3 ∨ op = 4 ∨ op = 5 ∨ op = 6 ∨ op = 7 ∨ op = 8 := by omega
  rcases this with rfl | rfl | rfl | rfl | rfl | rfl | rfl | rfl <;> rfl
theorem nameI (op : Int) (h : 1 ≤ op ∧ op ≤ 8) : rdOf ByteArray.empty ([(⟨#[108, 111, 97, 100]⟩ : ByteArray), (⟨#[97, 110, 100]⟩ : ByteArray), (⟨#[101, 113]⟩ : ByteArray), (⟨#[109, 111, 114, 101]⟩ : ByteArray), (⟨#[108, 101, 97, 115, 116]⟩ : ByteArray), (⟨#[115, 101, 116]⟩ : ByteArray), (⟨#[106, 117, 109, 112]⟩ : ByteArray), (⟨#[114, 101, 116]⟩ : ByteArray)] : List ByteArray) (op - 1) = opName op := by
  have : op = 1 ∨ op = 2 ∨ op = 3 ∨ op = 4 ∨ op = 5 ∨ op = 6 ∨ op = 7 ∨ op = 8 := by omega
  rcases this with rfl | rfl | rfl | rfl | rfl | rfl | rfl | rfl <;> rfl
theorem num0_decI (x : Int) (h : 0 ≤ x) : num0 x = decI x := by
  unfold num0 decI
  rw [if_neg (by omega), show x.toNat = x.natAbs by omega]
theorem ev_spec_ShowIns (op k y n : Int) : Ev (fun q => spec_ShowIns.f q op k y n) (insLine op k y n) := by
  unfold insLine
  simp only [spec_ShowIns.f]
  refine Ev.bind (ev_spec_InsOk op k y n) ?_
  by_cases h : okIns op k y n = true
  · rw [if_pos h]
    refine evPos h ?_
    obtain ⟨o1, o2, k1, k2, y1, y2, n1, n2⟩ := okIns_facts h
    have so := opName_size op
    have sk := decI_size k (by omega) (by omega)
    have sy := decI_size y (by omega) (by omega)
    have sn := decI_size n (by omega) (by omega)
    simp only [Option.bind_some, nameS op ⟨o1, o2⟩]
    refine evPos (by omega) (evPos (by simp; omega) (evPos (by omega) ?_))
    refine Ev.bind (a := decI k) (by rw [← num0_decI k k1]; exact ev_spec_l29Num k (by omega)) (evPos (by simp only [sizeApp, one32]; omega) ?_)
    simp only [spec_l06Ask.f, spec_in, Option.bind_some]
    by_cases ha : rng op 3 6 = true
    · rw [if_pos ha]
      refine evPos ha (evPos (by simp only [sizeApp, one32]; omega) ?_)
      refine Ev.bind (ev_spec_Decimal y (by omega) (by omega)) (evPos (by simp only [sizeApp, one32]; omega) (evPos (by simp only [sizeApp, one32]; omega) ?_))
      refine Ev.bind (ev_spec_Decimal n (by omega) (by omega)) (evPos (by simp only [sizeApp, one32]; omega) ?_)
      exact Ev.now _
    · rw [if_neg ha]
      exact evNeg ha (Ev.now _)
  · rw [if_neg h]
    exact evNeg h (Ev.now _)
theorem ev_impl_ShowIns (op k y n : Int) : Ev (fun q => impl_ShowIns.f q op k y n) (insLine op k y n) := by
  unfold insLine
  simp only [impl_ShowIns.f]
  refine Ev.bind (ev_impl_InsOk op k y n) ?_
  by_cases h : okIns op k y n = true
  · rw [if_pos h]
    refine evPos h ?_
    obtain ⟨o1, o2, k1, k2, y1, y2, n1, n2⟩ := okIns_facts h
    have so := opName_size op
    have sk := decI_size k (by omega) (by omega)
    have sy := decI_size y (by omega) (by omega)
    have sn := decI_size n (by omega) (by omega)
    rw [w64 (x := op - 1) (by omega) (by omega)]
    simp only [Option.bind_some, nameI op ⟨o1, o2⟩]
    refine evPos (by omega) (evPos (by simp; omega) (evPos (by omega) ?_))
    refine Ev.bind (ev_impl_Decimal k (by omega) (by omega)) (evPos (by simp only [sizeApp, one32]; omega) ?_)
    simp only [impl_Ins_asks.f, impl_in, Option.bind_some]
    by_cases ha : rng op 3 6 = true
    · rw [if_pos ha]
      refine evPos ha (evPos (by simp only [sizeApp, one32]; omega) ?_)
      refine Ev.bind (ev_impl_Decimal y (by omega) (by omega)) (evPos (by simp only [sizeApp, one32]; omega) (evPos (by simp only [sizeApp, one32]; omega) ?_))
      refine Ev.bind (ev_impl_Decimal n (by omega) (by omega)) (evPos (by simp only [sizeApp, one32]; omega) ?_)
      exact Ev.now _
    · rw [if_neg ha]
      exact evNeg ha (Ev.now _)
  · rw [if_neg h]
    exact evNeg h (Ev.now _)
def cvIns (x : S72) : S70 := ⟨x.f0, x.f1, x.f2, x.f3⟩
theorem rdLI (l : List S72) (i : Nat) (hi : i < l.length) : rd_T72 l (i : Int) = l[i] := by simp [rd_T72, hi]
theorem rdI (l : List S70) (i : Nat) (hi : i < l.length) : rd_T70 l (i : Int) = l[i] := by simp [rd_T70, hi]
theorem ev_toInsS (l : List S72) (hl : l.length ≤ 1048576) : Ev (fun k => laws_toInsS.f k l) (l.map cvIns) := by
  have key := evUp (r := l.map cvIns) l.length (fun i k => laws_toInsS.l0 k l ((l.take i).map cvIns ++ List.replicate (l.length - i) z70) (i : Int)) ?_ ?_
  · refine Ev.congr (fun k => ?_) key
    unfold laws_toInsS.f
    rw [if_pos (by omega), if_pos (by omega)]
    simp
  · intro i hi ih
    refine evSucc ?_
    simp only [laws_toInsS.l0]
    refine evPos (by omega) (evPos (by omega) ?_)
    simp only [laws_toIns.f, Option.bind_some, rdLI l i hi]
    refine evPos (by simp; omega) ?_
    rw [w64 (by omega) (by omega), ci, Int.toNat_natCast]
    rw [show (⟨l[i].f0, l[i].f1, l[i].f2, l[i].f3⟩ : S70) = cvIns l[i] from rfl, fillStep cvIns _ l i hi]
    exact ih
  · refine evSucc ?_
    simp only [laws_toInsS.l0]
    refine evNeg (by omega) ?_
    simp
    exact Ev.now _
theorem ev_eqInsS (l : List S70) (hl : l.length ≤ 1048576) : Ev (fun k => laws_eqInsS.f k l l) true := by
  have key := evUp (r := true) l.length (fun i k => laws_eqInsS.l0 k l l (i : Int)) ?_ ?_
  · refine Ev.congr (fun k => ?_) key
    unfold laws_eqInsS.f
    rw [if_pos rfl]
    rfl
  · intro i hi ih
    refine evSucc ?_
    simp only [laws_eqInsS.l0]
    refine evPos (by omega) (evPos (by omega) (evPos (by omega) ?_))
    simp only [laws_eqIns.f, if_true, Option.bind_some]
    rw [w64 (by omega) (by omega), ci]
    exact ih
  · refine evSucc ?_
    simp only [laws_eqInsS.l0]
    exact evNeg (by omega) (Ev.now _)
theorem szInsS_small (l : List S72) (h : l.length ≤ 1048576) : laws_szInsS.f l 1048576 = some (1048576 - (l.length : Int)) := by
  unfold laws_szInsS.f
  rw [w64 (by omega) (by omega), if_neg (by omega)]
theorem szInsS_big (l : List S72) (h : 1048576 < l.length) (hb : l.length ≤ 9223372036854775807) : laws_szInsS.f l 1048576 = some (-1) := by
  unfold laws_szInsS.f
  rw [w64 (by omega) (by omega), if_pos (by omega)]
theorem insLine_size (op k y n : Int) : (insLine op k y n).size ≤ 68 := by
  unfold insLine
  split
  · rename_i h
    obtain ⟨o1, o2, k1, k2, y1, y2, n1, n2⟩ := okIns_facts h
    have so := opName_size op
    have sk := decI_size k (by omega) (by omega)
    have sy := decI_size y (by omega) (by omega)
    have sn := decI_size n (by omega) (by omega)
    split
    · simp only [sizeApp, one32]; omega
    · simp only [sizeApp, one32]; omega
  · decide
def lsStep (s : ByteArray) (x : S70) : ByteArray := (s ++ insLine x.f0 x.f1 x.f2 x.f3) ++ (⟨#[10]⟩ : ByteArray)
def lsAll (l : List S70) : ByteArray := l.foldl lsStep ⟨#[]⟩
theorem one10 : (⟨#[10]⟩ : ByteArray).size = 1 := rfl
theorem ls_size (l : List S70) : (lsAll l).size ≤ 69 * l.length := by
  have key : ∀ (l : List S70) (s : ByteArray), (l.foldl lsStep s).size ≤ s.size + 69 * l.length := by
    intro l
    induction l with
    | nil => intro s; simp
    | cons w l ih =>
      intro s
      rw [List.foldl_cons]
      have h1 := ih (lsStep s w)
      have h2 := insLine_size w.f0 w.f1 w.f2 w.f3
      have h3 : (lsStep s w).size ≤ s.size + 69 := by unfold lsStep; simp only [sizeApp, one10]; omega
      simp only [List.length_cons]
      omega
  have h := key l ⟨#[]⟩
  have h0 : (⟨#[]⟩ : ByteArray).size = 0 := rfl
  unfold lsAll
  omega
theorem ls_step (l : List S70) (i : Nat) (hi : i < l.length) : lsAll (l.take (i + 1)) = lsStep (lsAll (l.take i)) l[i] := by
  unfold lsAll
  rw [takeSnoc l i hi, List.foldl_append]
  rfl
theorem ev_spec_Listing (l : List S70) (hl : l.length ≤ 1048576) : Ev (fun k => spec_Listing.f k l) (lsAll l) := by
  have key := evUp (r := lsAll l) l.length (fun i k => spec_Listing.l0 k l (lsAll (l.take i)) (i : Int)) ?_ ?_
  · exact key
  · intro i hi ih
    have hs := ls_size (l.take i)
    have hln : (l.take i).length ≤ i := by simp; omega
    have h2 := insLine_size l[i].f0 l[i].f1 l[i].f2 l[i].f3
    refine evSucc ?_
    simp only [spec_Listing.l0]
    refine evPos (by omega) (evPos (by omega) ?_)
    rw [rdI l i hi, w64 (by omega) (by omega), ci]
    refine Ev.bind (ev_spec_ShowIns _ _ _ _) (evPos (by omega) (evPos (by rw [sizeApp]; omega) ?_))
    have := ls_step l i hi
    unfold lsStep at this
    rw [← this]
    exact ih
  · refine evSucc ?_
    simp only [spec_Listing.l0]
    refine evNeg (by omega) ?_
    rw [List.take_length]
    exact Ev.now _
theorem ev_impl_Listing (l : List S70) (hl : l.length ≤ 1048576) : Ev (fun k => impl_Listing.f k l) (lsAll l) := by
  have key := evUp (r := lsAll l) l.length (fun i k => impl_Listing.l0 k (lsAll (l.take i)) l (l.length : Int) (i : Int)) ?_ ?_
  · exact key
  · intro i hi ih
    have hs := ls_size (l.take i)
    have hln : (l.take i).length ≤ i := by simp; omega
    have h2 := insLine_size l[i].f0 l[i].f1 l[i].f2 l[i].f3
    refine evSucc ?_
    simp only [impl_Listing.l0]
    refine evPos (by omega) (evPos (by omega) (evPos (by omega) ?_))
    rw [rdI l i hi, w64 (by omega) (by omega), ci]
    refine Ev.bind (ev_impl_ShowIns _ _ _ _) (evPos (by omega) (evPos (by rw [sizeApp]; omega) ?_))
    have := ls_step l i hi
    unfold lsStep at this
    rw [← this]
    exact ih
  · refine evSucc ?_
    simp only [impl_Listing.l0]
    refine evNeg (by omega) ?_
    rw [List.take_length]
    exact Ev.now _
theorem FnExactListing : PureFnExactListing.Stated := by
  intro l ⟨_, hb⟩
  refine Ev.rounds ?_
  simp only [laws_FnExactListing.f]
  by_cases h : l.length ≤ 1048576
  · rw [szInsS_small l h]
    simp only [Option.bind_some]
    refine evNeg (by omega) ?_
    have hm : (l.map cvIns).length ≤ 1048576 := by simpa using h
    refine Ev.bind (ev_toInsS l h) (Ev.bind (ev_spec_Listing _ hm) (Ev.bind (ev_toInsS l h) (Ev.bind (ev_impl_Listing _ hm) ?_)))
    refine evPos rfl (Ev.bind (ev_toInsS l h) (Ev.bind (ev_eqInsS _ hm) ?_))
    exact evPos rfl (Ev.now _)
  · rw [szInsS_big l (by omega) hb]
    simp only [Option.bind_some]
    exact evPos (by omega) (Ev.now _)

end Go.Proofs.Ytdedmdgegcnnpaa.Pure

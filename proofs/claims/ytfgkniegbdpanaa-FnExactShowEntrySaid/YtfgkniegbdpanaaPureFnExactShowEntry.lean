/- The plain proof of the law FnExactShowEntry: the plain functions that the program and the reference come to answer alike. No condition. -/
import Derived.Test.YtfgkniegbdpanaaKit
import Derived.Test.YtfgkniegbdpanaaPAx9
import Derived.Test.YtfgkniegbdpanaaStFnExactShowEntry
namespace Go.Proofs.Ytfgkniegbdpanaa.Pure
open Go.RowKit Go.Proofs.Ytfgkniegbdpanaa.PA Go.Proofs.YtfgkniegbdpanaaW.PrintWords Go.Proofs.YtfgkniegbdpanaaW.PrintLast Go.Proofs.YtfgkniegbdpanaaW.PrintMore Go.Proofs.Ytfgkniegbdpanaa.Kit Go.Proofs.Ytfgkniegbdpanaa.PureFnExactShowEntry
set_option linter.unusedVariables false
set_option linter.unusedSimpArgs false
/-! figures of a number -/
def dg (n : Nat) : ByteArray := ⟨#[UInt8.ofNat (48 + n % 10)]⟩
def decz (n : Nat) : ByteArray := if h : n = 0 then ⟨#[]⟩ else decz (n / 10) ++ dg n
  termination_by n
  decreasing_by omega
def dec (n : Nat) : ByteArray := if n = 0 then dg 0 else decz n
theorem dg_size (n : Nat) : (dg n).size = 1 := rfl
theorem decz_zero : decz 0 = ⟨#[]⟩ := by rw [decz]; rfl
theorem decz_step (n : Nat) (h : n ≠ 0) : decz n = decz (n / 10) ++ dg n := by rw [decz, dif_neg h]
theorem dec_small (n : Nat) (h : n < 10) : dec n = dg n := by
  unfold dec
  by_cases h0 : n = 0
  · rw [if_pos h0, h0]
  · rw [if_neg h0, decz_step n h0, show n / 10 = 0 by omega, decz_zero]
    exact ByteArray.empty_append
theorem dec_step (n : Nat) (h : 9 < n) : dec n = dec (n / 10) ++ dg n := by
  unfold dec
  rw [if_neg (by omega), if_neg (by omega), decz_step n (by omega)]
theorem decz_size (n : Nat) : (decz n).size ≤ n := by
  induction n using Nat.strongRecOn with
  | ind n ih =>
    by_cases h : n = 0
    · rw [h, decz_zero]; exact Nat.le_refl _
    · rw [decz_step n h, sizeApp, dg_size]
      have := ih (n / 10) (by omega)
      omega
theorem dec_size_lt : ∀ (k n : Nat), 0 < k → n < 10 ^ k → (dec n).size ≤ k := by
  intro k
  induction k with
  | zero => intro n h; omega
  | succ k ih =>
    intro n _ hn
    by_cases h : n < 10
    · rw [dec_small n h, dg_size]; omega
    · rw [dec_step n (by omega), sizeApp, dg_size]
      have hk : 0 < k := by
        rcases Nat.eq_zero_or_pos k with h0 | h0
        · subst h0; omega
        · exact h0
      have := ih (n / 10) hk (by rw [Nat.pow_succ] at hn; omega)
      omega
theorem dec_size (n : Nat) (h : n ≤ 9223372036854775808) : (dec n).size ≤ 19 := dec_size_lt 19 n (by omega) (by omega)
theorem dg_of (x : Int) (h0 : 0 ≤ x) (h1 : x ≤ 9) : strOfNums [(48 + x) % 256] = dg x.toNat := by
  unfold strOfNums dg
  rw [show ((48 + x) % 256) = 48 + x by omega]
  simp only [List.map_cons, List.map_nil]
  rw [show (48 + x).toNat = 48 + x.toNat % 10 by omega]
theorem ev_l08 : ∀ (m : Nat) (x : Int) (out : ByteArray), x.toNat = m → 0 ≤ x → x ≤ 9223372036854775807 → out.size + m ≤ 9223372036854775807 → out.size < 9223372036854775807 →
    Ev (fun k => spec_l08Figures.l0 k x out) (dec x.toNat ++ out) := by
  intro m
  induction m using Nat.strongRecOn with
  | ind m ih =>
    intro x out hm h0 h1 hs hs1
    refine evSucc ?_
    simp only [spec_l08Figures.l0, Option.bind_some]
    by_cases h : x > 9
    · refine evPos h ?_
      rw [Int.tmod_eq_emod_of_nonneg h0, Int.tdiv_eq_ediv_of_nonneg h0, w64 (x := 48 + x % 10) (by omega) (by omega), dg_of (x % 10) (by omega) (by omega), w64 (by omega) (by omega)]
      rw [show dg (x % 10).toNat = dg x.toNat by unfold dg; rw [show (x % 10).toNat % 10 = x.toNat % 10 by omega]]
      refine evPos (by rw [dg_size]; omega) ?_
      have := ih (x / 10).toNat (by omega) (x / 10) (dg x.toNat ++ out) rfl (by omega) (by omega) (by rw [sizeApp, dg_size]; omega) (by rw [sizeApp, dg_size]; omega)
      rw [show (x / 10).toNat = x.toNat / 10 by omega, ← ByteArray.append_assoc, ← dec_step x.toNat (by omega)] at this
      exact this
    · refine evNeg h ?_
      rw [w64 (x := 48 + x) (by omega) (by omega), dg_of x h0 (by omega), ← dec_small x.toNat (by omega)]
      exact evPos (by rw [dec_small x.toNat (by omega), dg_size]; omega) (Ev.now _)
def num0 (x : Int) : ByteArray := dec x.toNat
theorem num0_size (x : Int) (h : x ≤ 9223372036854775807) : (num0 x).size ≤ 19 := dec_size _ (by omega)
theorem ev_spec_l29Num (x : Int) (h1 : x ≤ 9223372036854775807) : Ev (fun k => spec_l29Num.f k x) (num0 x) := by
  unfold num0
  simp only [spec_l29Num.f]
  by_cases h : x < 0
  · refine evPos h (evEq (Ev.now _) ?_)
    rw [show x.toNat = 0 by omega]
    rfl
  · refine evNeg h ?_
    refine Ev.bind (a := dec x.toNat) ?_ (Ev.now _)
    simp only [spec_l08Figures.f]
    refine evNeg h (evSucc ?_)
    simp only [spec_l08Figures.j0]
    exact evEq (ev_l08 _ x _ rfl (by omega) h1 (by show 0 + x.toNat ≤ _; omega) (by show 0 < _; omega)) ByteArray.append_empty
theorem fig_at (d : Nat) (h : d < 10) : (⟨#[48, 49, 50, 51, 52, 53, 54, 55, 56, 57, 97, 98, 99, 100, 101, 102]⟩ : ByteArray).extract d (d + 1) = dg d := by
  have : d = 0 ∨ d = 1 ∨ d = 2 ∨ d = 3 ∨ d = 4 ∨ d = 5 ∨ d = 6 ∨ d = 7 ∨ d = 8 ∨ d = 9 := by omega
  rcases this with rfl | rfl | rfl | rfl | rfl | rfl | rfl | rfl | rfl | rfl <;> decide
def sgn (x : Int) (s : ByteArray) : ByteArray := if x < 0 then ⟨#[45]⟩ ++ s else s
theorem tmod_abs (m : Int) (h0 : -9223372036854775808 ≤ m) (h1 : m ≤ 9223372036854775807) : mx (Int.tmod m 10) (wrap64 (-(Int.tmod m 10))) = ((m.natAbs % 10 : Nat) : Int) := by
  rcases Int.natAbs_eq m with h | h
  · rw [h, Int.tmod_eq_emod_of_nonneg (by omega), w64 (by omega) (by omega)]
    unfold mx
    split <;> omega
  · rw [h, Int.neg_tmod, Int.tmod_eq_emod_of_nonneg (by omega), w64 (by omega) (by omega)]
    unfold mx
    split <;> omega
theorem tdiv_abs (m : Int) : (Int.tdiv m 10).natAbs = m.natAbs / 10 := by
  rw [Int.natAbs_tdiv]
  rfl
theorem ev_impl_dec : ∀ (j : Nat) (x m : Int) (out : ByteArray), m.natAbs < 10 ^ j → -9223372036854775808 ≤ m → m ≤ 9223372036854775807 → out.size + j ≤ 1000 →
    Ev (fun k => impl_Decimal.l0 k x out m) (sgn x (decz m.natAbs ++ out)) := by
  intro j
  induction j with
  | zero =>
    intro x m out hm h0 h1 hs
    refine evSucc ?_
    simp only [impl_Decimal.l0]
    obtain rfl : m = 0 := by rw [Nat.pow_zero] at hm; omega
    refine evPos rfl ?_
    rw [show (0 : Int).natAbs = 0 from rfl, decz_zero, show (⟨#[]⟩ : ByteArray) ++ out = out from ByteArray.empty_append]
    unfold sgn
    by_cases hx : x < 0
    · exact evPos hx (evPos (by omega) (evEq (Ev.now _) (if_pos hx).symm))
    · exact evNeg hx (evEq (Ev.now _) (if_neg hx).symm)
  | succ j ih =>
    intro x m out hm h0 h1 hs
    by_cases h : m = 0
    · subst h
      exact ih x 0 out (Nat.pow_pos (by omega)) h0 h1 (by omega)
    · refine evSucc ?_
      simp only [impl_Decimal.l0]
      refine evNeg h ?_
      rw [tmod_abs m h0 h1, w64 (x := ((m.natAbs % 10 : Nat) : Int) + 1) (by omega) (by omega)]
      refine evPos (by omega) (evPos (by omega) (evPos (by omega) ?_))
      rw [ci, Int.toNat_natCast, Int.toNat_natCast, fig_at _ (by omega)]
      rw [show dg (m.natAbs % 10) = dg m.natAbs by unfold dg; rw [Nat.mod_mod]]
      have ht := tdiv_abs m
      refine evPos (by rw [dg_size]; omega) ?_
      rw [w64 (by omega) (by omega)]
      have := ih x (Int.tdiv m 10) (dg m.natAbs ++ out) (by rw [ht, Nat.div_lt_iff_lt_mul (by omega), ← Nat.pow_succ]; exact hm) (by omega) (by omega) (by rw [sizeApp, dg_size]; omega)
      rw [ht, ← ByteArray.append_assoc, ← decz_step m.natAbs (by omega)] at this
      exact this
def decI (x : Int) : ByteArray := if x < 0 then ⟨#[45]⟩ ++ dec x.natAbs else dec x.natAbs
theorem decI_size (x : Int) (h0 : -9223372036854775808 ≤ x) (h1 : x ≤ 9223372036854775807) : (decI x).size ≤ 20 := by
  have := dec_size x.natAbs (by omega)
  unfold decI
  split
  · rw [sizeApp]; show 1 + _ ≤ _; omega
  · omega
theorem ev_impl_Decimal (x : Int) (h0 : -9223372036854775808 ≤ x) (h1 : x ≤ 9223372036854775807) : Ev (fun k => impl_Decimal.f k x) (decI x) := by
  simp only [impl_Decimal.f]
  by_cases h : x = 0
  · refine evPos h (evEq (Ev.now _) ?_)
    subst h
    rfl
  · refine evNeg h (evEq (ev_impl_dec 19 x x _ (by omega) h0 h1 (by show 0 + 19 ≤ _; omega)) ?_)
    rw [show decz x.natAbs ++ (⟨#[]⟩ : ByteArray) = decz x.natAbs from ByteArray.append_empty]
    unfold sgn decI dec
    rw [if_neg (by omega : ¬ x.natAbs = 0)]
theorem ev_impl_shown (x : Int) (h0 : -9223372036854775808 ≤ x) (h1 : x ≤ 9223372036854775807) : Ev (fun k => impl_shown.f k x) (num0 x) := by
  simp only [impl_shown.f]
  have hm : 0 ≤ mx 0 x ∧ mx 0 x ≤ 9223372036854775807 ∧ (mx 0 x).natAbs = x.toNat := by unfold mx; split <;> omega
  refine Ev.bind (ev_impl_Decimal (mx 0 x) (by omega) (by omega)) (evEq (Ev.now _) ?_)
  unfold decI num0
  rw [if_neg (by omega), hm.2.2]
def entryLine (a b c d e f : Int) : ByteArray :=
  if c = 2 then ((((((⟨#[112]⟩ : ByteArray) ++ num0 a) ++ (⟨#[35]⟩ : ByteArray)) ++ num0 b) ++ (⟨#[32, 103, 97, 112, 32]⟩ : ByteArray)) ++ num0 f) ++ (⟨#[10]⟩ : ByteArray)
  else ((((((((⟨#[112]⟩ : ByteArray) ++ num0 a) ++ (⟨#[35]⟩ : ByteArray)) ++ num0 b) ++ (⟨#[32, 99, 97, 108, 108, 32]⟩ : ByteArray)) ++ num0 d) ++ (⟨#[32]⟩ : ByteArray)) ++ num0 e) ++ (⟨#[10]⟩ : ByteArray)
theorem one112 : (⟨#[112]⟩ : ByteArray).size = 1 := rfl
theorem one35 : (⟨#[35]⟩ : ByteArray).size = 1 := rfl
theorem one32 : (⟨#[32]⟩ : ByteArray).size = 1 := rfl
theorem fiveGap : (⟨#[32, 103, 97, 112, 32]⟩ : ByteArray).size = 5 := rfl
theorem sixCall : (⟨#[32, 99, 97, 108, 108, 32]⟩ : ByteArray).size = 6 := rfl
theorem ev_spec_ShowEntry (a b c d e f : Int) (ha : a ≤ 9223372036854775807) (hb : b ≤ 9223372036854775807) (hd : d ≤ 9223372036854775807) (he : e ≤ 9223372036854775807) (hf : f ≤ 9223372036854775807) :
    Ev (fun k => spec_ShowEntry.f k a b c d e f) (entryLine a b c d e f) := by
  have sa := num0_size a ha
  have sb := num0_size b hb
  have sd := num0_size d hd
  have se := num0_size e he
  have sf := num0_size f hf
  unfold entryLine
  simp only [spec_ShowEntry.f]
  refine Ev.bind (ev_spec_l29Num a ha) (evPos (by omega) (evPos (by simp only [sizeApp, one112]; omega) ?_))
  refine Ev.bind (ev_spec_l29Num b hb) (evPos (by simp only [sizeApp, one112, one35]; omega) ?_)
  by_cases h : c = 2
  · rw [if_pos h]
    refine evPos h (evPos (by simp only [sizeApp, one112, one35]; omega) ?_)
    refine Ev.bind (ev_spec_l29Num f hf) (evPos (by simp only [sizeApp, one112, one35, fiveGap]; omega) (evPos (by simp only [sizeApp, one112, one35, fiveGap]; omega) ?_))
    exact Ev.now _
  · rw [if_neg h]
    refine evNeg h (evPos (by simp only [sizeApp, one112, one35]; omega) ?_)
    refine Ev.bind (ev_spec_l29Num d hd) (evPos (by simp only [sizeApp, one112, one35, sixCall]; omega) (evPos (by simp only [sizeApp, one112, one35, sixCall]; omega) ?_))
    refine Ev.bind (ev_spec_l29Num e he) (evPos (by simp only [sizeApp, one112, one35, one32, sixCall]; omega) (evPos (by simp only [sizeApp, one112, one35, one32, sixCall]; omega) ?_))
    exact Ev.now _
theorem ev_impl_ShowEntry (a b c d e f : Int) (ha0 : -9223372036854775808 ≤ a) (hb0 : -9223372036854775808 ≤ b) (hd0 : -9223372036854775808 ≤ d) (he0 : -9223372036854775808 ≤ e) (hf0 : -9223372036854775808 ≤ f)
    (ha : a ≤ 9223372036854775807) (hb : b ≤ 9223372036854775807) (hd : d ≤ 9223372036854775807) (he : e ≤ 9223372036854775807) (hf : f ≤ 9223372036854775807) :
    Ev (fun k => impl_ShowEntry.f k a b c d e f) (entryLine a b c d e f) := by
  have sa := num0_size a ha
  have sb := num0_size b hb
  have sd := num0_size d hd
  have se := num0_size e he
  have sf := num0_size f hf
  unfold entryLine
  simp only [impl_ShowEntry.f]
  refine Ev.bind (ev_impl_shown a ha0 ha) (evPos (by omega) (evPos (by simp only [sizeApp, one112]; omega) ?_))
  refine Ev.bind (ev_impl_shown b hb0 hb) (evPos (by simp only [sizeApp, one112, one35]; omega) ?_)
  by_cases h : c = 2
  · rw [if_pos h]
    refine evPos h (evPos (by simp only [sizeApp, one112, one35]; omega) ?_)
    refine Ev.bind (ev_impl_shown f hf0 hf) (evPos (by simp only [sizeApp, one112, one35, fiveGap]; omega) (evPos (by simp only [sizeApp, one112, one35, fiveGap]; omega) ?_))
    exact Ev.now _
  · rw [if_neg h]
    refine evNeg h (evPos (by simp only [sizeApp, one112, one35]; omega) ?_)
    refine Ev.bind (ev_impl_shown d hd0 hd) (evPos (by simp only [sizeApp, one112, one35, sixCall]; omega) (evPos (by simp only [sizeApp, one112, one35, sixCall]; omega) ?_))
    refine Ev.bind (ev_impl_shown e he0 he) (evPos (by simp only [sizeApp, one112, one35, one32, sixCall]; omega) (evPos (by simp only [sizeApp, one112, one35, one32, sixCall]; omega) ?_))
    exact Ev.now _
theorem FnExactShowEntry : PureFnExactShowEntry.Stated := by
  intro x ⟨ha, hb, hc, hd, he, hf⟩
  have ha := okI64 ha
  have hb := okI64 hb
  have hd := okI64 hd
  have he := okI64 he
  have hf := okI64 hf
  refine Ev.rounds ?_
  simp only [laws_FnExactShowEntry.f, laws_toEntry.f, laws_toItem.f, Option.bind_some]
  refine Ev.bind (ev_spec_ShowEntry _ _ _ _ _ _ ha.2 hb.2 hd.2 he.2 hf.2) (Ev.bind (ev_impl_ShowEntry _ _ _ _ _ _ ha.1 hb.1 hd.1 he.1 hf.1 ha.2 hb.2 hd.2 he.2 hf.2) ?_)
  exact evPos rfl (Ev.now _)

end Go.Proofs.Ytfgkniegbdpanaa.Pure

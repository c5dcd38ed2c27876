/- Contracts of functions of the program and of the reference, and plain lemmas on what they compute: a part of the proof of the law FnExactShowWorld. No condition. -/
import Derived.Test.YtcbjlcgfhbfneaaGreatDoorJFnExactShowWorld10
import Derived.Test.YtcbjlcgfhbfneaaGreatDoorRows
import Derived.WalkKit
import Derived.ProofKit
import Derived.OpenShut
import Derived.ShutString
import Derived.ChangeOld
import Derived.Below
import Derived.SizedLaws
import Derived.Carry
import Derived.LaidLaws
import Derived.LaidMore
import Derived.MakeChecks
import Derived.Stop.Joined
import Derived.ChangeVars
import Derived.Lib.LaidTab
import Derived.Test.YtcbjlcgfhbfneaaGreatDoorCards
import Derived.Test.YtcbjlcgfhbfneaaGreatDoorTie
import Derived.SevenTiedAt
import Derived.Test.YtcbjlcgfhbfneaaGreatDoorShortV
namespace Go.Proofs.YtcbjlcgfhbfneaaGreatDoor.Pure
open Go.RowKit Go.Proofs.YtcbjlcgfhbfneaaGreatDoor.PA Go.Proofs.YtcbjlcgfhbfneaaGreatDoorW.PrintWords Go.Proofs.YtcbjlcgfhbfneaaGreatDoorW.PrintLast Go.Proofs.YtcbjlcgfhbfneaaGreatDoorW.PrintMore Go.Proofs.YtcbjlcgfhbfneaaGreatDoor.Kit Go.Proofs.YtcbjlcgfhbfneaaGreatDoor.PureFnExactShowWorld
set_option linter.unusedVariables false
set_option linter.unusedSimpArgs false
def dg (n : Nat) : ByteArray := ⟨#[UInt8.ofNat (48 + n % 10)]⟩
def decz (n : Nat) : ByteArray := if h : n = 0 then ⟨#[]⟩ else decz (n / 10) ++ dg n
 termination_by n
 decreasing_by omega
def dec (n : Nat) : ByteArray := if n = 0 then dg 0 else decz n
theorem dg_size (n : Nat) : (dg n).size = 1 := rfl
theorem decz_zero : decz 0 = ⟨#[]⟩ := by rw [decz]; rfl
theorem decz_step (n : Nat) (h : n ≠ 0) : decz n = decz (n / 10) ++ dg n := by rw [decz, dif_neg h]
theorem dec_small (n : Nat) (h : n < 10) : dec n = dg n := by
 unfold dec
 by_cases h0 : n = 0
 ·rw [if_pos h0, h0]
 ·rw [if_neg h0, decz_step n h0, show n / 10 = 0 by omega, decz_zero]
  exact ByteArray.empty_append
theorem dec_step (n : Nat) (h : 9 < n) : dec n = dec (n / 10) ++ dg n := by
 unfold dec
 rw [if_neg (by omega), if_neg (by omega), decz_step n (by omega)]
theorem dec_size_lt : ∀ (k n : Nat), 0 < k → n < 10 ^ k → (dec n).size ≤ k := by
 intro k
 induction k with
 | zero => intro n h; omega
 | succ k ih =>
  intro n _ hn
  by_cases h : n < 10
  ·rw [dec_small n h, dg_size]; omega
  ·rw [dec_step n (by omega), sizeApp, dg_size]
   have hk : 0 < k := by
    rcases Nat.eq_zero_or_pos k with h0 | h0
    ·subst h0; omega
    ·exact h0
   have := ih (n / 10) hk (by rw [Nat.pow_succ] at hn; omega)
   omega
theorem dec_size (n : Nat) (h : n ≤ 9223372036854775808) : (dec n).size ≤ 19 := dec_size_lt 19 n (by omega) (by omega)
theorem dg_of (x : Int) (h0 : 0 ≤ x) (h1 : x ≤ 9) : strOfNums [(48 + x) % 256] = dg x.toNat := by
 unfold strOfNums dg
 rw [show ((48 + x) % 256) = 48 + x by omega]
 simp only [List.map_cons, List.map_nil]
 rw [show (48 + x).toNat = 48 + x.toNat % 10 by omega]
theorem ev_l08 : ∀ (m : Nat) (x : Int) (out : ByteArray), x.toNat = m → 0 ≤ x → x ≤ 9223372036854775807 → out.size + m ≤ 9223372036854775807 → out.size < 9223372036854775807 →
 Ev (fun k => spec_l08Figures.l0 k x out) (dec x.toNat ++ out) := by
 intro m
 induction m using Nat.strongRecOn with
 | ind m ih =>
  intro x out hm h0 h1 hs hs1
  refine evSucc ?_
  simp only [spec_l08Figures.l0, Option.bind_some]
  by_cases h : x > 9
  ·refine evPos h ?_
   rw [Int.tmod_eq_emod_of_nonneg h0, Int.tdiv_eq_ediv_of_nonneg h0, w64 (x := 48 + x % 10) (by omega) (by omega), dg_of (x % 10) (by omega) (by omega), w64 (by omega) (by omega)]
   rw [show dg (x % 10).toNat = dg x.toNat by unfold dg; rw [show (x % 10).toNat % 10 = x.toNat % 10 by omega]]
   refine evPos (by rw [dg_size]; omega) ?_
   have := ih (x / 10).toNat (by omega) (x / 10) (dg x.toNat ++ out) rfl (by omega) (by omega) (by rw [sizeApp, dg_size]; omega) (by rw [sizeApp, dg_size]; omega)
   rw [show (x / 10).toNat = x.toNat / 10 by omega, ← ByteArray.append_assoc, ← dec_step x.toNat (by omega)] at this
   exact this
  ·refine evNeg h ?_
   rw [w64 (x := 48 + x) (by omega) (by omega), dg_of x h0 (by omega), ← dec_small x.toNat (by omega)]
   exact evPos (by rw [dec_small x.toNat (by omega), dg_size]; omega) (Ev.now _)
def num0 (x : Int) : ByteArray := dec x.toNat
theorem num0_size (x : Int) (h : x ≤ 9223372036854775807) : (num0 x).size ≤ 19 := dec_size _ (by omega)
theorem ev_spec_l29Num (x : Int) (h1 : x ≤ 9223372036854775807) : Ev (fun k => spec_l29Num.f k x) (num0 x) := by
 unfold num0
 simp only [spec_l29Num.f]
 by_cases h : x < 0
 ·refine evPos h (evEq (Ev.now _) ?_)
  rw [show x.toNat = 0 by omega]
  rfl
 ·refine evNeg h ?_
  refine Ev.bind (a := dec x.toNat) ?_ (Ev.now _)
  simp only [spec_l08Figures.f]
  refine evNeg h (evSucc ?_)
  simp only [spec_l08Figures.j0]
  exact evEq (ev_l08 _ x _ rfl (by omega) h1 (by show 0 + x.toNat ≤ _; omega) (by show 0 < _; omega)) ByteArray.append_empty
theorem fig_at (d : Nat) (h : d < 10) : (⟨#[48, 49, 50, 51, 52, 53, 54, 55, 56, 57, 97, 98, 99, 100, 101, 102]⟩ : ByteArray).extract d (d + 1) = dg d := by
 have : d = 0 ∨ d = 1 ∨ d = 2 ∨ d = 3 ∨ d = 4 ∨ d = 5 ∨ d = 6 ∨ d = 7 ∨ d = 8 ∨ d = 9 := by omega
 rcases this with rfl | rfl | rfl | rfl | rfl | rfl | rfl | rfl | rfl | rfl <;> decide
def sgn (x : Int) (s : ByteArray) : ByteArray := if x < 0 then ⟨#[45]⟩ ++ s else s
theorem tmod_abs (m : Int) (h0 : -9223372036854775808 ≤ m) (h1 : m ≤ 9223372036854775807) : mx (Int.tmod m 10) (wrap64 (-(Int.tmod m 10))) = ((m.natAbs % 10 : Nat) : Int) := by
 rcases Int.natAbs_eq m with h | h
 ·rw [h, Int.tmod_eq_emod_of_nonneg (by omega), w64 (by omega) (by omega)]
  unfold mx
  split <;> omega
 ·rw [h, Int.neg_tmod, Int.tmod_eq_emod_of_nonneg (by omega), w64 (by omega) (by omega)]
  unfold mx
  split <;> omega
theorem tdiv_abs (m : Int) : (Int.tdiv m 10).natAbs = m.natAbs / 10 := by
 rw [Int.natAbs_tdiv]
 rfl
theorem ev_impl_dec : ∀ (j : Nat) (x m : Int) (out : ByteArray), m.natAbs < 10 ^ j → -9223372036854775808 ≤ m → m ≤ 9223372036854775807 → out.size + j ≤ 1000 →
 Ev (fun k => impl_Decimal.l0 k x out m) (sgn x (decz m.natAbs ++ out)) := by
 intro j
 induction j with
 | zero =>
  intro x m out hm h0 h1 hs
  refine evSucc ?_
  simp only [impl_Decimal.l0]
  obtain rfl : m = 0 := by rw [Nat.pow_zero] at hm; omega
  refine evPos rfl ?_
  rw [show (0 : Int).natAbs = 0 from rfl, decz_zero, show (⟨#[]⟩ : ByteArray) ++ out = out from ByteArray.empty_append]
  unfold sgn
  by_cases hx : x < 0
  ·exact evPos hx (evPos (by omega) (evEq (Ev.now _) (if_pos hx).symm))
  ·exact evNeg hx (evEq (Ev.now _) (if_neg hx).symm)
 | succ j ih =>
  intro x m out hm h0 h1 hs
  by_cases h : m = 0
  ·subst h
   exact ih x 0 out (Nat.pow_pos (by omega)) h0 h1 (by omega)
  ·refine evSucc ?_
   simp only [impl_Decimal.l0]
   refine evNeg h ?_
   rw [tmod_abs m h0 h1, w64 (x := ((m.natAbs % 10 : Nat) : Int) + 1) (by omega) (by omega)]
   refine evPos (by omega) (evPos (by omega) (evPos (by omega) ?_))
   rw [ci, Int.toNat_natCast, Int.toNat_natCast, fig_at _ (by omega)]
   rw [show dg (m.natAbs % 10) = dg m.natAbs by unfold dg; rw [Nat.mod_mod]]
   have ht := tdiv_abs m
   refine evPos (by rw [dg_size]; omega) ?_
   rw [w64 (by omega) (by omega)]
   have := ih x (Int.tdiv m 10) (dg m.natAbs ++ out) (by rw [ht, Nat.div_lt_iff_lt_mul (by omega), ← Nat.pow_succ]; exact hm) (by omega) (by omega) (by rw [sizeApp, dg_size]; omega)
   rw [ht, ← ByteArray.append_assoc, ← decz_step m.natAbs (by omega)] at this
   exact this
def decI (x : Int) : ByteArray := if x < 0 then ⟨#[45]⟩ ++ dec x.natAbs else dec x.natAbs
theorem ev_impl_Decimal (x : Int) (h0 : -9223372036854775808 ≤ x) (h1 : x ≤ 9223372036854775807) : Ev (fun k => impl_Decimal.f k x) (decI x) := by
 simp only [impl_Decimal.f]
 by_cases h : x = 0
 ·refine evPos h (evEq (Ev.now _) ?_)
  subst h
  rfl
 ·refine evNeg h (evEq (ev_impl_dec 19 x x _ (by omega) h0 h1 (by show 0 + 19 ≤ _; omega)) ?_)
  rw [show decz x.natAbs ++ (⟨#[]⟩ : ByteArray) = decz x.natAbs from ByteArray.append_empty]
  unfold sgn decI dec
  rw [if_neg (by omega : ¬ x.natAbs = 0)]
theorem ev_impl_shown (x : Int) (h0 : -9223372036854775808 ≤ x) (h1 : x ≤ 9223372036854775807) : Ev (fun k => impl_shown.f k x) (num0 x) := by
 simp only [impl_shown.f]
 have hm : 0 ≤ mx 0 x ∧ mx 0 x ≤ 9223372036854775807 ∧ (mx 0 x).natAbs = x.toNat := by unfold mx; split <;> omega
 refine Ev.bind (ev_impl_Decimal (mx 0 x) (by omega) (by omega)) (evEq (Ev.now _) ?_)
 unfold decI num0
 rw [if_neg (by omega), hm.2.2]
def entryLine (a b c d e f : Int) : ByteArray :=
 if c = 2 then ((((((⟨#[112]⟩ : ByteArray) ++ num0 a) ++ (⟨#[35]⟩ : ByteArray)) ++ num0 b) ++ (⟨#[32, 103, 97, 112, 32]⟩ : ByteArray)) ++ num0 f) ++ (⟨#[10]⟩ : ByteArray)
 else ((((((((⟨#[112]⟩ : ByteArray) ++ num0 a) ++ (⟨#[35]⟩ : ByteArray)) ++ num0 b) ++ (⟨#[32, 99, 97, 108, 108, 32]⟩ : ByteArray)) ++ num0 d) ++ (⟨#[32]⟩ : ByteArray)) ++ num0 e) ++ (⟨#[10]⟩ : ByteArray)
theorem one112 : (⟨#[112]⟩ : ByteArray).size = 1 := rfl
theorem one35 : (⟨#[35]⟩ : ByteArray).size = 1 := rfl
theorem one32 : (⟨#[32]⟩ : ByteArray).size = 1 := rfl
theorem fiveGap : (⟨#[32, 103, 97, 112, 32]⟩ : ByteArray).size = 5 := rfl
theorem sixCall : (⟨#[32, 99, 97, 108, 108, 32]⟩ : ByteArray).size = 6 := rfl
theorem ev_spec_ShowEntry (a b c d e f : Int) (ha : a ≤ 9223372036854775807) (hb : b ≤ 9223372036854775807) (hd : d ≤ 9223372036854775807) (he : e ≤ 9223372036854775807) (hf : f ≤ 9223372036854775807) :
 Ev (fun k => spec_ShowEntry.f k a b c d e f) (entryLine a b c d e f) := by
 have sa := num0_size a ha
 have sb := num0_size b hb
 have sd := num0_size d hd
 have se := num0_size e he
 have sf := num0_size f hf
 unfold entryLine
 simp only [spec_ShowEntry.f]
 refine Ev.bind (ev_spec_l29Num a ha) (evPos (by omega) (evPos (by simp only [sizeApp, one112]; omega) ?_))
 refine Ev.bind (ev_spec_l29Num b hb) (evPos (by simp only [sizeApp, one112, one35]; omega) ?_)
 by_cases h : c = 2
 ·rw [if_pos h]
  refine evPos h (evPos (by simp only [sizeApp, one112, one35]; omega) ?_)
  refine Ev.bind (ev_spec_l29Num f hf) (evPos (by simp only [sizeApp, one112, one35, fiveGap]; omega) (evPos (by simp only [sizeApp, one112, one35, fiveGap]; omega) ?_))
  exact Ev.now _
 ·rw [if_neg h]
  refine evNeg h (evPos (by simp only [sizeApp, one112, one35]; omega) ?_)
  refine Ev.bind (ev_spec_l29Num d hd) (evPos (by simp only [sizeApp, one112, one35, sixCall]; omega) (evPos (by simp only [sizeApp, one112, one35, sixCall]; omega) ?_))
  refine Ev.bind (ev_spec_l29Num e he) (evPos (by simp only [sizeApp, one112, one35, one32, sixCall]; omega) (evPos (by simp only [sizeApp, one112, one35, one32, sixCall]; omega) ?_))
  exact Ev.now _
theorem ev_impl_ShowEntry (a b c d e f : Int) (ha0 : -9223372036854775808 ≤ a) (hb0 : -9223372036854775808 ≤ b) (hd0 : -9223372036854775808 ≤ d) (he0 : -9223372036854775808 ≤ e) (hf0 : -9223372036854775808 ≤ f)
 (ha : a ≤ 9223372036854775807) (hb : b ≤ 9223372036854775807) (hd : d ≤ 9223372036854775807) (he : e ≤ 9223372036854775807) (hf : f ≤ 9223372036854775807) :
 Ev (fun k => impl_ShowEntry.f k a b c d e f) (entryLine a b c d e f) := by
 have sa := num0_size a ha
 have sb := num0_size b hb
 have sd := num0_size d hd
 have se := num0_size e he
 have sf := num0_size f hf
 unfold entryLine
 simp only [impl_ShowEntry.f]
 refine Ev.bind (ev_impl_shown a ha0 ha) (evPos (by omega) (evPos (by simp only [sizeApp, one112]; omega) ?_))
 refine Ev.bind (ev_impl_shown b hb0 hb) (evPos (by simp only [sizeApp, one112, one35]; omega) ?_)
 by_cases h : c = 2
 ·rw [if_pos h]
  refine evPos h (evPos (by simp only [sizeApp, one112, one35]; omega) ?_)
  refine Ev.bind (ev_impl_shown f hf0 hf) (evPos (by simp only [sizeApp, one112, one35, fiveGap]; omega) (evPos (by simp only [sizeApp, one112, one35, fiveGap]; omega) ?_))
  exact Ev.now _
 ·rw [if_neg h]
  refine evNeg h (evPos (by simp only [sizeApp, one112, one35]; omega) ?_)
  refine Ev.bind (ev_impl_shown d hd0 hd) (evPos (by simp only [sizeApp, one112, one35, sixCall]; omega) (evPos (by simp only [sizeApp, one112, one35, sixCall]; omega) ?_))
  refine Ev.bind (ev_impl_shown e he0 he) (evPos (by simp only [sizeApp, one112, one35, one32, sixCall]; omega) (evPos (by simp only [sizeApp, one112, one35, one32, sixCall]; omega) ?_))
  exact Ev.now _
def rng (x lo hi : Int) : Bool := decide (lo ≤ x) && decide (x ≤ hi)
theorem spec_in (x lo hi : Int) : spec_l01In.f x lo hi = some (rng x lo hi) := by
 unfold spec_l01In.f rng
 by_cases h : x ≥ lo
 ·simp [h]
 ·simp [h]
  try omega
theorem impl_in (x lo hi : Int) : impl_within.f x lo hi = some (rng x lo hi) := by
 unfold impl_within.f rng
 by_cases h : x ≥ lo
 ·simp [h]
 ·simp [h]
  try omega
theorem bits_nat (op : BinOp) (k : IntKind) (x y : Int) : Go.bits op k x y = match op with
 | .and => k.wrap ((BitVec.ofInt k.bits x &&& BitVec.ofInt k.bits y).toNat : Int)
 | .or => k.wrap ((BitVec.ofInt k.bits x ||| BitVec.ofInt k.bits y).toNat : Int)
 | .xor => k.wrap ((BitVec.ofInt k.bits x ^^^ BitVec.ofInt k.bits y).toNat : Int)
 | .andNot => k.wrap ((BitVec.ofInt k.bits x &&& ~~~BitVec.ofInt k.bits y).toNat : Int)
 | _ => Go.bits op k x y := by
 cases op <;> rfl
theorem ofInt_nat32 (n : Nat) (h : n < 4294967296) : (BitVec.ofInt 32 (n : Int)).toNat = n := by
 rw [BitVec.toNat_ofInt]; omega
theorem ofInt_nat64 (n : Nat) (h : n < 18446744073709551616) : (BitVec.ofInt 64 (n : Int)).toNat = n := by
 rw [BitVec.toNat_ofInt]; omega
theorem wrap_u32 (x : Int) : IntKind.wrap .u32 x = x % 4294967296 := rfl
theorem wrap_i64 (x : Int) : IntKind.wrap .i64 x = wrap64 x := i64_w x
theorem xor_u32_rng (x y : Int) : 0 ≤ Go.bits .xor .u32 x y ∧ Go.bits .xor .u32 x y < 4294967296 := by
 rw [bits_nat]
 show 0 ≤ IntKind.wrap .u32 _ ∧ IntKind.wrap .u32 _ < _
 rw [wrap_u32]
 omega
theorem and_u32_one (x : Int) (h0 : 0 ≤ x) (h1 : x < 4294967296) : Go.bits .and .u32 x 1 = x % 2 := by
 rw [bits_nat]
 show IntKind.wrap .u32 ((BitVec.ofInt 32 x &&& BitVec.ofInt 32 ((1 : Nat) : Int)).toNat : Int) = _
 obtain ⟨n, rfl⟩ := Int.eq_ofNat_of_zero_le h0
 rw [BitVec.toNat_and, ofInt_nat32 n (by omega), ofInt_nat32 1 (by omega), Nat.and_one_is_mod, wrap_u32]
 omega
theorem var_byte (x : Int) (h0 : 0 ≤ x) (h1 : x ≤ 1000000000) : (Go.bits .or .i64 (Go.bits .and .i64 x 127) 128) % 256 = x % 128 + 128 := by
 obtain ⟨n, rfl⟩ := Int.eq_ofNat_of_zero_le h0
 have e1 : Go.bits .and .i64 (n : Int) 127 = ((n % 128 : Nat) : Int) := by
  rw [bits_nat]
  show IntKind.wrap .i64 ((BitVec.ofInt 64 (n : Int) &&& BitVec.ofInt 64 ((127 : Nat) : Int)).toNat : Int) = _
  rw [BitVec.toNat_and, ofInt_nat64 n (by omega), ofInt_nat64 127 (by omega), wrap_i64]
  have : n &&& 127 = n % 128 := Nat.and_two_pow_sub_one_eq_mod n 7
  rw [this, w64 (by omega) (by omega)]
 rw [e1, bits_nat]
 show IntKind.wrap .i64 ((BitVec.ofInt 64 ((n % 128 : Nat) : Int) ||| BitVec.ofInt 64 ((128 : Nat) : Int)).toNat : Int) % 256 = _
 rw [BitVec.toNat_or, ofInt_nat64 (n % 128) (by omega), ofInt_nat64 128 (by omega), wrap_i64]
 have h : ∀ m : Fin 128, (m.val ||| 128) = m.val + 128 := by decide
 have hm := h ⟨n % 128, by omega⟩
 have e2 : (n % 128 ||| 128) = n % 128 + 128 := hm
 rw [e2, w64 (by omega) (by omega)]
 omega
def varL (n : Nat) : List Int := if h : n ≤ 127 then [(n : Int)] else ((n % 128 + 128 : Nat) : Int) :: varL (n / 128)
 termination_by n
 decreasing_by omega
theorem varL_small (n : Nat) (h : n ≤ 127) : varL n = [(n : Int)] := by rw [varL, dif_pos h]
theorem varL_big (n : Nat) (h : 127 < n) : varL n = ((n % 128 + 128 : Nat) : Int) :: varL (n / 128) := by rw [varL, dif_neg (by omega)]
theorem varL_len (n : Nat) (h : n ≤ 1000000000) : (varL n).length ≤ 5 := by
 have key : ∀ (j n : Nat), n < 128 ^ (j + 1) → (varL n).length ≤ j + 1 := by
  intro j
  induction j with
  | zero => intro n h; rw [varL_small n (by omega)]; simp
  | succ j ih =>
   intro n h
   by_cases hn : n ≤ 127
   ·rw [varL_small n hn]; simp
   ·rw [varL_big n (by omega), List.length_cons]
    have := ih (n / 128) (by rw [Nat.pow_succ] at h; omega)
    omega
 exact key 4 n (by omega)
def varS (n : Int) : ByteArray := strOfNums (varL n.toNat)
theorem varS_size (n : Int) (h : n ≤ 1000000000) : (varS n).size ≤ 5 := by
 unfold varS; rw [strOfNums_size]; exact varL_len _ (by omega)
theorem ev_spec_l01Var (n : Int) (h0 : 0 ≤ n) (h1 : n ≤ 1000000000) : Ev (fun k => spec_l01Var.f k n) (varS n) := by
 have key : ∀ (m : Nat) (acc : List Int), m ≤ 1000000000 → acc.length + m ≤ 2000000000 → Ev (fun k => spec_l01Var.l0 k (m : Int) acc) (strOfNums (acc ++ varL m)) := by
  intro m
  induction m using Nat.strongRecOn with
  | ind m ih =>
   intro acc hm ha
   refine evSucc ?_
   simp only [spec_l01Var.l0]
   have e : Int.tdiv (m : Int) 128 = ((m / 128 : Nat) : Int) := by rw [Int.tdiv_eq_ediv_of_nonneg (by omega)]; omega
   have e2 : Int.tmod (m : Int) 128 = ((m % 128 : Nat) : Int) := by rw [Int.tmod_eq_emod_of_nonneg (by omega)]; omega
   by_cases hb : m ≤ 127
   ·refine evNeg (by omega) (evPos (by omega) ?_)
    rw [varL_small m hb, show (m : Int) % 256 = m by omega]
    exact Ev.now _
   ·refine evPos (by omega) (evPos (by omega) ?_)
    rw [e, e2, w64 (by omega) (by omega), w64 (by omega) (by omega), varL_big m (by omega)]
    have := ih (m / 128) (by omega) (acc ++ [((m % 128 + 128 : Nat) : Int)]) (by omega) (by simp; omega)
    rw [List.append_assoc] at this
    rw [show (((m % 128 : Nat) : Int) + 128) % 256 = ((m % 128 + 128 : Nat) : Int) by omega]
    exact this
 have := key n.toNat [] (by omega) (by simp; omega)
 rw [Int.toNat_of_nonneg h0] at this
 exact this
theorem ev_impl_VarText (n : Int) : Ev (fun k => impl_VarText.f k n) (if rng n 0 1000000000 = true then (varS n, true) else (⟨#[]⟩, false)) := by
 simp only [impl_VarText.f, impl_in, Option.bind_some]
 refine evIte (fun h => ?_) (fun h => Ev.now _)
 have hr : 0 ≤ n ∧ n ≤ 1000000000 := by unfold rng at h; simpa using h
 have key : ∀ (m : Nat) (acc : List Int), m ≤ 1000000000 → acc.length + m ≤ 2000000000 → Ev (fun k => impl_VarText.l0 k (m : Int) acc) (strOfNums (acc ++ varL m), true) := by
  intro m
  induction m using Nat.strongRecOn with
  | ind m ih =>
   intro acc hm ha
   refine evSucc ?_
   simp only [impl_VarText.l0]
   by_cases hb : m ≤ 127
   ·refine evNeg (by omega) (evPos (by omega) ?_)
    rw [varL_small m hb, show (m : Int) % 256 = m by omega]
    exact Ev.now _
   ·refine evPos (by omega) (evPos (by omega) ?_)
    rw [var_byte m (by omega) (by omega), varL_big m (by omega)]
    have := ih (m / 128) (by omega) (acc ++ [((m % 128 + 128 : Nat) : Int)]) (by omega) (by simp; omega)
    rw [List.append_assoc] at this
    rw [show (m : Int) / 128 = ((m / 128 : Nat) : Int) by omega, show (m : Int) % 128 + 128 = ((m % 128 + 128 : Nat) : Int) by omega]
    exact this
 have := key n.toNat [] (by omega) (by simp; omega)
 rw [Int.toNat_of_nonneg hr.1] at this
 exact this
theorem ev_impl_VarText_ok (n : Int) (h0 : 0 ≤ n) (h1 : n ≤ 1000000000) : Ev (fun k => impl_VarText.f k n) (varS n, true) :=
 evEq (ev_impl_VarText n) (if_pos (by unfold rng; simp [h0, h1]))
def itemB (a b c d : Int) : Bool := if a = 1 then rng b 0 4294967295 && (rng c 0 4294967295 && d == 0) else if a = 2 then rng d 1 1000000000 && (b == 0 && c == 0) else false
theorem spec_itemB (a b c d : Int) : spec_ItemOk.f a b c d = some (itemB a b c d) := by
 unfold spec_ItemOk.f itemB
 simp only [spec_HalfOk.f, spec_in, Option.bind_some]
 by_cases h1 : a = 1
 ·rw [if_pos h1, if_pos h1]
  cases rng b 0 4294967295 <;> cases rng c 0 4294967295 <;> simp
 ·rw [if_neg h1, if_neg h1]
  by_cases h2 : a = 2
  ·rw [if_pos h2, if_pos h2]
   by_cases hb : b = 0
   ·cases rng d 1 1000000000 <;> simp [hb]
   ·cases rng d 1 1000000000 <;> simp [hb]
  ·rw [if_neg h2, if_neg h2]
theorem impl_itemB (a b c d : Int) : impl_ItemOk.f a b c d = some (itemB a b c d) := by
 unfold impl_ItemOk.f itemB
 simp only [impl_HalfOk.f, impl_in, Option.bind_some]
 by_cases h1 : a = 1
 ·rw [if_pos h1, if_pos h1]
  cases rng b 0 4294967295 <;> cases rng c 0 4294967295 <;> simp
 ·rw [if_neg h1, if_neg h1]
  by_cases h2 : a = 2
  ·rw [if_pos h2, if_pos h2]
   by_cases hb : b = 0
   ·cases rng d 1 1000000000 <;> simp [hb]
   ·cases rng d 1 1000000000 <;> simp [hb]
  ·rw [if_neg h2, if_neg h2]
def frameB (a b c d e f g : Int) : Bool := rng b 0 2 && (rng c 1 1000000000 && (if a = 1 then itemB d e f g else if a = 2 then (d == 0 && (e == 0 && (f == 0 && (g == 0)))) else false))
theorem ev_spec_FrameOk (a b c d e f g : Int) : Ev (fun k => spec_FrameOk.f k a b c d e f g) (frameB a b c d e f g) := by
 simp only [spec_FrameOk.f, spec_in, Option.bind_some]
 unfold frameB
 cases rng b 0 2
 ·refine evNeg (by simp) (evSucc ?_)
  simp only [spec_FrameOk.j0, Bool.false_and]
  exact evPos (by simp) (Ev.now _)
 ·refine evPos rfl (evSucc ?_)
  simp only [spec_FrameOk.j0, spec_itemB, Option.bind_some, Bool.true_and]
  cases rng c 1 1000000000
  ·exact evPos (by decide) (Ev.now _)
  ·refine evNeg (by simp) ?_
   simp only [Bool.true_and]
   exact evIte (fun _ => Ev.now _) (fun _ => evIte (fun _ => Ev.now _) (fun _ => Ev.now _))
theorem ev_impl_FrameOk (a b c d e f g : Int) : Ev (fun k => impl_FrameOk.f k a b c d e f g) (frameB a b c d e f g) := by
 simp only [impl_FrameOk.f, impl_isPid.f, impl_in, Option.bind_some]
 unfold frameB
 cases rng b 0 2
 ·refine evNeg (by simp) (evSucc ?_)
  simp only [impl_FrameOk.j0, Bool.false_and]
  exact evPos (by simp) (Ev.now _)
 ·refine evPos rfl (evSucc ?_)
  simp only [impl_FrameOk.j0, impl_itemB, Option.bind_some, Bool.true_and]
  cases rng c 1 1000000000
  ·exact evPos (by decide) (Ev.now _)
  ·refine evNeg (by simp) ?_
   simp only [Bool.true_and]
   exact evIte (fun _ => Ev.now _) (fun _ => evIte (fun _ => Ev.now _) (fun _ => Ev.now _))
theorem itemB_count {a b c d : Int} (h : itemB a b c d = true) : 0 ≤ d ∧ d ≤ 1000000000 := by
 unfold itemB rng at h
 split at h
 ·simp at h; omega
 ·split at h
  ·simp at h; omega
  ·simp at h
theorem frameB_facts {a b c d e f g : Int} (h : frameB a b c d e f g = true) : (0 ≤ b ∧ b ≤ 2) ∧ (1 ≤ c ∧ c ≤ 1000000000) ∧ (0 ≤ g ∧ g ≤ 1000000000) ∧ (a = 1 ∨ a = 2) := by
 unfold frameB at h
 simp only [Bool.and_eq_true] at h
 obtain ⟨h1, h2, h3⟩ := h
 unfold rng at h1 h2
 simp at h1 h2
 refine ⟨h1, h2, ?_⟩
 split at h3
 ·rename_i ha
  exact ⟨itemB_count h3, Or.inl ha⟩
 ·split at h3
  ·rename_i ha
   simp at h3
   exact ⟨by omega, Or.inr ha⟩
  ·simp at h3
def sumBit (x : Int) : Int := if x % 2 = 1 then Go.bits .xor .u32 (x / 2) 3558460437 else x / 2
def sumByte (x b : Int) : Int := sumBit (sumBit (sumBit (sumBit (sumBit (sumBit (sumBit (sumBit (Go.bits .xor .u32 x b))))))))
def sumAll (x : Int) (s : ByteArray) : Nat → Int
 | 0 => x
 | i + 1 => sumByte (sumAll x s i) (bt s i)
theorem sumBit_rng (x : Int) (h : 0 ≤ x ∧ x < 4294967296) : 0 ≤ sumBit x ∧ sumBit x < 4294967296 := by
 unfold sumBit
 split
 ·exact xor_u32_rng _ _
 ·omega
theorem sumByte_rng (x b : Int) : 0 ≤ sumByte x b ∧ sumByte x b < 4294967296 := by
 unfold sumByte
 repeat (first | exact xor_u32_rng _ _ | apply sumBit_rng)
theorem sumAll_rng (x : Int) (s : ByteArray) (h : 0 ≤ x ∧ x < 4294967296) : ∀ i, 0 ≤ sumAll x s i ∧ sumAll x s i < 4294967296
 | 0 => h
 | _ + 1 => sumByte_rng _ _
theorem sum_impl_step (x : Int) (s : ByteArray) (i j r : Int) (h : 0 ≤ x ∧ x < 4294967296) (hj : j < 8 ∧ 0 ≤ j) (next : Ev (fun k => impl_SumMore.l1 k (sumBit x) s i (j + 1)) r) : Ev (fun k => impl_SumMore.l1 k x s i j) r := by
 refine evSucc ?_
 simp only [impl_SumMore.l1]
 refine evPos hj.1 ?_
 rw [and_u32_one x h.1 h.2, w64 (by omega) (by omega)]
 unfold sumBit at next
 by_cases hx : x % 2 = 1
 ·rw [if_pos hx] at next; exact evPos hx next
 ·rw [if_neg hx] at next; exact evNeg hx next
theorem sum_spec_step (x : Int) (s : ByteArray) (i j r : Int) (h : 0 ≤ x ∧ x < 4294967296) (hj : j < 8 ∧ 0 ≤ j) (next : Ev (fun k => spec_SumMore.l1 k (sumBit x) s i (j + 1)) r) : Ev (fun k => spec_SumMore.l1 k x s i j) r := by
 refine evSucc ?_
 simp only [spec_SumMore.l1]
 refine evPos hj.1 ?_
 rw [Int.tmod_eq_emod_of_nonneg h.1, Int.tdiv_eq_ediv_of_nonneg h.1, w64 (by omega) (by omega), show x / 2 % 4294967296 = x / 2 by omega]
 unfold sumBit at next
 by_cases hx : x % 2 = 1
 ·rw [if_pos hx] at next; exact evPos hx next
 ·rw [if_neg hx] at next; exact evNeg hx next
theorem ev_impl_SumMore (x : Int) (s : ByteArray) (h : 0 ≤ x ∧ x < 4294967296) (hs : s.size ≤ 140737488351232) : Ev (fun k => impl_SumMore.f k x s) (sumAll x s s.size) := by
 have key := evUp (r := sumAll x s s.size) s.size (fun i k => impl_SumMore.l0 k (sumAll x s i) s (i : Int)) ?_ ?_
 ·exact key
 ·intro i hi ih
  refine evSucc ?_
  simp only [impl_SumMore.l0]
  have hb := bt_range s (i : Int)
  refine evPos (by omega) (evPos (by omega) ?_)
  rw [show bt s (i : Int) % 4294967296 = bt s (i : Int) by omega]
  iterate 8 (refine sum_impl_step _ _ _ _ _ (by repeat (first | exact xor_u32_rng _ _ | apply sumBit_rng)) (by decide) ?_)
  refine evSucc ?_
  simp only [impl_SumMore.l1]
  refine evNeg (by decide) ?_
  rw [w64 (by omega) (by omega), ci]
  exact ih
 ·refine evSucc ?_
  simp only [impl_SumMore.l0]
  exact evNeg (by omega) (Ev.now _)
theorem ev_spec_SumMore (x : Int) (s : ByteArray) (h : 0 ≤ x ∧ x < 4294967296) (hs : s.size ≤ 140737488351232) : Ev (fun k => spec_SumMore.f k x s) (sumAll x s s.size) := by
 have key := evUp (r := sumAll x s s.size) s.size (fun i k => spec_SumMore.l0 k (sumAll x s i) s (i : Int)) ?_ ?_
 ·exact key
 ·intro i hi ih
  refine evSucc ?_
  simp only [spec_SumMore.l0]
  have hb := bt_range s (i : Int)
  refine evPos (by omega) (evPos (by omega) ?_)
  rw [show bt s (i : Int) % 4294967296 = bt s (i : Int) by omega]
  iterate 8 (refine sum_spec_step _ _ _ _ _ (by repeat (first | exact xor_u32_rng _ _ | apply sumBit_rng)) (by decide) ?_)
  refine evSucc ?_
  simp only [spec_SumMore.l1]
  refine evNeg (by decide) ?_
  rw [w64 (by omega) (by omega), ci]
  exact ih
 ·refine evSucc ?_
  simp only [spec_SumMore.l0]
  exact evNeg (by omega) (Ev.now _)
def sumS (s : ByteArray) : Int := sumAll 4294967295 s s.size
theorem sumS_rng (s : ByteArray) : 0 ≤ sumS s ∧ sumS s < 4294967296 := sumAll_rng _ _ (by omega) _
def four4 (n : Int) : ByteArray := strOfNums [(n / 16777216) % 256, (n / 65536) % 256, (n / 256) % 256, n % 256]
theorem four4_size (n : Int) : (four4 n).size = 4 := by simp [four4, strOfNums_size]
theorem impl_four4 (n : Int) : impl_four.f n = some (four4 n) := rfl
theorem spec_four4 (n : Int) : spec_l06Four.f n = some (four4 n) := rfl
theorem spec_four2 (n : Int) : spec_l02Four.f n = some (four4 n) := rfl
def sealB (s : ByteArray) : ByteArray × Bool := if s.size ≤ 20000 then (s ++ four4 (sumS s), true) else (⟨#[]⟩, false)
theorem ev_impl_Sealed (s : ByteArray) (hs : s.size ≤ 140737488351232) : Ev (fun k => impl_Sealed.f k s) (sealB s) := by
 simp only [impl_Sealed.f, impl_SumOf.f]
 unfold sealB
 by_cases h : s.size ≤ 20000
 ·have hr := sumS_rng s
  rw [if_pos h]
  refine evNeg (by omega) (Ev.bind (Ev.bind (ev_impl_SumMore _ s (by omega) hs) (Ev.now _)) ?_)
  rw [show sumAll 4294967295 s s.size = sumS s from rfl, w64 (by omega) (by omega)]
  simp only [impl_four4, Option.bind_some]
  exact evPos (by rw [four4_size]; omega) (Ev.now _)
 ·rw [if_neg h]
  exact evPos (by omega) (Ev.now _)
theorem ev_spec_Sealed (s : ByteArray) (hs : s.size ≤ 140737488351232) : Ev (fun k => spec_Sealed.f k s) (sealB s) := by
 simp only [spec_Sealed.f, spec_SumOf.f]
 unfold sealB
 by_cases h : s.size ≤ 20000
 ·rw [if_pos h]
  refine evNeg (by omega) (Ev.bind (Ev.bind (ev_spec_SumMore _ s (by omega) hs) (Ev.now _)) ?_)
  rw [show sumAll 4294967295 s s.size = sumS s from rfl]
  simp only [spec_four2, Option.bind_some]
  exact evPos (by rw [four4_size]; omega) (Ev.now _)
 ·rw [if_neg h]
  exact evPos (by omega) (Ev.now _)
def frameRaw (a b c d e f g : Int) : ByteArray := ((((strOfNums [a % 256, b % 256] ++ varS c) ++ strOfNums [d % 256]) ++ four4 e) ++ four4 f) ++ varS g
theorem frameRaw_size {a b c d e f g : Int} (hc : c ≤ 1000000000) (hg : g ≤ 1000000000) : (frameRaw a b c d e f g).size ≤ 21 := by
 have h1 := varS_size c hc
 have h2 := varS_size g hg
 unfold frameRaw
 simp only [sizeApp, strOfNums_size, four4_size, List.length_cons, List.length_nil]
 omega
def frameS (a b c d e f g : Int) : ByteArray × Bool := if frameB a b c d e f g = true then (frameRaw a b c d e f g ++ four4 (sumS (frameRaw a b c d e f g)), true) else (⟨#[]⟩, false)
theorem frameS_size (a b c d e f g : Int) : (frameS a b c d e f g).1.size ≤ 25 := by
 unfold frameS
 split
 ·rename_i h
  obtain ⟨_, ⟨_, h2⟩, ⟨_, h3⟩, _⟩ := frameB_facts h
  have := frameRaw_size (a := a) (b := b) (d := d) (e := e) (f := f) h2 h3
  rw [sizeApp, four4_size]
  omega
 ·decide
theorem ev_spec_FrameText (a b c d e f g : Int) : Ev (fun k => spec_FrameText.f k a b c d e f g) (frameS a b c d e f g) := by
 simp only [spec_FrameText.f]
 refine Ev.bind (ev_spec_FrameOk a b c d e f g) ?_
 unfold frameS
 by_cases h : frameB a b c d e f g = true
 ·obtain ⟨_, hc, hg, _⟩ := frameB_facts h
  have s1 := varS_size c hc.2
  have s2 := varS_size g hg.2
  have hr := frameRaw_size (a := a) (b := b) (d := d) (e := e) (f := f) hc.2 hg.2
  have hsz2 (x y : Int) : (strOfNums [x, y]).size = 2 := by rw [strOfNums_size]; rfl
  have hsz1 (x : Int) : (strOfNums [x]).size = 1 := by rw [strOfNums_size]; rfl
  rw [if_pos h]
  refine evPos h ?_
  simp only [Option.bind_some, spec_four4]
  refine Ev.bind (ev_spec_l01Var c (by omega) hc.2) (evPos (by rw [hsz2]; omega) (evPos (by simp only [sizeApp, hsz2, hsz1]; omega) (evPos (by simp only [sizeApp, hsz2, hsz1, four4_size]; omega) (evPos (by simp only [sizeApp, hsz2, hsz1, four4_size]; omega) ?_))))
  refine Ev.bind (ev_spec_l01Var g (by omega) hg.2) (evPos (by simp only [sizeApp, hsz2, hsz1, four4_size]; omega) ?_)
  refine Ev.bind (ev_spec_Sealed (frameRaw a b c d e f g) (by omega)) (evEq (Ev.now _) ?_)
  unfold sealB
  rw [if_pos (by omega)]
 ·rw [if_neg h]
  exact evNeg h (Ev.now _)
theorem ev_impl_FrameText (a b c d e f g : Int) : Ev (fun k => impl_FrameText.f k a b c d e f g) (frameS a b c d e f g) := by
 simp only [impl_FrameText.f]
 refine Ev.bind (ev_impl_FrameOk a b c d e f g) ?_
 unfold frameS
 by_cases h : frameB a b c d e f g = true
 ·obtain ⟨_, hc, hg, _⟩ := frameB_facts h
  have s1 := varS_size c hc.2
  have s2 := varS_size g hg.2
  have hr := frameRaw_size (a := a) (b := b) (d := d) (e := e) (f := f) hc.2 hg.2
  have hsz2 (x y : Int) : (strOfNums [x, y]).size = 2 := by rw [strOfNums_size]; rfl
  have hsz1 (x : Int) : (strOfNums [x]).size = 1 := by rw [strOfNums_size]; rfl
  rw [if_pos h]
  refine evPos h ?_
  refine Ev.bind (ev_impl_VarText_ok c (by omega) hc.2) (Ev.bind (ev_impl_VarText_ok g (by omega) hg.2) ?_)
  simp only [Option.bind_some, impl_four4]
  refine evPos (by rw [hsz2]; omega) (evPos (by simp only [sizeApp, hsz2, hsz1]; omega) (evPos (by simp only [sizeApp, hsz2, hsz1, four4_size]; omega) (evPos (by simp only [sizeApp, hsz2, hsz1, four4_size]; omega) (evPos (by simp only [sizeApp, hsz2, hsz1, four4_size]; omega) ?_))))
  refine Ev.bind (ev_impl_Sealed (frameRaw a b c d e f g) (by omega)) (evEq (Ev.now _) ?_)
  unfold sealB
  rw [if_pos (by omega)]
 ·rw [if_neg h]
  exact evNeg h (Ev.now _)
def entryS (b c d e f g : Int) : ByteArray := (frameS 1 b c d e f g).1
theorem entryS_size (b c d e f g : Int) : (entryS b c d e f g).size ≤ 25 := frameS_size 1 b c d e f g
theorem ev_spec_EntryText (b c d e f g : Int) : Ev (fun k => spec_EntryText.f k b c d e f g) (entryS b c d e f g) := by
 simp only [spec_EntryText.f]
 exact Ev.bind (ev_spec_FrameText 1 b c d e f g) (Ev.now _)
theorem ev_impl_EntryText (b c d e f g : Int) : Ev (fun k => impl_EntryText.f k b c d e f g) (entryS b c d e f g) := by
 simp only [impl_EntryText.f]
 exact Ev.bind (ev_impl_FrameText 1 b c d e f g) (Ev.now _)
open DigestEq (dig dig_spec dig_impl)
def cvEntry (x : S141) : S61 := ⟨x.f0, x.f1, ⟨x.f2.f0, x.f2.f1, x.f2.f2, x.f2.f3⟩⟩
theorem rdLE (l : List S141) (i : Nat) (hi : i < l.length) : rd_T141 l (i : Int) = l[i] := by simp [rd_T141, hi]
theorem rdE (l : List S61) (i : Nat) (hi : i < l.length) : rd_T61 l (i : Int) = l[i] := by simp [rd_T61, hi]
theorem ev_toEntryS (l : List S141) (hl : l.length ≤ 1048576) : Ev (fun k => laws_toEntryS.f k l) (l.map cvEntry) := by
 have key := evUp (r := l.map cvEntry) l.length (fun i k => laws_toEntryS.l0 k l ((l.take i).map cvEntry ++ List.replicate (l.length - i) z61) (i : Int)) ?_ ?_
 ·refine Ev.congr (fun k => ?_) key
  unfold laws_toEntryS.f
  rw [if_pos (by omega), if_pos (by omega)]
  simp
 ·intro i hi ih
  refine evSucc ?_
  simp only [laws_toEntryS.l0]
  refine evPos (by omega) (evPos (by omega) ?_)
  simp only [laws_toEntry.f, laws_toItem.f, Option.bind_some, rdLE l i hi]
  refine evPos (by simp; omega) ?_
  rw [w64 (by omega) (by omega), ci, Int.toNat_natCast]
  rw [show (⟨l[i].f0, l[i].f1, ⟨l[i].f2.f0, l[i].f2.f1, l[i].f2.f2, l[i].f2.f3⟩⟩ : S61) = cvEntry l[i] from rfl, fillStep cvEntry _ l i hi]
  exact ih
 ·refine evSucc ?_
  simp only [laws_toEntryS.l0]
  refine evNeg (by omega) ?_
  simp
  exact Ev.now _
theorem eqEntryRefl (a b c d e f : Int) : laws_eqEntry.f a b c d e f a b c d e f = some true := by simp [laws_eqEntry.f, laws_eqItem.f]
theorem ev_eqEntryS (l : List S61) (hl : l.length ≤ 1048576) : Ev (fun k => laws_eqEntryS.f k l l) true := by
 have key := evUp (r := true) l.length (fun i k => laws_eqEntryS.l0 k l l (i : Int)) ?_ ?_
 ·refine Ev.congr (fun k => ?_) key
  unfold laws_eqEntryS.f
  rw [if_pos rfl]
  rfl
 ·intro i hi ih
  refine evSucc ?_
  simp only [laws_eqEntryS.l0]
  refine evPos (by omega) (evPos (by omega) (evPos (by omega) ?_))
  simp only [eqEntryRefl, Option.bind_some, if_true]
  rw [w64 (by omega) (by omega), ci]
  exact ih
 ·refine evSucc ?_
  simp only [laws_eqEntryS.l0]
  exact evNeg (by omega) (Ev.now _)
theorem dig_size (s : ByteArray) : (dig s).size = 32 := by
 unfold DigestEq.dig
 rw [strOfNums_size, PH.f4_len, PH.hs_len]
def entryT (x : S61) : ByteArray := entryS x.f0 x.f1 x.f2.f0 x.f2.f1 x.f2.f2 x.f2.f3
theorem entryT_size (x : S61) : (entryT x).size ≤ 25 := entryS_size _ _ _ _ _ _
def headStep (h : ByteArray) (x : S61) : ByteArray := dig (h ++ entryT x)
def headS (h : ByteArray) (l : List S61) : ByteArray := l.foldl headStep h
theorem headS_size (h : ByteArray) (l : List S61) : (headS h l).size ≤ h.size + 32 := by
 rcases List.eq_nil_or_concat l with rfl | ⟨l', x, rfl⟩
 ·exact Nat.le_add_right _ _
 ·unfold headS
  rw [List.concat_eq_append, List.foldl_append]
  show (dig _).size ≤ _
  rw [dig_size]; omega
theorem headS_step (h : ByteArray) (l : List S61) (i : Nat) (hi : i < l.length) : headS h (l.take (i + 1)) = dig (headS h (l.take i) ++ entryT l[i]) := by
 unfold headS
 rw [takeSnoc l i hi, List.foldl_append]
 rfl
theorem zero0 : (⟨#[]⟩ : ByteArray).size = 0 := rfl
theorem ev_spec_HeadOf (l : List S61) (hl : l.length ≤ 16777216) : Ev (fun k => spec_HeadOf.f k l) (headS (dig ⟨#[]⟩) l) := by
 simp only [spec_HeadOf.f]
 refine evBindS (dig_spec _ (by rw [zero0]; omega)) ?_
 have h0 := dig_size ⟨#[]⟩
 generalize dig ⟨#[]⟩ = h at h0 ⊢
 have key := evUp (r := headS h l) l.length (fun i k => spec_HeadOf.l0 k l (headS h (l.take i)) (i : Int)) ?_ ?_
 ·exact key
 ·intro i hi ih
  refine evSucc ?_
  simp only [spec_HeadOf.l0]
  have hs := headS_size h (l.take i)
  have he := entryT_size l[i]
  rw [rdE l i hi, w64 (by omega) (by omega), ci]
  refine evPos (by omega) (evPos (by omega) (Ev.bind (ev_spec_EntryText _ _ _ _ _ _) (evPos ?_ ?_)))
  ·show _ + (entryT l[i]).size ≤ _
   omega
  refine evBindS (dig_spec _ (by rw [sizeApp]; show _ + (entryT l[i]).size ≤ _; omega)) ?_
  rw [headS_step h l i hi] at ih
  exact ih
 ·refine evSucc ?_
  simp only [spec_HeadOf.l0]
  refine evNeg (by omega) ?_
  rw [List.take_length]
  exact Ev.now _
theorem ev_impl_HeadFrom (h : ByteArray) (l : List S61) (hh : h.size ≤ 16777216) (hl : l.length ≤ 16777216) : Ev (fun k => impl_HeadFrom.f k h l) (headS h l) := by
 have key := evUp (r := headS h l) l.length (fun i k => impl_HeadFrom.l0 k (headS h (l.take i)) l (l.length : Int) (i : Int)) ?_ ?_
 ·exact key
 ·intro i hi ih
  refine evSucc ?_
  simp only [impl_HeadFrom.l0]
  have hs := headS_size h (l.take i)
  have he := entryT_size l[i]
  rw [rdE l i hi, w64 (by omega) (by omega), ci]
  refine evPos (by omega) (evPos (by omega) (evPos (by omega) (Ev.bind (ev_impl_EntryText _ _ _ _ _ _) (evPos ?_ ?_))))
  ·show _ + (entryT l[i]).size ≤ _
   omega
  refine Ev.bind (dig_impl _ (by rw [sizeApp]; show _ + (entryT l[i]).size ≤ _; omega)) ?_
  rw [headS_step h l i hi] at ih
  exact ih
 ·refine evSucc ?_
  simp only [impl_HeadFrom.l0]
  refine evNeg (by omega) ?_
  rw [List.take_length]
  exact Ev.now _
theorem ev_impl_HeadOf (l : List S61) (hl : l.length ≤ 16777216) : Ev (fun k => impl_HeadOf.f k l) (headS (dig ⟨#[]⟩) l) := by
 simp only [impl_HeadOf.f]
 refine Ev.bind (dig_impl _ (by show (⟨#[]⟩ : ByteArray).size ≤ _; decide)) (Ev.bind (ev_impl_HeadFrom _ l (by rw [dig_size]; omega) hl) (Ev.now _))
theorem headD_size (l : List S61) : (headS (dig ⟨#[]⟩) l).size = 32 := by
 rcases List.eq_nil_or_concat l with rfl | ⟨l', x, rfl⟩
 ·exact dig_size _
 ·unfold headS
  rw [List.concat_eq_append, List.foldl_append]
  exact dig_size _
def figV (a : Int) : Int := if a < 10 then 48 + a else 87 + a
def hexA (c : Int) : List Int := [figV (c / 16), figV (c % 16)]
theorem figs_all : ∀ a : Fin 16, bt (⟨#[48, 49, 50, 51, 52, 53, 54, 55, 56, 57, 97, 98, 99, 100, 101, 102]⟩ : ByteArray) (((a : Nat) : Int)) = figV ((a : Nat) : Int) := by decide
theorem figs_v (x : Int) (h0 : 0 ≤ x) (h1 : x < 16) : bt (⟨#[48, 49, 50, 51, 52, 53, 54, 55, 56, 57, 97, 98, 99, 100, 101, 102]⟩ : ByteArray) x = figV x := by
 have := figs_all ⟨x.toNat, by omega⟩
 simpa [Int.toNat_of_nonneg h0] using this
theorem and15_all : ∀ a : Fin 256, Go.bits .and .u8 (((a : Nat) : Int)) 15 = ((a : Nat) : Int) % 16 := by decide +kernel
theorem and15 (x : Int) (h0 : 0 ≤ x) (h1 : x < 256) : Go.bits .and .u8 x 15 = x % 16 := by
 have := and15_all ⟨x.toNat, by omega⟩
 simpa [Int.toNat_of_nonneg h0] using this
def hexGo (s : ByteArray) : Nat → Nat → List Int → List Int
 | 0, _, acc => acc
 | d + 1, i, acc => hexGo s d (i + 1) (acc ++ hexA (bt s (i : Int)))
theorem hexGo_len (s : ByteArray) : ∀ d i acc, (hexGo s d i acc).length = acc.length + 2 * d := by
 intro d
 induction d with
 | zero => intro i acc; rfl
 | succ d ih =>
  intro i acc
  unfold hexGo
  rw [ih, List.length_append]
  show acc.length + 2 + 2 * d = _
  omega
def hexS (s : ByteArray) : ByteArray := strOfNums (hexGo s s.size 0 [])
theorem hexS_size (s : ByteArray) : (hexS s).size = 2 * s.size := by
 unfold hexS
 rw [strOfNums_size, hexGo_len]
 show 0 + _ = _
 omega
theorem ev_impl_Hex (s : ByteArray) (hs : s.size ≤ 20000) : Ev (fun k => impl_Hex.f k s) (hexS s, true) := by
 have key : ∀ (d i : Nat) (acc : List Int), i + d = s.size → acc.length ≤ 2 * i → Ev (fun k => impl_Hex.l0 k s acc (i : Int)) (strOfNums (hexGo s d i acc), true) := by
  intro d
  induction d with
  | zero =>
   intro i acc hi ha
   refine evSucc ?_
   simp only [impl_Hex.l0]
   exact evNeg (by omega) (Ev.now _)
  | succ d ih =>
   intro i acc hi ha
   have hb := bt_range s (i : Int)
   have hq : 0 ≤ bt s (i : Int) / 16 ∧ bt s (i : Int) / 16 < 16 := by omega
   have hr : 0 ≤ bt s (i : Int) % 16 ∧ bt s (i : Int) % 16 < 16 := by omega
   refine evSucc ?_
   simp only [impl_Hex.l0, Option.bind_some]
   rw [and15 _ (by omega) (by omega), figs_v _ hq.1 hq.2, figs_v _ hr.1 hr.2, w64 (x := (i : Int) + 1) (by omega) (by omega), ci]
   exact evPos (by omega) (evPos (by omega) (evPos hq.1 (evPos hq.2 (evPos hr.1 (evPos hr.2 (evPos (by show acc.length + 2 < _; omega) (ih (i + 1) (acc ++ hexA (bt s (i : Int))) (by omega) (by rw [List.length_append]; show acc.length + 2 ≤ _; omega))))))))
 simp only [impl_Hex.f]
 rw [w64 (x := 2 * (s.size : Int)) (by omega) (by omega)]
 exact evNeg (by omega) (evPos (by omega) (evPos (by omega) (key s.size 0 [] (by omega) (Nat.le_refl _))))
theorem ev_spec_Hex (s : ByteArray) (hs : s.size ≤ 20000) : Ev (fun k => spec_Hex.f k s) (hexS s, true) := by
 have fig : ∀ x : Int, 0 ≤ x → x < 16 → spec_l01Figure.f x = some (figV x) := by
  intro x h0 h1
  unfold spec_l01Figure.f figV
  by_cases h : x < 10
  ·rw [if_pos h, if_pos h, w64 (by omega) (by omega)]
   congr 1
   omega
  ·rw [if_neg h, if_neg h, w64 (x := 97 + x) (by omega) (by omega), w64 (by omega) (by omega)]
   congr 1
   omega
 have key : ∀ (d i : Nat) (acc : List Int), i + d = s.size → acc.length ≤ 2 * i → Ev (fun k => spec_Hex.l0 k s acc (i : Int)) (strOfNums (hexGo s d i acc), true) := by
  intro d
  induction d with
  | zero =>
   intro i acc hi ha
   refine evSucc ?_
   simp only [spec_Hex.l0]
   exact evNeg (by omega) (Ev.now _)
  | succ d ih =>
   intro i acc hi ha
   have hb := bt_range s (i : Int)
   have hq : 0 ≤ bt s (i : Int) / 16 ∧ bt s (i : Int) / 16 < 16 := by omega
   have hr : 0 ≤ bt s (i : Int) % 16 ∧ bt s (i : Int) % 16 < 16 := by omega
   have e1 : Int.tdiv (bt s (i : Int)) 16 = bt s (i : Int) / 16 := Int.tdiv_eq_ediv_of_nonneg (by omega)
   have e2 : Int.tmod (bt s (i : Int)) 16 = bt s (i : Int) % 16 := Int.tmod_eq_emod_of_nonneg (by omega)
   refine evSucc ?_
   simp only [spec_Hex.l0]
   rw [w64 (x := bt s (i : Int)) (by omega) (by omega), e1, e2, w64 (x := bt s (i : Int) / 16) (by omega) (by omega), fig _ hq.1 hq.2, fig _ hr.1 hr.2, w64 (x := (i : Int) + 1) (by omega) (by omega), ci]
   simp only [Option.bind_some]
   exact evPos (by omega) (evPos (by omega) (evPos (by show acc.length + 2 < _; omega) (ih (i + 1) (acc ++ hexA (bt s (i : Int))) (by omega) (by rw [List.length_append]; show acc.length + 2 ≤ _; omega))))
 simp only [spec_Hex.f]
 exact evNeg (by omega) (key s.size 0 [] (by omega) (Nat.le_refl _))
theorem entryLine_size (a b c d e f : Int) (ha : a ≤ 9223372036854775807) (hb : b ≤ 9223372036854775807) (hd : d ≤ 9223372036854775807) (he : e ≤ 9223372036854775807) (hf : f ≤ 9223372036854775807) : (entryLine a b c d e f).size ≤ 100 := by
 have sa := num0_size a ha
 have sb := num0_size b hb
 have sd := num0_size d hd
 have se := num0_size e he
 have sf := num0_size f hf
 have t1 : (⟨#[10]⟩ : ByteArray).size = 1 := rfl
 unfold entryLine
 split
 ·simp only [sizeApp, one112, one35, fiveGap, t1]; omega
 ·simp only [sizeApp, one112, one35, one32, sixCall, t1]; omega
def lineE (x : S61) : ByteArray := entryLine x.f0 x.f1 x.f2.f0 x.f2.f1 x.f2.f2 x.f2.f3
def inR (n : Int) : Prop := -9223372036854775808 ≤ n ∧ n ≤ 9223372036854775807
def okE6 (x : S61) : Prop := inR x.f0 ∧ inR x.f1 ∧ inR x.f2.f1 ∧ inR x.f2.f2 ∧ inR x.f2.f3
def reportS (l : List S61) (saved : Int) : ByteArray :=
 ((((l.foldl (fun s x => s ++ lineE x) ⟨#[]⟩ ++ (⟨#[104, 101, 97, 100, 32]⟩ : ByteArray)) ++ ((hexS (headS (dig ⟨#[]⟩) l)).extract 0 8)) ++ (⟨#[32, 115, 97, 118, 101, 100, 32]⟩ : ByteArray)) ++ num0 saved) ++ (⟨#[10]⟩ : ByteArray)
theorem lines_size (l : List S61) (hk : ∀ x ∈ l, okE6 x) : ∀ s : ByteArray, (l.foldl (fun s x => s ++ lineE x) s).size ≤ s.size + 100 * l.length := by
 induction l with
 | nil => intro s; exact Nat.le_refl _
 | cons x l ih =>
  intro s
  have h := hk x List.mem_cons_self
  have h1 := entryLine_size x.f0 x.f1 x.f2.f0 x.f2.f1 x.f2.f2 x.f2.f3 h.1.2 h.2.1.2 h.2.2.1.2 h.2.2.2.1.2 h.2.2.2.2.2
  have h2 := ih (fun y hy => hk y (List.mem_cons_of_mem _ hy)) (s ++ lineE x)
  rw [sizeApp] at h2
  rw [List.foldl_cons, List.length_cons]
  have h3 : (lineE x).size ≤ 100 := h1
  omega
theorem take_fold (l : List S61) (i : Nat) (hi : i < l.length) (s : ByteArray) : (l.take (i + 1)).foldl (fun s x => s ++ lineE x) s = (l.take i).foldl (fun s x => s ++ lineE x) s ++ lineE l[i] := by
 rw [takeSnoc l i hi, List.foldl_append]
 rfl
theorem ev_impl_ShowWorld (a0 : List (List (List S154))) (a1 : List S101) (a2 : List S104) (l : List S61) (a4 : List Int) (a5 : List S142) (saved : Int) (a7 : List Int) (a8 : List S108) (a9 : Int) (a10 : List Int) (a11 : List S111)
 (hl : l.length ≤ 1048576) (hk : ∀ x ∈ l, okE6 x) (hs : inR saved) : Ev (fun k => impl_ShowWorld.f k a0 a1 a2 l a4 a5 saved a7 a8 a9 a10 a11) (reportS l saved) := by
 have key := evUp (r := reportS l saved) l.length (fun i k => impl_ShowWorld.l0 k ((l.take i).foldl (fun s x => s ++ lineE x) ⟨#[]⟩) l (l.length : Int) (i : Int) a0 a1 a2 l a4 a5 saved a7 a8 a9 a10 a11) ?_ ?_
 ·exact key
 ·intro i hi ih
  have hx := lines_size (l.take i) (fun x hx => hk x (List.mem_of_mem_take hx)) ⟨#[]⟩
  have h0 : (⟨#[]⟩ : ByteArray).size = 0 := rfl
  rw [h0, List.length_take] at hx
  have h := hk _ (List.getElem_mem hi)
  have h1 : (lineE l[i]).size ≤ 100 := entryLine_size _ _ _ _ _ _ h.1.2 h.2.1.2 h.2.2.1.2 h.2.2.2.1.2 h.2.2.2.2.2
  refine evSucc ?_
  simp only [impl_ShowWorld.l0]
  rw [rdE l i hi, w64 (by omega) (by omega), ci]
  refine evPos (by omega) (evPos (by omega) (evPos (by omega) (Ev.bind (ev_impl_ShowEntry _ _ _ _ _ _ h.1.1 h.2.1.1 h.2.2.1.1 h.2.2.2.1.1 h.2.2.2.2.1 h.1.2 h.2.1.2 h.2.2.1.2 h.2.2.2.1.2 h.2.2.2.2.2) (evPos (by show _ + (lineE l[i]).size ≤ _; omega) ?_))))
  rw [take_fold l i hi] at ih
  exact ih
 ·have hx := lines_size l hk ⟨#[]⟩
  have h0 : (⟨#[]⟩ : ByteArray).size = 0 := rfl
  have hh := headD_size l
  have hz := hexS_size (headS (dig ⟨#[]⟩) l)
  have t5 : (⟨#[104, 101, 97, 100, 32]⟩ : ByteArray).size = 5 := rfl
  have t7 : (⟨#[32, 115, 97, 118, 101, 100, 32]⟩ : ByteArray).size = 7 := rfl
  have sn := num0_size saved hs.2
  have se : ((hexS (headS (dig ⟨#[]⟩) l)).extract 0 8).size ≤ 8 := by rw [ByteArray.size_extract]; omega
  rw [h0] at hx
  refine evSucc ?_
  simp only [impl_ShowWorld.l0]
  rw [List.take_length]
  refine evNeg (by omega) (Ev.bind (ev_impl_HeadOf l (by omega)) (Ev.bind (ev_impl_Hex _ (by omega)) ?_))
  refine evPos (by omega) (evPos (by omega) (evPos (by show (8 : Int) ≤ ((hexS (headS (dig ⟨#[]⟩) l)).size : Int); omega) (evPos (by simp only [sizeApp, t5]; omega) (evPos (by simp only [sizeApp, t5]; omega) (Ev.bind (ev_impl_shown saved hs.1 hs.2) (evPos (by simp only [sizeApp, t5, t7]; omega) (evPos (by simp only [sizeApp, t5, t7]; omega) (Ev.now _))))))))
theorem ev_spec_ShowWorld (a0 : List (List (List S154))) (a1 : List S101) (a2 : List S104) (l : List S61) (a4 : List Int) (a5 : List S142) (saved : Int) (a7 : List Int) (a8 : List S108) (a9 : Int) (a10 : List Int) (a11 : List S111)
 (hl : l.length ≤ 1048576) (hk : ∀ x ∈ l, okE6 x) (hs : inR saved) : Ev (fun k => spec_ShowWorld.f k a0 a1 a2 l a4 a5 saved a7 a8 a9 a10 a11) (reportS l saved) := by
 have key := evUp (r := reportS l saved) l.length (fun i k => spec_ShowWorld.l0 k ((l.take i).foldl (fun s x => s ++ lineE x) ⟨#[]⟩) (i : Int) a0 a1 a2 l a4 a5 saved a7 a8 a9 a10 a11) ?_ ?_
 ·exact key
 ·intro i hi ih
  have hx := lines_size (l.take i) (fun x hx => hk x (List.mem_of_mem_take hx)) ⟨#[]⟩
  have h0 : (⟨#[]⟩ : ByteArray).size = 0 := rfl
  rw [h0, List.length_take] at hx
  have h := hk _ (List.getElem_mem hi)
  have h1 : (lineE l[i]).size ≤ 100 := entryLine_size _ _ _ _ _ _ h.1.2 h.2.1.2 h.2.2.1.2 h.2.2.2.1.2 h.2.2.2.2.2
  refine evSucc ?_
  simp only [spec_ShowWorld.l0]
  rw [rdE l i hi, w64 (by omega) (by omega), ci]
  refine evPos (by omega) (evPos (by omega) (Ev.bind (ev_spec_ShowEntry _ _ _ _ _ _ h.1.2 h.2.1.2 h.2.2.1.2 h.2.2.2.1.2 h.2.2.2.2.2) (evPos (by show _ + (lineE l[i]).size ≤ _; omega) ?_)))
  rw [take_fold l i hi] at ih
  exact ih
 ·have hx := lines_size l hk ⟨#[]⟩
  have h0 : (⟨#[]⟩ : ByteArray).size = 0 := rfl
  have hh := headD_size l
  have hz := hexS_size (headS (dig ⟨#[]⟩) l)
  have t5 : (⟨#[104, 101, 97, 100, 32]⟩ : ByteArray).size = 5 := rfl
  have t7 : (⟨#[32, 115, 97, 118, 101, 100, 32]⟩ : ByteArray).size = 7 := rfl
  have sn := num0_size saved hs.2
  have se : ((hexS (headS (dig ⟨#[]⟩) l)).extract 0 8).size ≤ 8 := by rw [ByteArray.size_extract]; omega
  rw [h0] at hx
  refine evSucc ?_
  simp only [spec_ShowWorld.l0]
  rw [List.take_length]
  refine evNeg (by omega) (Ev.bind (ev_spec_HeadOf l (by omega)) (Ev.bind (ev_spec_Hex _ (by omega)) ?_))
  refine evPos (by omega) (evPos (by omega) (evPos (by show (8 : Int) ≤ ((hexS (headS (dig ⟨#[]⟩) l)).size : Int); omega) (evPos (by simp only [sizeApp, t5]; omega) (evPos (by simp only [sizeApp, t5]; omega) (Ev.bind (ev_spec_l29Num saved hs.2) (evPos (by simp only [sizeApp, t5, t7]; omega) (evPos (by simp only [sizeApp, t5, t7]; omega) (Ev.now _))))))))
theorem szFlat (n : Nat) (left : Int) (hn : n ≤ 9223372036854775807) (h0 : 0 ≤ left) (h1 : left ≤ 1048576) : ∃ v : Int, (if (wrap64 (left - (n : Int))) < 0 then (some (-1)) else (some (wrap64 (left - (n : Int))))) = some v ∧ (v = -1 ∨ 0 ≤ v ∧ v ≤ left ∧ n ≤ 1048576) := by
 rw [w64 (by omega) (by omega)]
 by_cases h : left - (n : Int) < 0
 ·exact ⟨-1, by rw [if_pos h], .inl rfl⟩
 ·exact ⟨left - (n : Int), by rw [if_neg h], .inr ⟨by omega, by omega, by omega⟩⟩
theorem szLoop {α : Type} (l : List α) (hl : l.length ≤ 9223372036854775807) (g : Nat → Int → Int → Option Int) (s : Nat → α → Int → Option Int) (Small : α → Prop)
 (last : ∀ k left, g (k + 1) left (l.length : Int) = some left)
 (step : ∀ k left (i : Nat) (h : i < l.length), g (k + 1) left (i : Int) = (s k l[i] left).bind fun t => if t < 0 then some (-1) else g k t ((i + 1 : Nat) : Int))
 (hs : ∀ x ∈ l, ∀ left : Int, 0 ≤ left → left ≤ 1048576 → ∃ v : Int, Ev (fun k => s k x left) v ∧ (v = -1 ∨ 0 ≤ v ∧ v ≤ left ∧ Small x)) :
 ∀ left : Int, 0 ≤ left → left ≤ 1048576 → ∃ v : Int, Ev (fun k => g k left 0) v ∧ (v = -1 ∨ 0 ≤ v ∧ v ≤ left ∧ ∀ x ∈ l, Small x) := by
 have key : ∀ (d i : Nat), i + d = l.length → ∀ left : Int, 0 ≤ left → left ≤ 1048576 → ∃ v : Int, Ev (fun k => g k left (i : Int)) v ∧ (v = -1 ∨ 0 ≤ v ∧ v ≤ left ∧ ∀ x ∈ l.drop i, Small x) := by
  intro d
  induction d with
  | zero =>
   intro i hi left h0 h1
   obtain rfl : i = l.length := by omega
   refine ⟨left, evSucc (evEq (Ev.congr (last · left) (Ev.now _)) rfl), .inr ⟨h0, Int.le_refl _, fun x hx => ?_⟩⟩
   rw [List.drop_of_length_le (Nat.le_refl _)] at hx
   cases hx
  | succ d ih =>
   intro i hi left h0 h1
   have hlt : i < l.length := by omega
   obtain ⟨v, hv, hc⟩ := hs _ (List.getElem_mem hlt) left h0 h1
   rcases hc with hc | ⟨h2, h3, h4⟩
   ·exact ⟨-1, evSucc (Ev.congr (fun k => step k left i hlt) (Ev.bind hv (evPos (by omega) (Ev.now _)))), .inl rfl⟩
   ·obtain ⟨u, hu, hd⟩ := ih (i + 1) (by omega) v h2 (by omega)
    refine ⟨u, evSucc (Ev.congr (fun k => step k left i hlt) (Ev.bind hv (evNeg (by omega) hu))), ?_⟩
    rcases hd with hd | ⟨h5, h6, h7⟩
    ·exact .inl hd
    ·refine .inr ⟨h5, by omega, fun x hx => ?_⟩
     rw [List.drop_eq_getElem_cons hlt] at hx
     rcases List.mem_cons.1 hx with rfl | hx
     ·exact h4
     ·exact h7 x hx
 intro left h0 h1
 obtain ⟨v, hv, hc⟩ := key l.length 0 (by omega) left h0 h1
 rw [List.drop_zero] at hc
 exact ⟨v, hv, hc⟩
def Sz (g : Nat → Option Int) (left : Int) (P : Prop) : Prop := ∃ v : Int, Ev g v ∧ (v = -1 ∨ 0 ≤ v ∧ v ≤ left ∧ P)
theorem Sz.flat {g : Nat → Option Int} {n : Nat} {left : Int} (hg : ∀ k, g k = if (wrap64 (left - (n : Int))) < 0 then (some (-1)) else (some (wrap64 (left - (n : Int))))) (hn : n ≤ 9223372036854775807) (h0 : 0 ≤ left) (h1 : left ≤ 1048576) : Sz g left (n ≤ 1048576) := by
 obtain ⟨v, hv, hc⟩ := szFlat n left hn h0 h1
 exact ⟨v, Ev.congr (fun k => (hg k).trans hv) (Ev.now _), hc⟩
theorem Sz.rows {α : Type} {l : List α} {left : Int} (hl : l.length ≤ 9223372036854775807) (h0 : 0 ≤ left) (h1 : left ≤ 1048576) {f : Nat → Option Int} {g : Nat → Int → Int → Option Int} {s : Nat → α → Int → Option Int} {Small : α → Prop}
 (hf : ∀ k, f k = if (wrap64 (left - (l.length : Int))) < 0 then (some (-1)) else g k (wrap64 (left - (l.length : Int))) 0)
 (last : ∀ k left, g (k + 1) left (l.length : Int) = some left)
 (step : ∀ k left (i : Nat) (h : i < l.length), g (k + 1) left (i : Int) = (s k l[i] left).bind fun t => if t < 0 then some (-1) else g k t ((i + 1 : Nat) : Int))
 (hs : ∀ x ∈ l, ∀ left : Int, 0 ≤ left → left ≤ 1048576 → Sz (fun k => s k x left) left (Small x)) : Sz f left (l.length ≤ 1048576 ∧ ∀ x ∈ l, Small x) := by
 have w : wrap64 (left - (l.length : Int)) = left - (l.length : Int) := w64 (by omega) (by omega)
 by_cases h : left - (l.length : Int) < 0
 ·exact ⟨-1, Ev.congr (fun k => (hf k).trans (by rw [w, if_pos h])) (Ev.now _), .inl rfl⟩
 ·obtain ⟨v, hv, hc⟩ := szLoop l hl g s Small last step hs (left - (l.length : Int)) (by omega) (by omega)
  refine ⟨v, Ev.congr (fun k => (hf k).trans (by rw [w, if_neg h])) hv, ?_⟩
  rcases hc with hc | ⟨h2, h3, h4⟩
  ·exact .inl hc
  ·exact .inr ⟨h2, by omega, by omega, h4⟩
theorem Sz.then {g : Nat → Option Int} {f : Nat → Int → Option Int} {left : Int} {P Q : Prop} (h : Sz g left P) (h1 : left ≤ 1048576) (k : ∀ v : Int, 0 ≤ v → v ≤ 1048576 → Sz (fun n => f n v) v Q) : Sz (fun n => (g n).bind fun t => if t < 0 then some (-1) else f n t) left (P ∧ Q) := by
 obtain ⟨v, hv, hc⟩ := h
 rcases hc with hc | ⟨h2, h3, h4⟩
 ·exact ⟨-1, Ev.bind hv (evPos (by omega) (Ev.now _)), .inl rfl⟩
 ·obtain ⟨u, hu, hd⟩ := k v h2 (by omega)
  refine ⟨u, Ev.bind hv (evNeg (by omega) hu), ?_⟩
  rcases hd with hd | ⟨h5, h6, h7⟩
  ·exact .inl hd
  ·exact .inr ⟨h5, by omega, h4, h7⟩
theorem Sz.last {g : Nat → Option Int} {left : Int} {P : Prop} (h : Sz g left P) : Sz (fun n => (g n).bind fun t => if t < 0 then some (-1) else some t) left P := by
 obtain ⟨v, hv, hc⟩ := h
 rcases hc with hc | ⟨h2, h3, h4⟩
 ·exact ⟨-1, Ev.bind hv (evPos (by omega) (Ev.now _)), .inl rfl⟩
 ·exact ⟨v, Ev.bind hv (evNeg (by omega) (Ev.now _)), .inr ⟨h2, h3, h4⟩⟩
theorem toLoop {α β : Type} (l : List α) (f : α → β) (z : β) (g : Nat → List β → Int → Option (List β)) (last : ∀ k out, g (k + 1) out (l.length : Int) = some out)
 (step : ∀ (i : Nat) (h : i < l.length) (out : List β), out.length = l.length → ∀ r, Ev (fun k => g k (out.set i (f l[i])) ((i + 1 : Nat) : Int)) r → Ev (fun k => g (k + 1) out (i : Int)) r) : Ev (fun k => g k (List.replicate l.length z) 0) (l.map f) := by
 have key := evUp (r := l.map f) l.length (fun i k => g k ((l.take i).map f ++ List.replicate (l.length - i) z) (i : Int)) ?_ ?_
 ·refine Ev.congr (fun k => ?_) key
  simp
 ·intro i hi ih
  refine evSucc (step i hi _ (by simp; omega) _ ?_)
  rw [fillStep f z l i hi]
  exact ih
 ·refine evSucc (Ev.congr (fun k => last k _) ?_)
  simp
  exact Ev.now _
theorem eqLoop (n : Nat) (g : Nat → Int → Option Bool) (last : ∀ k, g (k + 1) (n : Int) = some true) (step : ∀ i : Nat, i < n → Ev (fun k => g k ((i + 1 : Nat) : Int)) true → Ev (fun k => g (k + 1) (i : Int)) true) : Ev (fun k => g k 0) true :=
 evUp (r := true) n (fun i k => g k (i : Int)) (fun i hi ih => evSucc (step i hi ih)) (evSucc (Ev.congr last (Ev.now _)))
theorem rd_laws_Ins (l : List (S156)) (i : Nat) (hi : i < l.length) : rd_T156 l (i : Int) = l[i] := by simp [rd_T156, hi]
theorem rd_impl_Ins (l : List (S154)) (i : Nat) (hi : i < l.length) : rd_T154 l (i : Int) = l[i] := by simp [rd_T154, hi]
theorem rd_laws_Item (l : List (S139)) (i : Nat) (hi : i < l.length) : rd_T139 l (i : Int) = l[i] := by simp [rd_T139, hi]
theorem rd_impl_Item (l : List (S59)) (i : Nat) (hi : i < l.length) : rd_T59 l (i : Int) = l[i] := by simp [rd_T59, hi]
theorem rd_laws_Ring (l : List (S85)) (i : Nat) (hi : i < l.length) : rd_T85 l (i : Int) = l[i] := by simp [rd_T85, hi]
theorem rd_impl_Ring (l : List (S101)) (i : Nat) (hi : i < l.length) : rd_T101 l (i : Int) = l[i] := by simp [rd_T101, hi]
theorem rd_laws_Sender (l : List (S88)) (i : Nat) (hi : i < l.length) : rd_T88 l (i : Int) = l[i] := by simp [rd_T88, hi]
theorem rd_impl_Sender (l : List (S104)) (i : Nat) (hi : i < l.length) : rd_T104 l (i : Int) = l[i] := by simp [rd_T104, hi]
theorem rd_laws_Early (l : List (S144)) (i : Nat) (hi : i < l.length) : rd_T144 l (i : Int) = l[i] := by simp [rd_T144, hi]
theorem rd_impl_Early (l : List (S142)) (i : Nat) (hi : i < l.length) : rd_T142 l (i : Int) = l[i] := by simp [rd_T142, hi]
theorem rd_laws_Letter (l : List (S93)) (i : Nat) (hi : i < l.length) : rd_T93 l (i : Int) = l[i] := by simp [rd_T93, hi]
theorem rd_impl_Letter (l : List (S108)) (i : Nat) (hi : i < l.length) : rd_T108 l (i : Int) = l[i] := by simp [rd_T108, hi]
theorem rd_laws_Seen (l : List (S113)) (i : Nat) (hi : i < l.length) : rd_T113 l (i : Int) = l[i] := by simp [rd_T113, hi]
theorem rd_impl_Seen (l : List (S111)) (i : Nat) (hi : i < l.length) : rd_T111 l (i : Int) = l[i] := by simp [rd_T111, hi]
theorem rdLL2 (l : List (List S156)) (i : Nat) (hi : i < l.length) : rd_L2 l (i : Int) = l[i] := by simp [rd_L2, hi]
theorem rdLL3 (l : List (List (List S156))) (i : Nat) (hi : i < l.length) : rd_L3 l (i : Int) = l[i] := by simp [rd_L3, hi]
theorem rdLL18 (l : List (List S154)) (i : Nat) (hi : i < l.length) : rd_L18 l (i : Int) = l[i] := by simp [rd_L18, hi]
theorem rdLL19 (l : List (List (List S154))) (i : Nat) (hi : i < l.length) : rd_L19 l (i : Int) = l[i] := by simp [rd_L19, hi]
theorem rdInt (l : List Int) (i : Nat) (hi : i < l.length) : rd l (i : Int) = l[i] := by simp [rd, hi]
theorem wi (i : Nat) (h : i < 9223372036854775807) : wrap64 ((i : Int) + 1) = ((i + 1 : Nat) : Int) := by rw [w64 (by omega) (by omega)]; omega
theorem sz_InsS (l : List (S156)) (left : Int) (hn : l.length ≤ 9223372036854775807) (h0 : 0 ≤ left) (h1 : left ≤ 1048576) : Sz (fun _ => laws_szInsS.f l left) left (l.length ≤ 1048576) := Sz.flat (fun _ => by unfold laws_szInsS.f; rfl) hn h0 h1
theorem sz_ItemS (l : List (S139)) (left : Int) (hn : l.length ≤ 9223372036854775807) (h0 : 0 ≤ left) (h1 : left ≤ 1048576) : Sz (fun _ => laws_szItemS.f l left) left (l.length ≤ 1048576) := Sz.flat (fun _ => by unfold laws_szItemS.f; rfl) hn h0 h1
theorem sz_IntS (l : List (Int)) (left : Int) (hn : l.length ≤ 9223372036854775807) (h0 : 0 ≤ left) (h1 : left ≤ 1048576) : Sz (fun _ => laws_szIntS.f l left) left (l.length ≤ 1048576) := Sz.flat (fun _ => by unfold laws_szIntS.f; rfl) hn h0 h1
theorem sz_EntryS (l : List (S141)) (left : Int) (hn : l.length ≤ 9223372036854775807) (h0 : 0 ≤ left) (h1 : left ≤ 1048576) : Sz (fun _ => laws_szEntryS.f l left) left (l.length ≤ 1048576) := Sz.flat (fun _ => by unfold laws_szEntryS.f; rfl) hn h0 h1
theorem sz_EarlyS (l : List (S144)) (left : Int) (hn : l.length ≤ 9223372036854775807) (h0 : 0 ≤ left) (h1 : left ≤ 1048576) : Sz (fun _ => laws_szEarlyS.f l left) left (l.length ≤ 1048576) := Sz.flat (fun _ => by unfold laws_szEarlyS.f; rfl) hn h0 h1
theorem sz_SeenS (l : List (S113)) (left : Int) (hn : l.length ≤ 9223372036854775807) (h0 : 0 ≤ left) (h1 : left ≤ 1048576) : Sz (fun _ => laws_szSeenS.f l left) left (l.length ≤ 1048576) := Sz.flat (fun _ => by unfold laws_szSeenS.f; rfl) hn h0 h1
theorem sz_InsSS (l : List (List S156)) (left : Int) (hn : l.length ≤ 9223372036854775807) (hb : ∀ x ∈ l, x.length ≤ 9223372036854775807) (h0 : 0 ≤ left) (h1 : left ≤ 1048576) : Sz (fun k => laws_szInsSS.f k l left) left (l.length ≤ 1048576 ∧ ∀ x ∈ l, x.length ≤ 1048576) :=
 Sz.rows (g := fun k left i => laws_szInsSS.l0 k l left i) (s := fun k x left => laws_szInsS.f x left) (Small := fun x => x.length ≤ 1048576) hn h0 h1 (fun k => by unfold laws_szInsSS.f; rfl)
  (fun k left => by simp only [laws_szInsSS.l0]; rw [if_neg (by omega)])
  (fun k left i h => by simp only [laws_szInsSS.l0]; rw [if_pos (by omega), if_pos (by omega), rdLL2 l i h, wi i (by omega)])
  (fun x hx left h0 h1 => sz_InsS x left (hb x hx) h0 h1)
theorem sz_InsSSS (l : List (List (List S156))) (left : Int) (hn : l.length ≤ 9223372036854775807) (hb : ∀ x ∈ l, x.length ≤ 9223372036854775807 ∧ ∀ y ∈ x, y.length ≤ 9223372036854775807) (h0 : 0 ≤ left) (h1 : left ≤ 1048576) : Sz (fun k => laws_szInsSSS.f k l left) left (l.length ≤ 1048576 ∧ ∀ x ∈ l, (x.length ≤ 1048576 ∧ ∀ y ∈ x, y.length ≤ 1048576)) :=
 Sz.rows (g := fun k left i => laws_szInsSSS.l0 k l left i) (s := fun k x left => laws_szInsSS.f k x left) (Small := fun x => (x.length ≤ 1048576 ∧ ∀ y ∈ x, y.length ≤ 1048576)) hn h0 h1 (fun k => by unfold laws_szInsSSS.f; rfl)
  (fun k left => by simp only [laws_szInsSSS.l0]; rw [if_neg (by omega)])
  (fun k left i h => by simp only [laws_szInsSSS.l0]; rw [if_pos (by omega), if_pos (by omega), rdLL3 l i h, wi i (by omega)])
  (fun x hx left h0 h1 => sz_InsSS x left (hb x hx).1 (hb x hx).2 h0 h1)
theorem sz_RingS (l : List (S85)) (left : Int) (hn : l.length ≤ 9223372036854775807) (hb : ∀ x ∈ l, x.f0.length ≤ 9223372036854775807) (h0 : 0 ≤ left) (h1 : left ≤ 1048576) : Sz (fun k => laws_szRingS.f k l left) left (l.length ≤ 1048576 ∧ ∀ x ∈ l, x.f0.length ≤ 1048576) :=
 Sz.rows (g := fun k left i => laws_szRingS.l0 k l left i) (s := fun k x left => laws_szRing.f x.f0 x.f1 x.f2 x.f3 left) (Small := fun x => x.f0.length ≤ 1048576) hn h0 h1 (fun k => by unfold laws_szRingS.f; rfl)
  (fun k left => by simp only [laws_szRingS.l0]; rw [if_neg (by omega)])
  (fun k left i h => by simp only [laws_szRingS.l0]; rw [if_pos (by omega), if_pos (by omega), rd_laws_Ring l i h, wi i (by omega)])
  (fun x hx left h0 h1 => by simp only [laws_szRing.f]; exact Sz.last (sz_ItemS x.f0 left (hb x hx) h0 h1))
theorem sz_SenderS (l : List (S88)) (left : Int) (hn : l.length ≤ 9223372036854775807) (hb : ∀ x ∈ l, x.f2.length ≤ 9223372036854775807) (h0 : 0 ≤ left) (h1 : left ≤ 1048576) : Sz (fun k => laws_szSenderS.f k l left) left (l.length ≤ 1048576 ∧ ∀ x ∈ l, x.f2.length ≤ 1048576) :=
 Sz.rows (g := fun k left i => laws_szSenderS.l0 k l left i) (s := fun k x left => laws_szSender.f x.f0 x.f1 x.f2 x.f3 x.f4 left) (Small := fun x => x.f2.length ≤ 1048576) hn h0 h1 (fun k => by unfold laws_szSenderS.f; rfl)
  (fun k left => by simp only [laws_szSenderS.l0]; rw [if_neg (by omega)])
  (fun k left i h => by simp only [laws_szSenderS.l0]; rw [if_pos (by omega), if_pos (by omega), rd_laws_Sender l i h, wi i (by omega)])
  (fun x hx left h0 h1 => by simp only [laws_szSender.f]; exact Sz.last (sz_ItemS x.f2 left (hb x hx) h0 h1))
theorem sz_LetterS (l : List (S93)) (left : Int) (hn : l.length ≤ 9223372036854775807) (hb : ∀ x ∈ l, x.f1.size ≤ 9223372036854775807) (h0 : 0 ≤ left) (h1 : left ≤ 1048576) : Sz (fun k => laws_szLetterS.f k l left) left (l.length ≤ 1048576 ∧ ∀ x ∈ l, x.f1.size ≤ 1048576) :=
 Sz.rows (g := fun k left i => laws_szLetterS.l0 k l left i) (s := fun k x left => laws_szLetter.f x.f0 x.f1 x.f2 left) (Small := fun x => x.f1.size ≤ 1048576) hn h0 h1 (fun k => by unfold laws_szLetterS.f; rfl)
  (fun k left => by simp only [laws_szLetterS.l0]; rw [if_neg (by omega)])
  (fun k left i h => by simp only [laws_szLetterS.l0]; rw [if_pos (by omega), if_pos (by omega), rd_laws_Letter l i h, wi i (by omega)])
  (fun x hx left h0 h1 => Sz.flat (fun _ => by unfold laws_szLetter.f; rfl) (hb x hx) h0 h1)
theorem sz_Keeper (a : List S141) (b : List Int) (c : List S144) (d : Int) (e : List Int) (left : Int) (ha : a.length ≤ 9223372036854775807) (hb : b.length ≤ 9223372036854775807) (hc : c.length ≤ 9223372036854775807) (he : e.length ≤ 9223372036854775807) (h0 : 0 ≤ left) (h1 : left ≤ 1048576) :
 Sz (fun k => laws_szKeeper.f a b c d e left) left (a.length ≤ 1048576 ∧ b.length ≤ 1048576 ∧ c.length ≤ 1048576 ∧ e.length ≤ 1048576) := by
 simp only [laws_szKeeper.f]
 exact Sz.then (sz_EntryS a left ha h0 h1) h1 (fun v h0 h1 => Sz.then (sz_IntS b v hb h0 h1) h1 (fun v h0 h1 => Sz.then (sz_EarlyS c v hc h0 h1) h1 (fun v h0 h1 => Sz.last (sz_IntS e v he h0 h1))))
def cv_Ins (x : S156) : S154 := ⟨x.f0, x.f1, x.f2, x.f3⟩
def cv_Item (x : S139) : S59 := ⟨x.f0, x.f1, x.f2, x.f3⟩
def cv_Ring (x : S85) : S101 := ⟨x.f0.map cv_Item, x.f1, x.f2, x.f3⟩
def cv_Sender (x : S88) : S104 := ⟨x.f0, x.f1, x.f2.map cv_Item, x.f3, x.f4⟩
def cv_Early (x : S144) : S142 := ⟨x.f0, x.f1, cv_Item x.f2⟩
def cv_Letter (x : S93) : S108 := ⟨x.f0, x.f1, x.f2⟩
def cv_Seen (x : S113) : S111 := ⟨x.f0, x.f1, x.f2, x.f3⟩
theorem to_InsS (l : List (S156)) (hl : l.length ≤ 1048576) : Ev (fun k => laws_toInsS.f k l) (l.map cv_Ins) := by
 have key := toLoop l cv_Ins z154 (fun k out i => laws_toInsS.l0 k l out i) (fun k out => by simp only [laws_toInsS.l0]; rw [if_neg (by omega)]) (fun i h out ho r hr => by
  simp only [laws_toInsS.l0, laws_toIns.f, Option.bind_some]
  rw [rd_laws_Ins l i h, wi i (by omega), Int.toNat_natCast]
  exact evPos (by omega) (evPos (by omega) (evPos (by omega) hr)))
 refine Ev.congr (fun k => ?_) key
 unfold laws_toInsS.f
 rw [if_pos (by omega), if_pos (by omega), Int.toNat_natCast]
theorem to_InsSS (l : List (List S156)) (hl : l.length ≤ 1048576) (hs : ∀ x ∈ l, x.length ≤ 1048576) : Ev (fun k => laws_toInsSS.f k l) (l.map (fun x => x.map cv_Ins)) := by
 have key := toLoop l (fun x => x.map cv_Ins) [] (fun k out i => laws_toInsSS.l0 k l out i) (fun k out => by simp only [laws_toInsSS.l0]; rw [if_neg (by omega)]) (fun i h out ho r hr => by
  simp only [laws_toInsSS.l0]
  rw [rdLL2 l i h, wi i (by omega), Int.toNat_natCast]
  exact evPos (by omega) (evPos (by omega) (Ev.bind (to_InsS _ (hs _ (List.getElem_mem h))) (evPos (by omega) hr))))
 refine Ev.congr (fun k => ?_) key
 unfold laws_toInsSS.f
 rw [if_pos (by omega), if_pos (by omega), Int.toNat_natCast]
theorem to_InsSSS (l : List (List (List S156))) (hl : l.length ≤ 1048576) (hs : ∀ x ∈ l, x.length ≤ 1048576 ∧ ∀ y ∈ x, y.length ≤ 1048576) : Ev (fun k => laws_toInsSSS.f k l) (l.map (fun x => x.map (fun y => y.map cv_Ins))) := by
 have key := toLoop l (fun x => x.map (fun y => y.map cv_Ins)) [] (fun k out i => laws_toInsSSS.l0 k l out i) (fun k out => by simp only [laws_toInsSSS.l0]; rw [if_neg (by omega)]) (fun i h out ho r hr => by
  simp only [laws_toInsSSS.l0]
  rw [rdLL3 l i h, wi i (by omega), Int.toNat_natCast]
  exact evPos (by omega) (evPos (by omega) (Ev.bind (to_InsSS _ (hs _ (List.getElem_mem h)).1 (hs _ (List.getElem_mem h)).2) (evPos (by omega) hr))))
 refine Ev.congr (fun k => ?_) key
 unfold laws_toInsSSS.f
 rw [if_pos (by omega), if_pos (by omega), Int.toNat_natCast]
theorem to_ItemS (l : List (S139)) (hl : l.length ≤ 1048576) : Ev (fun k => laws_toItemS.f k l) (l.map cv_Item) := by
 have key := toLoop l cv_Item z59 (fun k out i => laws_toItemS.l0 k l out i) (fun k out => by simp only [laws_toItemS.l0]; rw [if_neg (by omega)]) (fun i h out ho r hr => by
  simp only [laws_toItemS.l0, laws_toItem.f, Option.bind_some]
  rw [rd_laws_Item l i h, wi i (by omega), Int.toNat_natCast]
  exact evPos (by omega) (evPos (by omega) (evPos (by omega) hr)))
 refine Ev.congr (fun k => ?_) key
 unfold laws_toItemS.f
 rw [if_pos (by omega), if_pos (by omega), Int.toNat_natCast]
theorem to_RingS (l : List (S85)) (hl : l.length ≤ 1048576) (hs : ∀ x ∈ l, x.f0.length ≤ 1048576) : Ev (fun k => laws_toRingS.f k l) (l.map cv_Ring) := by
 have key := toLoop l cv_Ring z101 (fun k out i => laws_toRingS.l0 k l out i) (fun k out => by simp only [laws_toRingS.l0]; rw [if_neg (by omega)]) (fun i h out ho r hr => by
  simp only [laws_toRingS.l0, laws_toRing.f]
  rw [rd_laws_Ring l i h, wi i (by omega), Int.toNat_natCast]
  exact evPos (by omega) (evPos (by omega) (Ev.bind (a := ((l[i].f0.map cv_Item), l[i].f1, l[i].f2, l[i].f3)) (Ev.bind (to_ItemS _ (hs _ (List.getElem_mem h))) (Ev.now _)) (evPos (by omega) hr))))
 refine Ev.congr (fun k => ?_) key
 unfold laws_toRingS.f
 rw [if_pos (by omega), if_pos (by omega), Int.toNat_natCast]
theorem to_SenderS (l : List (S88)) (hl : l.length ≤ 1048576) (hs : ∀ x ∈ l, x.f2.length ≤ 1048576) : Ev (fun k => laws_toSenderS.f k l) (l.map cv_Sender) := by
 have key := toLoop l cv_Sender z104 (fun k out i => laws_toSenderS.l0 k l out i) (fun k out => by simp only [laws_toSenderS.l0]; rw [if_neg (by omega)]) (fun i h out ho r hr => by
  simp only [laws_toSenderS.l0, laws_toSender.f]
  rw [rd_laws_Sender l i h, wi i (by omega), Int.toNat_natCast]
  exact evPos (by omega) (evPos (by omega) (Ev.bind (a := (l[i].f0, l[i].f1, (l[i].f2.map cv_Item), l[i].f3, l[i].f4)) (Ev.bind (to_ItemS _ (hs _ (List.getElem_mem h))) (Ev.now _)) (evPos (by omega) hr))))
 refine Ev.congr (fun k => ?_) key
 unfold laws_toSenderS.f
 rw [if_pos (by omega), if_pos (by omega), Int.toNat_natCast]
theorem to_IntS (l : List (Int)) (hl : l.length ≤ 1048576) : Ev (fun k => laws_toIntS.f k l) (l.map (fun x => x)) := by
 have key := toLoop l (fun x => x) 0 (fun k out i => laws_toIntS.l0 k l out i) (fun k out => by simp only [laws_toIntS.l0]; rw [if_neg (by omega)]) (fun i h out ho r hr => by
  simp only [laws_toIntS.l0]
  rw [rdInt l i h, wi i (by omega), Int.toNat_natCast]
  exact evPos (by omega) (evPos (by omega) (evPos (by omega) hr)))
 refine Ev.congr (fun k => ?_) key
 unfold laws_toIntS.f
 rw [if_pos (by omega), if_pos (by omega), Int.toNat_natCast]
theorem to_EarlyS (l : List (S144)) (hl : l.length ≤ 1048576) : Ev (fun k => laws_toEarlyS.f k l) (l.map cv_Early) := by
 have key := toLoop l cv_Early z142 (fun k out i => laws_toEarlyS.l0 k l out i) (fun k out => by simp only [laws_toEarlyS.l0]; rw [if_neg (by omega)]) (fun i h out ho r hr => by
  simp only [laws_toEarlyS.l0, laws_toEarly.f, laws_toItem.f, Option.bind_some]
  rw [rd_laws_Early l i h, wi i (by omega), Int.toNat_natCast]
  exact evPos (by omega) (evPos (by omega) (evPos (by omega) hr)))
 refine Ev.congr (fun k => ?_) key
 unfold laws_toEarlyS.f
 rw [if_pos (by omega), if_pos (by omega), Int.toNat_natCast]
theorem to_LetterS (l : List (S93)) (hl : l.length ≤ 1048576) : Ev (fun k => laws_toLetterS.f k l) (l.map cv_Letter) := by
 have key := toLoop l cv_Letter z108 (fun k out i => laws_toLetterS.l0 k l out i) (fun k out => by simp only [laws_toLetterS.l0]; rw [if_neg (by omega)]) (fun i h out ho r hr => by
  simp only [laws_toLetterS.l0, laws_toLetter.f, Option.bind_some]
  rw [rd_laws_Letter l i h, wi i (by omega), Int.toNat_natCast]
  exact evPos (by omega) (evPos (by omega) (evPos (by omega) hr)))
 refine Ev.congr (fun k => ?_) key
 unfold laws_toLetterS.f
 rw [if_pos (by omega), if_pos (by omega), Int.toNat_natCast]
theorem to_SeenS (l : List (S113)) (hl : l.length ≤ 1048576) : Ev (fun k => laws_toSeenS.f k l) (l.map cv_Seen) := by
 have key := toLoop l cv_Seen z111 (fun k out i => laws_toSeenS.l0 k l out i) (fun k out => by simp only [laws_toSeenS.l0]; rw [if_neg (by omega)]) (fun i h out ho r hr => by
  simp only [laws_toSeenS.l0, laws_toSeen.f, Option.bind_some]
  rw [rd_laws_Seen l i h, wi i (by omega), Int.toNat_natCast]
  exact evPos (by omega) (evPos (by omega) (evPos (by omega) hr)))
 refine Ev.congr (fun k => ?_) key
 unfold laws_toSeenS.f
 rw [if_pos (by omega), if_pos (by omega), Int.toNat_natCast]
theorem eq_InsS (l : List (S154)) (hl : l.length ≤ 1048576) : Ev (fun k => laws_eqInsS.f k l l) true := by
 have key := eqLoop l.length (fun k i => laws_eqInsS.l0 k l l i) (fun k => by simp only [laws_eqInsS.l0]; rw [if_neg (by omega)]) (fun i h ih => by
  simp only [laws_eqInsS.l0]
  rw [rd_impl_Ins l i h, wi i (by omega)]
  exact evPos (by omega) (evPos (by omega) (evPos (by omega) (evBindS (a := true) (by simp [laws_eqIns.f]) (evPos rfl ih)))))
 refine Ev.congr (fun k => ?_) key
 unfold laws_eqInsS.f
 rw [if_pos rfl]
theorem eq_InsSS (l : List (List S154)) (hl : l.length ≤ 1048576) (hs : ∀ x ∈ l, x.length ≤ 1048576) : Ev (fun k => laws_eqInsSS.f k l l) true := by
 have key := eqLoop l.length (fun k i => laws_eqInsSS.l0 k l l i) (fun k => by simp only [laws_eqInsSS.l0]; rw [if_neg (by omega)]) (fun i h ih => by
  simp only [laws_eqInsSS.l0]
  rw [rdLL18 l i h, wi i (by omega)]
  exact evPos (by omega) (evPos (by omega) (evPos (by omega) (Ev.bind (eq_InsS _ (hs _ (List.getElem_mem h))) (evPos rfl ih)))))
 refine Ev.congr (fun k => ?_) key
 unfold laws_eqInsSS.f
 rw [if_pos rfl]
theorem eq_InsSSS (l : List (List (List S154))) (hl : l.length ≤ 1048576) (hs : ∀ x ∈ l, x.length ≤ 1048576 ∧ ∀ y ∈ x, y.length ≤ 1048576) : Ev (fun k => laws_eqInsSSS.f k l l) true := by
 have key := eqLoop l.length (fun k i => laws_eqInsSSS.l0 k l l i) (fun k => by simp only [laws_eqInsSSS.l0]; rw [if_neg (by omega)]) (fun i h ih => by
  simp only [laws_eqInsSSS.l0]
  rw [rdLL19 l i h, wi i (by omega)]
  exact evPos (by omega) (evPos (by omega) (evPos (by omega) (Ev.bind (eq_InsSS _ (hs _ (List.getElem_mem h)).1 (hs _ (List.getElem_mem h)).2) (evPos rfl ih)))))
 refine Ev.congr (fun k => ?_) key
 unfold laws_eqInsSSS.f
 rw [if_pos rfl]
theorem eq_ItemS (l : List (S59)) (hl : l.length ≤ 1048576) : Ev (fun k => laws_eqItemS.f k l l) true := by
 have key := eqLoop l.length (fun k i => laws_eqItemS.l0 k l l i) (fun k => by simp only [laws_eqItemS.l0]; rw [if_neg (by omega)]) (fun i h ih => by
  simp only [laws_eqItemS.l0]
  rw [rd_impl_Item l i h, wi i (by omega)]
  exact evPos (by omega) (evPos (by omega) (evPos (by omega) (evBindS (a := true) (by simp [laws_eqItem.f]) (evPos rfl ih)))))
 refine Ev.congr (fun k => ?_) key
 unfold laws_eqItemS.f
 rw [if_pos rfl]
theorem eq_RingS (l : List (S101)) (hl : l.length ≤ 1048576) (hs : ∀ x ∈ l, x.f0.length ≤ 1048576) : Ev (fun k => laws_eqRingS.f k l l) true := by
 have key := eqLoop l.length (fun k i => laws_eqRingS.l0 k l l i) (fun k => by simp only [laws_eqRingS.l0]; rw [if_neg (by omega)]) (fun i h ih => by
  simp only [laws_eqRingS.l0, laws_eqRing.f]
  rw [rd_impl_Ring l i h, wi i (by omega)]
  exact evPos (by omega) (evPos (by omega) (evPos (by omega) (Ev.bind (a := true) (Ev.bind (eq_ItemS _ (hs _ (List.getElem_mem h))) (evPos (by trivial) (evPos (by trivial) (evPos (by trivial) (evPos (by trivial) (Ev.now _)))))) (evPos (by trivial) ih)))))
 refine Ev.congr (fun k => ?_) key
 unfold laws_eqRingS.f
 rw [if_pos rfl]
theorem eq_SenderS (l : List (S104)) (hl : l.length ≤ 1048576) (hs : ∀ x ∈ l, x.f2.length ≤ 1048576) : Ev (fun k => laws_eqSenderS.f k l l) true := by
 have key := eqLoop l.length (fun k i => laws_eqSenderS.l0 k l l i) (fun k => by simp only [laws_eqSenderS.l0]; rw [if_neg (by omega)]) (fun i h ih => by
  simp only [laws_eqSenderS.l0, laws_eqSender.f]
  rw [rd_impl_Sender l i h, wi i (by omega)]
  exact evPos (by omega) (evPos (by omega) (evPos (by omega) (Ev.bind (a := true) (evPos (by trivial) (evPos (by trivial) (Ev.bind (eq_ItemS _ (hs _ (List.getElem_mem h))) (evPos (by trivial) (evPos (by trivial) (evPos (by trivial) (Ev.now _))))))) (evPos (by trivial) ih)))))
 refine Ev.congr (fun k => ?_) key
 unfold laws_eqSenderS.f
 rw [if_pos rfl]
theorem eq_IntS (l : List (Int)) (hl : l.length ≤ 1048576) : Ev (fun k => laws_eqIntS.f k l l) true := by
 have key := eqLoop l.length (fun k i => laws_eqIntS.l0 k l l i) (fun k => by simp only [laws_eqIntS.l0]; rw [if_neg (by omega)]) (fun i h ih => by
  simp only [laws_eqIntS.l0]
  rw [wi i (by omega)]
  exact evPos (by omega) (evPos (by omega) (evPos (by omega) (evPos (by trivial) ih))))
 refine Ev.congr (fun k => ?_) key
 unfold laws_eqIntS.f
 rw [if_pos rfl]
theorem eq_EarlyS (l : List (S142)) (hl : l.length ≤ 1048576) : Ev (fun k => laws_eqEarlyS.f k l l) true := by
 have key := eqLoop l.length (fun k i => laws_eqEarlyS.l0 k l l i) (fun k => by simp only [laws_eqEarlyS.l0]; rw [if_neg (by omega)]) (fun i h ih => by
  simp only [laws_eqEarlyS.l0]
  rw [rd_impl_Early l i h, wi i (by omega)]
  exact evPos (by omega) (evPos (by omega) (evPos (by omega) (evBindS (a := true) (by simp [laws_eqEarly.f, laws_eqItem.f]) (evPos rfl ih)))))
 refine Ev.congr (fun k => ?_) key
 unfold laws_eqEarlyS.f
 rw [if_pos rfl]
theorem eq_LetterS (l : List (S108)) (hl : l.length ≤ 1048576) : Ev (fun k => laws_eqLetterS.f k l l) true := by
 have key := eqLoop l.length (fun k i => laws_eqLetterS.l0 k l l i) (fun k => by simp only [laws_eqLetterS.l0]; rw [if_neg (by omega)]) (fun i h ih => by
  simp only [laws_eqLetterS.l0]
  rw [rd_impl_Letter l i h, wi i (by omega)]
  exact evPos (by omega) (evPos (by omega) (evPos (by omega) (evBindS (a := true) (by simp [laws_eqLetter.f]) (evPos rfl ih)))))
 refine Ev.congr (fun k => ?_) key
 unfold laws_eqLetterS.f
 rw [if_pos rfl]
theorem eq_SeenS (l : List (S111)) (hl : l.length ≤ 1048576) : Ev (fun k => laws_eqSeenS.f k l l) true := by
 have key := eqLoop l.length (fun k i => laws_eqSeenS.l0 k l l i) (fun k => by simp only [laws_eqSeenS.l0]; rw [if_neg (by omega)]) (fun i h ih => by
  simp only [laws_eqSeenS.l0]
  rw [rd_impl_Seen l i h, wi i (by omega)]
  exact evPos (by omega) (evPos (by omega) (evPos (by omega) (evBindS (a := true) (by simp [laws_eqSeen.f]) (evPos rfl ih)))))
 refine Ev.congr (fun k => ?_) key
 unfold laws_eqSeenS.f
 rw [if_pos rfl]
theorem okE_ok (l : List S141) (h : ∀ e ∈ l, PureFnExactShowWorld.ok141 e) : ∀ x ∈ l.map cvEntry, okE6 x := by
 intro x hx
 obtain ⟨y, hy, rfl⟩ := List.mem_map.1 hx
 have := h y hy
 exact ⟨okI64 this.1, okI64 this.2.1, okI64 this.2.2.2.1, okI64 this.2.2.2.2.1, okI64 this.2.2.2.2.2⟩
theorem FnExactShowWorld : PureFnExactShowWorld.Stated := by
 intro x ⟨⟨hb0, hl0⟩, ⟨hb1, hl1⟩, ⟨hb2, hl2⟩, ⟨⟨hk0, hkl0⟩, ⟨_, hkl1⟩, ⟨_, hkl2⟩, hsv, ⟨_, hkl4⟩⟩, ⟨hb4, hl4⟩, _, ⟨_, hl6⟩, ⟨_, hl7⟩⟩
 refine Ev.rounds ?_
 simp only [laws_FnExactShowWorld.f]
 have hsz : Sz (fun k => laws_szWorld.f k x.f0 x.f1 x.f2 x.f3.f0 x.f3.f1 x.f3.f2 x.f3.f3 x.f3.f4 x.f4 x.f5 x.f6 x.f7 1048576) 1048576 ((x.f0.length ≤ 1048576 ∧ ∀ a ∈ x.f0, (a.length ≤ 1048576 ∧ ∀ b ∈ a, b.length ≤ 1048576)) ∧ (x.f1.length ≤ 1048576 ∧ ∀ a ∈ x.f1, a.f0.length ≤ 1048576) ∧ (x.f2.length ≤ 1048576 ∧ ∀ a ∈ x.f2, a.f2.length ≤ 1048576) ∧ (x.f3.f0.length ≤ 1048576 ∧ x.f3.f1.length ≤ 1048576 ∧ x.f3.f2.length ≤ 1048576 ∧ x.f3.f4.length ≤ 1048576) ∧ (x.f4.length ≤ 1048576 ∧ ∀ a ∈ x.f4, a.f1.size ≤ 1048576) ∧ x.f6.length ≤ 1048576 ∧ x.f7.length ≤ 1048576) := by
  simp only [laws_szWorld.f]
  exact Sz.then (sz_InsSSS x.f0 1048576 hl0 (fun a ha => ⟨(hb0 a ha).2, fun b hb => ((hb0 a ha).1 b hb).2⟩) (by omega) (by omega)) (by omega) (fun v h0 h1 =>
   Sz.then (sz_RingS x.f1 v hl1 (fun a ha => (hb1 a ha).1.2) h0 h1) h1 (fun v h0 h1 =>
   Sz.then (sz_SenderS x.f2 v hl2 (fun a ha => (hb2 a ha).2.2.1.2) h0 h1) h1 (fun v h0 h1 =>
   Sz.then (sz_Keeper x.f3.f0 x.f3.f1 x.f3.f2 x.f3.f3 x.f3.f4 v hkl0 hkl1 hkl2 hkl4 h0 h1) h1 (fun v h0 h1 =>
   Sz.then (sz_LetterS x.f4 v hl4 (fun a ha => (hb4 a ha).2.1) h0 h1) h1 (fun v h0 h1 =>
   Sz.then (sz_IntS x.f6 v hl6 h0 h1) h1 (fun v h0 h1 => Sz.last (sz_SeenS x.f7 v hl7 h0 h1)))))))
 obtain ⟨v, hv, hc⟩ := hsz
 refine Ev.bind hv ?_
 rcases hc with hc | ⟨h0, _, ⟨a1, a2⟩, ⟨b1, b2⟩, ⟨c1, c2⟩, ⟨d1, d2, d3, d4⟩, ⟨e1, _⟩, f1, g1⟩
 ·exact evPos (by omega) (Ev.now _)
 refine evNeg (by omega) ?_
 have et : Ev (fun k => laws_toWorld.f k x.f0 x.f1 x.f2 x.f3.f0 x.f3.f1 x.f3.f2 x.f3.f3 x.f3.f4 x.f4 x.f5 x.f6 x.f7) (x.f0.map (fun a => a.map (fun b => b.map cv_Ins)), x.f1.map cv_Ring, x.f2.map cv_Sender, x.f3.f0.map cvEntry, x.f3.f1.map (fun a => a), x.f3.f2.map cv_Early, x.f3.f3, x.f3.f4.map (fun a => a), x.f4.map cv_Letter, x.f5, x.f6.map (fun a => a), x.f7.map cv_Seen) := by
  simp only [laws_toWorld.f]
  refine Ev.bind (to_InsSSS x.f0 a1 a2) (Ev.bind (to_RingS x.f1 b1 b2) (Ev.bind (to_SenderS x.f2 c1 c2) (Ev.bind (a := (x.f3.f0.map cvEntry, x.f3.f1.map (fun a => a), x.f3.f2.map cv_Early, x.f3.f3, x.f3.f4.map (fun a => a))) ?_ (Ev.bind (to_LetterS x.f4 e1) (Ev.bind (to_IntS x.f6 f1) (Ev.bind (to_SeenS x.f7 g1) (Ev.now _)))))))
  simp only [laws_toKeeper.f]
  exact Ev.bind (ev_toEntryS x.f3.f0 d1) (Ev.bind (to_IntS x.f3.f1 d2) (Ev.bind (to_EarlyS x.f3.f2 d3) (Ev.bind (to_IntS x.f3.f4 d4) (Ev.now _))))
 have hk := okE_ok x.f3.f0 hk0
 have hln : (x.f3.f0.map cvEntry).length ≤ 1048576 := by rw [List.length_map]; exact d1
 have hs := okI64 hsv
 refine Ev.bind et (Ev.bind (ev_spec_ShowWorld _ _ _ _ _ _ _ _ _ _ _ _ hln hk hs) (Ev.bind et (Ev.bind (ev_impl_ShowWorld _ _ _ _ _ _ _ _ _ _ _ _ hln hk hs) (evPos (by trivial) (Ev.bind et ?_)))))
 refine Ev.bind (a := true) ?_ (evPos (by trivial) (Ev.now _))
 simp only [laws_eqWorld.f]
 refine Ev.bind (eq_InsSSS _ (by rw [List.length_map]; exact a1) (fun y hy => ?_)) (evPos (by trivial) (Ev.bind (eq_RingS _ (by rw [List.length_map]; exact b1) (fun y hy => ?_)) (evPos (by trivial) (Ev.bind (eq_SenderS _ (by rw [List.length_map]; exact c1) (fun y hy => ?_)) (evPos (by trivial) (Ev.bind (a := true) ?_ (evPos (by trivial) (Ev.bind (eq_LetterS _ (by rw [List.length_map]; exact e1)) (evPos (by trivial) (evPos (by trivial) (Ev.bind (eq_IntS _ (by rw [List.length_map]; exact f1)) (evPos (by trivial) (Ev.bind (eq_SeenS _ (by rw [List.length_map]; exact g1)) (evPos (by trivial) (Ev.now _)))))))))))))))
 ·obtain ⟨z, hz, rfl⟩ := List.mem_map.1 hy
  refine ⟨by rw [List.length_map]; exact (a2 z hz).1, fun u hu => ?_⟩
  obtain ⟨q, hq, rfl⟩ := List.mem_map.1 hu
  rw [List.length_map]; exact (a2 z hz).2 q hq
 ·obtain ⟨z, hz, rfl⟩ := List.mem_map.1 hy
  show (z.f0.map cv_Item).length ≤ _
  rw [List.length_map]; exact b2 z hz
 ·obtain ⟨z, hz, rfl⟩ := List.mem_map.1 hy
  show (z.f2.map cv_Item).length ≤ _
  rw [List.length_map]; exact c2 z hz
 ·simp only [laws_eqKeeper.f]
  exact Ev.bind (ev_eqEntryS _ hln) (evPos (by trivial) (Ev.bind (eq_IntS _ (by rw [List.length_map]; exact d2)) (evPos (by trivial) (Ev.bind (eq_EarlyS _ (by rw [List.length_map]; exact d3)) (evPos (by trivial) (evPos (by trivial) (Ev.bind (eq_IntS _ (by rw [List.length_map]; exact d4)) (evPos (by trivial) (Ev.now _)))))))))

end Go.Proofs.YtcbjlcgfhbfneaaGreatDoor.Pure

namespace Go.Proofs.YtcbjlcgfhbfneaaGreatDoor.fnExactShowWorld
open Go.ChangeShapes Go.WideShapes Go.ChangeAt Go.RowKit Go.Proofs.YtcbjlcgfhbfneaaGreatDoor.PA Go.Proofs.YtcbjlcgfhbfneaaGreatDoor.PureFnExactShowWorld Go.Proofs.YtcbjlcgfhbfneaaGreatDoorW.PrintWords
open Go.ChangeMaps (open_string shut_string)
set_option linter.unusedVariables false
set_option linter.unusedSimpArgs false
theorem own : ownKnob Tryz.prog.godebug = none := by kernel_rfl
theorem laidOut : laidOutB Tryz.prog = true := by kernel_rfl
def laidV : List (String × DataW Unit) := [("loop.example/g00397/impl.shaWords", Rows.laid_loop_example_g00397_impl_shaWords)]
theorem gTab : Tryz.prog.globalNamed "loop.example/g00397/impl.shaWords" = some 0 := by kernel_rfl
theorem gTabType : (Tryz.prog.globals[0]?).map (·.type) = some 129 := by kernel_rfl
theorem door_met (os : Os) (args : Array Value) : laidMetH Tryz.prog laidV ((World.doorLaid Tryz.prog 4000 os).forCall (fun _ _ => 0) ⟨#[], args, []⟩).memory :=
 laidMetH_of_parts3 (fuel := 8) (laidMet_of_run' 8 (by kernel_rfl) (by kernel_rfl)) (by kernel_rfl) (by kernel_rfl)
theorem vars_back {H : Type} {enc : TypeId × Value → H} {W W' : World} (hb : Below W.heap.size W W') {gs : List (DataW H)} {ps : List MemPlace} (h : DataW.TrodVars enc Tryz.prog W (fun _ => true) ["loop.example/g00397/impl.shaWords"] gs ps) :
 DataW.TrodVars enc Tryz.prog W' (fun b => decide (b < W.heap.size)) ["loop.example/g00397/impl.shaWords"] gs ps := by
 obtain ⟨g, t, cs, fu, d, p, rfl, hg, ht, hv, htr, rfl⟩ := trodVars_one h
 have hg2 := hg
 have ht2 := ht
 obtain rfl := Option.some.inj (gTab.symm.trans hg)
 obtain rfl := Option.some.inj (gTabType.symm.trans ht)
 have lt := DataW.trod_lt _ _ _ _ htr
 have hk : DataW.Trod enc Tryz.prog W' 0 (fun b => decide (b < W.heap.size)) true 129 (.agg cs) d p := Below.trod laidOut (by kernel_rfl) (of_decide_eq_true (by kernel_rfl)) (show DataW.Trod enc Tryz.prog W 0 (fun _ => true) true 129 (.agg cs) d p from ⟨fu, htr⟩) hb lt
 obtain ⟨m, hm⟩ := hk
 have hv2 : W'.var? Tryz.prog "loop.example/g00397/impl.shaWords" = some cs := by
  unfold World.var? at hv ⊢
  rw [gTab, Option.bind_some] at hv ⊢
  have hlt : 0 < W.heap.size := by
   rcases Nat.lt_or_ge 0 W.heap.size with h' | h'
   ·exact h'
   ·rw [Array.getElem?_eq_none h'] at hv; cases hv
  rw [hb.block 0 hlt]
  exact hv
 exact trodVars_mk1 hg2 ht2 hv2 hm
theorem op156 : Op.Opens Tryz.prog k156 156 ok156 := Op.opStruct Tryz.underlying156 (by kernel_rfl) (Op.fieldsCons (Op.opInt Tryz.underlying3 (by kernel_rfl)) rfl (Op.fieldsCons (Op.opInt Tryz.underlying3 (by kernel_rfl)) rfl (Op.fieldsCons (Op.opInt Tryz.underlying3 (by kernel_rfl)) rfl (Op.fieldsOne (Op.opInt Tryz.underlying3 (by kernel_rfl)) rfl)))) (fun a => ⟨a.1, a.2.1, a.2.2.1, a.2.2.2⟩) (fun a => rfl) (fun a h => h)
theorem op139 : Op.Opens Tryz.prog k139 139 ok139 := Op.opStruct Tryz.underlying139 (by kernel_rfl) (Op.fieldsCons (Op.opInt Tryz.underlying3 (by kernel_rfl)) rfl (Op.fieldsCons (Op.opInt Tryz.underlying3 (by kernel_rfl)) rfl (Op.fieldsCons (Op.opInt Tryz.underlying3 (by kernel_rfl)) rfl (Op.fieldsOne (Op.opInt Tryz.underlying3 (by kernel_rfl)) rfl)))) (fun a => ⟨a.1, a.2.1, a.2.2.1, a.2.2.2⟩) (fun a => rfl) (fun a h => h)
theorem op85 : Op.Opens Tryz.prog k85 85 ok85 := Op.opStruct Tryz.underlying85 (by kernel_rfl) (Op.fieldsCons (Op.opSlice Tryz.underlying83 (by kernel_rfl) 139 op139) rfl (Op.fieldsCons (Op.opInt Tryz.underlying3 (by kernel_rfl)) rfl (Op.fieldsCons (Op.opInt Tryz.underlying3 (by kernel_rfl)) rfl (Op.fieldsOne (Op.opInt Tryz.underlying3 (by kernel_rfl)) rfl)))) (fun a => ⟨a.1, a.2.1, a.2.2.1, a.2.2.2⟩) (fun a => rfl) (fun a h => h)
theorem op88 : Op.Opens Tryz.prog k88 88 ok88 := Op.opStruct Tryz.underlying88 (by kernel_rfl) (Op.fieldsCons (Op.opInt Tryz.underlying3 (by kernel_rfl)) rfl (Op.fieldsCons (Op.opInt Tryz.underlying3 (by kernel_rfl)) rfl (Op.fieldsCons (Op.opSlice Tryz.underlying83 (by kernel_rfl) 139 op139) rfl (Op.fieldsCons (Op.opInt Tryz.underlying3 (by kernel_rfl)) rfl (Op.fieldsOne (Op.opInt Tryz.underlying3 (by kernel_rfl)) rfl))))) (fun a => ⟨a.1, a.2.1, a.2.2.1, a.2.2.2.1, a.2.2.2.2⟩) (fun a => rfl) (fun a h => h)
theorem op141 : Op.Opens Tryz.prog k141 141 ok141 := Op.opStruct Tryz.underlying141 (by kernel_rfl) (Op.fieldsCons (Op.opInt Tryz.underlying3 (by kernel_rfl)) rfl (Op.fieldsCons (Op.opInt Tryz.underlying3 (by kernel_rfl)) rfl (Op.fieldsOne op139 rfl))) (fun a => ⟨a.1, a.2.1, a.2.2⟩) (fun a => rfl) (fun a h => h)
theorem op144 : Op.Opens Tryz.prog k144 144 ok144 := Op.opStruct Tryz.underlying144 (by kernel_rfl) (Op.fieldsCons (Op.opInt Tryz.underlying3 (by kernel_rfl)) rfl (Op.fieldsCons (Op.opInt Tryz.underlying3 (by kernel_rfl)) rfl (Op.fieldsOne op139 rfl))) (fun a => ⟨a.1, a.2.1, a.2.2⟩) (fun a => rfl) (fun a h => h)
theorem op29 : Op.Opens Tryz.prog k29 29 ok29 := Op.opStruct Tryz.underlying29 (by kernel_rfl) (Op.fieldsCons (Op.opSlice Tryz.underlying25 (by kernel_rfl) 141 op141) rfl (Op.fieldsCons (Op.opSlice Tryz.underlying26 (by kernel_rfl) 3 (Op.opInt Tryz.underlying3 (by kernel_rfl))) rfl (Op.fieldsCons (Op.opSlice Tryz.underlying27 (by kernel_rfl) 144 op144) rfl (Op.fieldsCons (Op.opInt Tryz.underlying3 (by kernel_rfl)) rfl (Op.fieldsOne (Op.opSlice Tryz.underlying26 (by kernel_rfl) 3 (Op.opInt Tryz.underlying3 (by kernel_rfl))) rfl))))) (fun a => ⟨a.1, a.2.1, a.2.2.1, a.2.2.2.1, a.2.2.2.2⟩) (fun a => rfl) (fun a h => h)
theorem op93 : Op.Opens Tryz.prog k93 93 ok93 := Op.opStruct Tryz.underlying93 (by kernel_rfl) (Op.fieldsCons (Op.opBool Tryz.underlying4 (by kernel_rfl)) rfl (Op.fieldsCons (Op.opStr Tryz.underlying9 (by kernel_rfl)) rfl (Op.fieldsOne (Op.opBool Tryz.underlying4 (by kernel_rfl)) rfl))) (fun a => ⟨a.1, a.2.1, a.2.2⟩) (fun a => rfl) (fun a h => h)
theorem op113 : Op.Opens Tryz.prog k113 113 ok113 := Op.opStruct Tryz.underlying113 (by kernel_rfl) (Op.fieldsCons (Op.opInt Tryz.underlying3 (by kernel_rfl)) rfl (Op.fieldsCons (Op.opInt Tryz.underlying3 (by kernel_rfl)) rfl (Op.fieldsCons (Op.opInt Tryz.underlying3 (by kernel_rfl)) rfl (Op.fieldsOne (Op.opBool Tryz.underlying4 (by kernel_rfl)) rfl)))) (fun a => ⟨a.1, a.2.1, a.2.2.1, a.2.2.2⟩) (fun a => rfl) (fun a h => h)
theorem op33 : Op.Opens Tryz.prog k33 33 ok33 := Op.opStruct Tryz.underlying33 (by kernel_rfl) (Op.fieldsCons (Op.opSlice Tryz.underlying22 (by kernel_rfl) 81 (Op.opSlice Tryz.underlying81 (by kernel_rfl) 124 (Op.opSlice Tryz.underlying124 (by kernel_rfl) 156 op156))) rfl (Op.fieldsCons (Op.opSlice Tryz.underlying23 (by kernel_rfl) 85 op85) rfl (Op.fieldsCons (Op.opSlice Tryz.underlying24 (by kernel_rfl) 88 op88) rfl (Op.fieldsCons op29 rfl (Op.fieldsCons (Op.opSlice Tryz.underlying30 (by kernel_rfl) 93 op93) rfl (Op.fieldsCons (Op.opInt Tryz.underlying3 (by kernel_rfl)) rfl (Op.fieldsCons (Op.opSlice Tryz.underlying26 (by kernel_rfl) 3 (Op.opInt Tryz.underlying3 (by kernel_rfl))) rfl (Op.fieldsOne (Op.opSlice Tryz.underlying31 (by kernel_rfl) 113 op113) rfl)))))))) (fun a => ⟨a.1, a.2.1, a.2.2.1, a.2.2.2.1, a.2.2.2.2.1, a.2.2.2.2.2.1, a.2.2.2.2.2.2.1, a.2.2.2.2.2.2.2⟩) (fun a => rfl) (fun a h => h)
set_option maxRecDepth 100000 in
theorem lifted (os : Os) (started : os.Started) (H : Type) (enc : TypeId × Value → H) :
 ReturnsInHanded {} Tryz.checked os 3 .any (fun w args => (Rows.fnExactShowWorldSpec.pre enc Tryz.prog Tryz.f3 [] false w args ∧ laidMetH Tryz.prog laidV w) ∧ sizedMet enc Tryz.prog Tryz.f3 (OpenSpec.ofChange Rows.fnExactShowWorldSpec) false w args) (Rows.fnExactShowWorldSpec.post enc Tryz.prog Tryz.f3 false true false false) := by
 refine returnsInHanded_of_change_and (C := Tryz.checked) (X := fun w _ => laidMetH Tryz.prog laidV w) (fun _ _ _ hh h => h.of_heap hh) own started (by kernel_rfl) Tryz.func3
  (ChangeSpec.witness_shaped (enc := enc) (C := Tryz.checked) (os := os) (X := fun w _ => laidMetH Tryz.prog laidV w) false (World.doorLaid Tryz.prog 4000 os) #[.agg #[.slice none 0 0, .slice none 0 0, .slice none 0 0, .slice none 0 0, .slice none 0 0, .slice none 0 0, .int .i64 0, .slice none 0 0, .slice none 0 0, .int .i64 0, .slice none 0 0, .slice none 0 0]] 8 rfl (World.shaped_of_RefB (by kernel_rfl) (by kernel_rfl)) (by kernel_rfl) (by kernel_rfl) (by kernel_rfl) (door_met os _)) ?_
 intro W base args ds gs before hval0 hW _ _ hL _
 have hT : PA.Tab W := by
  rw [MakeChecks.laidMetH_plain _ _ _ (by kernel_rfl)] at hL
  exact Lib.tabIs_of_head (rest := []) gTab gTabType (t := 129) (e := 126) (n := 64) (by kernel_rfl) (by kernel_rfl) (by kernel_rfl) (by kernel_rfl) hL
 have hval : ∀ (j : Nat) t v, Tryz.f3.params[j]? = some t → args[j]? = some v → Value.okWide Tryz.prog W .any base t v := hval0
 have hW' := hW
 obtain ⟨p, q, hA0, hV, rfl, hfz, hnd⟩ := hW
 have hA : DataW.TrodAll enc Tryz.prog W 0 (fun _ => true) true Tryz.f3.params.toList args.toList ds p := hA0
 rw [Tryz.params3] at hA hval
 obtain ⟨v0, vs0, d0, ds0, p0, q0, hargs, rfl, rfl, h0, r0⟩ := trodAll_cons hA
 obtain ⟨rfl, rfl, rfl⟩ := trodAll_nil r0
 obtain rfl : args = #[v0] := by cases args; simp_all
 obtain ⟨g1, t1, cs1, fu1, dv, pv1, rfl, _⟩ := trodVars_one hV
 have k0 := h0
 have lt0 : ∀ x ∈ p0, x.block < W.heap.size := by obtain ⟨m, hm⟩ := k0; exact DataW.trod_lt m _ _ _ hm
 obtain ⟨m0, hm0⟩ := h0
 obtain ⟨cs0, rfl, _⟩ := okWide_struct Tryz.underlying33 (hval 0 33 v0 rfl rfl)
 obtain ⟨x0, hK0, hG0⟩ := op33.op hm0
 obtain ⟨A0_0, c0_0, A0_1, c0_1, A0_2, c0_2, A0_3, c0_3, A0_4, c0_4, A0_5, c0_5, A0_7, c0_7, A0_8, c0_8, A0_10, c0_10, A0_11, c0_11, hs0, hc0_0, hr0_0, hc0_1, hr0_1, hc0_2, hr0_2, hc0_3, hr0_3, hc0_4, hr0_4, hc0_5, hr0_5, hc0_7, hr0_7, hc0_8, hr0_8, hc0_10, hr0_10, hc0_11, hr0_11⟩ := k33_open hK0
 obtain rfl : cs0 = #[.slice A0_0 x0.f0.length c0_0, .slice A0_1 x0.f1.length c0_1, .slice A0_2 x0.f2.length c0_2, .slice A0_3 x0.f3.f0.length c0_3, .slice A0_4 x0.f3.f1.length c0_4, .slice A0_5 x0.f3.f2.length c0_5, .int .i64 x0.f3.f3, .slice A0_7 x0.f3.f4.length c0_7, .slice A0_8 x0.f4.length c0_8, .int .i64 x0.f5, .slice A0_10 x0.f6.length c0_10, .slice A0_11 x0.f7.length c0_11] := Array.toList_inj.1 hs0
 obtain ⟨k, h⟩ := Pure.FnExactShowWorld x0 hG0
 refine (laws_FnExactShowWorld.calls k A0_0 c0_0 x0.f0 A0_1 c0_1 x0.f1 A0_2 c0_2 x0.f2 A0_3 c0_3 x0.f3.f0 A0_4 c0_4 x0.f3.f1 A0_5 c0_5 x0.f3.f2 x0.f3.f3 A0_7 c0_7 x0.f3.f4 A0_8 c0_8 x0.f4 x0.f5 A0_10 c0_10 x0.f6 A0_11 c0_11 x0.f7 true W hr0_0 hc0_0 hr0_1 hc0_1 hr0_2 hc0_2 hr0_3 hc0_3 hr0_4 hc0_4 hr0_5 hc0_5 hr0_7 hc0_7 hr0_8 hc0_8 hr0_10 hc0_10 hr0_11 hc0_11 hT rfl h).mono fun e W' ⟨he, bel⟩ => ?_
 subst he
 exact ⟨_, rfl, _, _, _, [], _, _, hW', trodAll_mk1 (shut_bool Tryz.underlying4 _), (trodAll_cons_mk (Below.trod laidOut (by kernel_rfl) (of_decide_eq_true (by kernel_rfl)) k0 bel lt0) trodAll_mk0), vars_back bel hV, bel.frame _, fun h => by cases h⟩
theorem over : Rows.fnExactShowWorldRow.holds Tryz.pinned (OpenSpec.ofChange Rows.fnExactShowWorldSpec) :=
 OpenClaim.holds_of_wide 3 Tryz.f3 rfl rfl rfl rfl rfl rfl rfl ⟨rfl, rfl, rfl, rfl, rfl⟩ rfl rfl rfl rfl rfl (by kernel_rfl) Tryz.func3 (by kernel_rfl)
  (of_decide_eq_true (by kernel_rfl)) (by unfold Func.isWrapper; first | (rw [if_pos (by decide +kernel)]; kernel_rfl) | (rw [if_neg (by decide +kernel)]; exact ⟨rfl, rfl⟩))
  (fun os started H enc _ => lifted os started H enc)
theorem proved : Rows.FnExactShowWorldSaid := over
#print axioms proved
end Go.Proofs.YtcbjlcgfhbfneaaGreatDoor.fnExactShowWorld
namespace Go.Proofs.YtcbjlcgfhbfneaaGreatDoor
theorem fnExactShowWorld_holds : Rows.FnExactShowWorldCardSaid :=
 Claim7.holds_tied_plain_at .later [] [.data] true (true, "c078d777d068162c37ddc4ae09b1e0f4da77429c1f20e179beaeaf7056b91439") false
  fnExactShowWorld.proved (fun _ h => by cases h) (by kernel_rfl) (fun _ h => by cases h) fnExactShowWorld_row_tie rfl ⟨rfl, rfl⟩ (by kernel_rfl) rfl
  (fun f fn hf hfn => by
   obtain rfl : f = 3 := Option.some.inj ((show Tryz.prog.funcNamed "loop.example/g00397/laws.FnExactShowWorld" = some 3 by kernel_rfl).symm.trans hf) |>.symm
   obtain rfl : fn = Tryz.f3 := (Option.some.inj (Tryz.func3.symm.trans hfn)).symm
   exact ⟨by kernel_rfl, fun j t ht => by
    rw [Tryz.params3] at ht
    have h3 : t = 33 := by
     match j, ht with
     | 0, ht => simp at ht; subst ht; simp
     | _ + 1, ht => simp at ht
    rcases h3 with rfl
    ·exact (show Tryz.prog.wantsStandIn 33 = false by kernel_rfl)⟩)
  (by kernel_rfl)
end Go.Proofs.YtcbjlcgfhbfneaaGreatDoor

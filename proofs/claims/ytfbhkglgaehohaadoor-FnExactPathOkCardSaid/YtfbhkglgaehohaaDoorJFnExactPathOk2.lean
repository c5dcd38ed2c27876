/- Contracts of functions of the program and of the reference, and plain lemmas on what they compute: a part of the proof of the law FnExactPathOk. No condition. -/
import Derived.Test.YtfbhkglgaehohaaDoorJFnExactPathOk1
import Derived.Test.YtfbhkglgaehohaaDoorRows
import Derived.WalkKit
import Derived.ProofKit
import Derived.OpenShut
import Derived.ShutString
import Derived.ChangeOld
import Derived.Below
import Derived.SizedLaws
import Derived.Carry
import Derived.LaidLaws
import Derived.LaidMore
import Derived.MakeChecks
import Derived.Stop.Joined
import Derived.ChangeVars
import Derived.Lib.LaidTab
import Derived.Test.YtfbhkglgaehohaaDoorCards
import Derived.Test.YtfbhkglgaehohaaDoorTie
import Derived.SevenTiedAt
/- The plain proof of the law FnExactPathOk: the plain functions that the program and the reference come to answer alike. No condition. -/
namespace Go.Proofs.YtfbhkglgaehohaaDoor.Pure
open Go.RowKit Go.Proofs.YtfbhkglgaehohaaDoor.PA Go.Proofs.YtfbhkglgaehohaaDoorW.PrintWords Go.Proofs.YtfbhkglgaehohaaDoorW.PrintLast Go.Proofs.YtfbhkglgaehohaaDoorW.PrintMore Go.Proofs.YtfbhkglgaehohaaDoor.Kit Go.Proofs.YtfbhkglgaehohaaDoor.PureFnExactPathOk
set_option linter.unusedVariables false
set_option linter.unusedSimpArgs false
def rng (x lo hi : Int) : Bool := decide (lo ≤ x) && decide (x ≤ hi)
theorem spec_in (x lo hi : Int) : spec_l01In.f x lo hi = some (rng x lo hi) := by
  unfold spec_l01In.f rng
  by_cases h : x ≥ lo
  · simp [h]
  · simp [h]
    try omega
theorem impl_in (x lo hi : Int) : impl_within.f x lo hi = some (rng x lo hi) := by
  unfold impl_within.f rng
  by_cases h : x ≥ lo
  · simp [h]
  · simp [h]
    try omega
theorem bits_nat (op : BinOp) (k : IntKind) (x y : Int) : Go.bits op k x y = match op with
    | .and => k.wrap ((BitVec.ofInt k.bits x &&& BitVec.ofInt k.bits y).toNat : Int)
    | .or => k.wrap ((BitVec.ofInt k.bits x ||| BitVec.ofInt k.bits y).toNat : Int)
    | .xor => k.wrap ((BitVec.ofInt k.bits x ^^^ BitVec.ofInt k.bits y).toNat : Int)
    | .andNot => k.wrap ((BitVec.ofInt k.bits x &&& ~~~BitVec.ofInt k.bits y).toNat : Int)
    | _ => Go.bits op k x y := by
  cases op <;> rfl
theorem ofInt_nat32 (n : Nat) (h : n < 4294967296) : (BitVec.ofInt 32 (n : Int)).toNat = n := by
  rw [BitVec.toNat_ofInt]; omega
theorem ofInt_nat64 (n : Nat) (h : n < 18446744073709551616) : (BitVec.ofInt 64 (n : Int)).toNat = n := by
  rw [BitVec.toNat_ofInt]; omega
theorem wrap_u32 (x : Int) : IntKind.wrap .u32 x = x % 4294967296 := rfl
theorem wrap_i64 (x : Int) : IntKind.wrap .i64 x = wrap64 x := i64_w x
theorem xor_u32_rng (x y : Int) : 0 ≤ Go.bits .xor .u32 x y ∧ Go.bits .xor .u32 x y < 4294967296 := by
  rw [bits_nat]
  show 0 ≤ IntKind.wrap .u32 _ ∧ IntKind.wrap .u32 _ < _
  rw [wrap_u32]
  omega
theorem and_u32_one (x : Int) (h0 : 0 ≤ x) (h1 : x < 4294967296) : Go.bits .and .u32 x 1 = x % 2 := by
  rw [bits_nat]
  show IntKind.wrap .u32 ((BitVec.ofInt 32 x &&& BitVec.ofInt 32 ((1 : Nat) : Int)).toNat : Int) = _
  obtain ⟨n, rfl⟩ := Int.eq_ofNat_of_zero_le h0
  rw [BitVec.toNat_and, ofInt_nat32 n (by omega), ofInt_nat32 1 (by omega), Nat.and_one_is_mod, wrap_u32]
  omega
theorem var_byte (x : Int) (h0 : 0 ≤ x) (h1 : x ≤ 1000000000) : (Go.bits .or .i64 (Go.bits .and .i64 x 127) 128) % 256 = x % 128 + 128 := by
  obtain ⟨n, rfl⟩ := Int.eq_ofNat_of_zero_le h0
  have e1 : Go.bits .and .i64 (n : Int) 127 = ((n % 128 : Nat) : Int) := by
    rw [bits_nat]
    show IntKind.wrap .i64 ((BitVec.ofInt 64 (n : Int) &&& BitVec.ofInt 64 ((127 : Nat) : Int)).toNat : Int) = _
    rw [BitVec.toNat_and, ofInt_nat64 n (by omega), ofInt_nat64 127 (by omega), wrap_i64]
    have : n &&& 127 = n % 128 := Nat.and_two_pow_sub_one_eq_mod n 7
    rw [this, w64 (by omega) (by omega)]
  rw [e1, bits_nat]
  show IntKind.wrap .i64 ((BitVec.ofInt 64 ((n % 128 : Nat) : Int) ||| BitVec.ofInt 64 ((128 : Nat) : Int)).toNat : Int) % 256 = _
  rw [BitVec.toNat_or, ofInt_nat64 (n % 128) (by omega), ofInt_nat64 128 (by omega), wrap_i64]
  have h : ∀ m : Fin 128, (m.val ||| 128) = m.val + 128 := by decide
  have hm := h ⟨n % 128, by omega⟩
  have e2 : (n % 128 ||| 128) = n % 128 + 128 := hm
  rw [e2, w64 (by omega) (by omega)]
  omega
def varL (n : Nat) : List Int := if h : n ≤ 127 then [(n : Int)] else ((n % 128 + 128 : Nat) : Int) :: varL (n / 128)
  termination_by n
  decreasing_by omega
theorem varL_small (n : Nat) (h : n ≤ 127) : varL n = [(n : Int)] := by rw [varL, dif_pos h]
theorem varL_big (n : Nat) (h : 127 < n) : varL n = ((n % 128 + 128 : Nat) : Int) :: varL (n / 128) := by rw [varL, dif_neg (by omega)]
theorem varL_len (n : Nat) (h : n ≤ 1000000000) : (varL n).length ≤ 5 := by
  have key : ∀ (j n : Nat), n < 128 ^ (j + 1) → (varL n).length ≤ j + 1 := by
    intro j
    induction j with
    | zero => intro n h; rw [varL_small n (by omega)]; simp
    | succ j ih =>
      intro n h
      by_cases hn : n ≤ 127
      · rw [varL_small n hn]; simp
      · rw [varL_big n (by omega), List.length_cons]
        have := ih (n / 128) (by rw [Nat.pow_succ] at h; omega)
        omega
  exact key 4 n (by omega)
def varS (n : Int) : ByteArray := strOfNums (varL n.toNat)
theorem varS_size (n : Int) (h : n ≤ 1000000000) : (varS n).size ≤ 5 := by
  unfold varS; rw [strOfNums_size]; exact varL_len _ (by omega)
theorem ev_spec_l01Var (n : Int) (h0 : 0 ≤ n) (h1 : n ≤ 1000000000) : Ev (fun k => spec_l01Var.f k n) (varS n) := by
  have key : ∀ (m : Nat) (acc : List Int), m ≤ 1000000000 → acc.length + m ≤ 2000000000 → Ev (fun k => spec_l01Var.l0 k (m : Int) acc) (strOfNums (acc ++ varL m)) := by
    intro m
    induction m using Nat.strongRecOn with
    | ind m ih =>
      intro acc hm ha
      refine evSucc ?_
      simp only [spec_l01Var.l0]
      have e : Int.tdiv (m : Int) 128 = ((m / 128 : Nat) : Int) := by rw [Int.tdiv_eq_ediv_of_nonneg (by omega)]; omega
      have e2 : Int.tmod (m : Int) 128 = ((m % 128 : Nat) : Int) := by rw [Int.tmod_eq_emod_of_nonneg (by omega)]; omega
      by_cases hb : m ≤ 127
      · refine evNeg (by omega) (evPos (by omega) ?_)
        rw [varL_small m hb, show (m : Int) % 256 = m by omega]
        exact Ev.now _
      · refine evPos (by omega) (evPos (by omega) ?_)
        rw [e, e2, w64 (by omega) (by omega), w64 (by omega) (by omega), varL_big m (by omega)]
        have := ih (m / 128) (by omega) (acc ++ [((m % 128 + 128 : Nat) : Int)]) (by omega) (by simp; omega)
        rw [List.append_assoc] at this
        rw [show (((m % 128 : Nat) : Int) + 128) % 256 = ((m % 128 + 128 : Nat) : Int) by omega]
        exact this
  have := key n.toNat [] (by omega) (by simp; omega)
  rw [Int.toNat_of_nonneg h0] at this
  exact this
theorem ev_impl_VarText (n : Int) : Ev (fun k => impl_VarText.f k n) (if rng n 0 1000000000 = true then (varS n, true) else (⟨#[]⟩, false)) := by
  simp only [impl_VarText.f, impl_in, Option.bind_some]
  refine evIte (fun h => ?_) (fun h => Ev.now _)
  have hr : 0 ≤ n ∧ n ≤ 1000000000 := by unfold rng at h; simpa using h
  have key : ∀ (m : Nat) (acc : List Int), m ≤ 1000000000 → acc.length + m ≤ 2000000000 → Ev (fun k => impl_VarText.l0 k (m : Int) acc) (strOfNums (acc ++ varL m), true) := by
    intro m
    induction m using Nat.strongRecOn with
    | ind m ih =>
      intro acc hm ha
      refine evSucc ?_
      simp only [impl_VarText.l0]
      by_cases hb : m ≤ 127
      · refine evNeg (by omega) (evPos (by omega) ?_)
        rw [varL_small m hb, show (m : Int) % 256 = m by omega]
        exact Ev.now _
      · refine evPos (by omega) (evPos (by omega) ?_)
        rw [var_byte m (by omega) (by omega), varL_big m (by omega)]
        have := ih (m / 128) (by omega) (acc ++ [((m % 128 + 128 : Nat) : Int)]) (by omega) (by simp; omega)
        rw [List.append_assoc] at this
        rw [show (m : Int) / 128 = ((m / 128 : Nat) : Int) by omega, show (m : Int) % 128 + 128 = ((m % 128 + 128 : Nat) : Int) by omega]
        exact this
  have := key n.toNat [] (by omega) (by simp; omega)
  rw [Int.toNat_of_nonneg hr.1] at this
  exact this
theorem ev_impl_VarText_ok (n : Int) (h0 : 0 ≤ n) (h1 : n ≤ 1000000000) : Ev (fun k => impl_VarText.f k n) (varS n, true) :=
  evEq (ev_impl_VarText n) (if_pos (by unfold rng; simp [h0, h1]))
def itemB (a b c d : Int) : Bool := if a = 1 then rng b 0 4294967295 && (rng c 0 4294967295 && d == 0) else if a = 2 then rng d 1 1000000000 && (b == 0 && c == 0) else false
theorem spec_itemB (a b c d : Int) : spec_ItemOk.f a b c d = some (itemB a b c d) := by
  unfold spec_ItemOk.f itemB
  simp only [spec_HalfOk.f, spec_in, Option.bind_some]
  by_cases h1 : a = 1
  · rw [if_pos h1, if_pos h1]
    cases rng b 0 4294967295 <;> cases rng c 0 4294967295 <;> simp
  · rw [if_neg h1, if_neg h1]
    by_cases h2 : a = 2
    · rw [if_pos h2, if_pos h2]
      by_cases hb : b = 0
      · cases rng d 1 1000000000 <;> simp [hb]
      · cases rng d 1 1000000000 <;> simp [hb]
    · rw [if_neg h2, if_neg h2]
theorem impl_itemB (a b c d : Int) : impl_ItemOk.f a b c d = some (itemB a b c d) := by
  unfold impl_ItemOk.f itemB
  simp only [impl_HalfOk.f, impl_in, Option.bind_some]
  by_cases h1 : a = 1
  · rw [if_pos h1, if_pos h1]
    cases rng b 0 4294967295 <;> cases rng c 0 4294967295 <;> simp
  · rw [if_neg h1, if_neg h1]
    by_cases h2 : a = 2
    · rw [if_pos h2, if_pos h2]
      by_cases hb : b = 0
      · cases rng d 1 1000000000 <;> simp [hb]
      · cases rng d 1 1000000000 <;> simp [hb]
    · rw [if_neg h2, if_neg h2]
def frameB (a b c d e f g : Int) : Bool := rng b 0 2 && (rng c 1 1000000000 && (if a = 1 then itemB d e f g else if a = 2 then (d == 0 && (e == 0 && (f == 0 && (g == 0)))) else false))
theorem ev_spec_FrameOk (a b c d e f g : Int) : Ev (fun k => spec_FrameOk.f k a b c d e f g) (frameB a b c d e f g) := by
  simp only [spec_FrameOk.f, spec_in, Option.bind_some]
  unfold frameB
  cases rng b 0 2
  · refine evNeg (by simp) (evSucc ?_)
    simp only [spec_FrameOk.j0, Bool.false_and]
    exact evPos (by simp) (Ev.now _)
  · refine evPos rfl (evSucc ?_)
    simp only [spec_FrameOk.j0, spec_itemB, Option.bind_some, Bool.true_and]
    cases rng c 1 1000000000
    · exact evPos (by decide) (Ev.now _)
    · refine evNeg (by simp) ?_
      simp only [Bool.true_and]
      exact evIte (fun _ => Ev.now _) (fun _ => evIte (fun _ => Ev.now _) (fun _ => Ev.now _))
theorem ev_impl_FrameOk (a b c d e f g : Int) : Ev (fun k => impl_FrameOk.f k a b c d e f g) (frameB a b c d e f g) := by
  simp only [impl_FrameOk.f, impl_isPid.f, impl_in, Option.bind_some]
  unfold frameB
  cases rng b 0 2
  · refine evNeg (by simp) (evSucc ?_)
    simp only [impl_FrameOk.j0, Bool.false_and]
    exact evPos (by simp) (Ev.now _)
  · refine evPos rfl (evSucc ?_)
    simp only [impl_FrameOk.j0, impl_itemB, Option.bind_some, Bool.true_and]
    cases rng c 1 1000000000
    · exact evPos (by decide) (Ev.now _)
    · refine evNeg (by simp) ?_
      simp only [Bool.true_and]
      exact evIte (fun _ => Ev.now _) (fun _ => evIte (fun _ => Ev.now _) (fun _ => Ev.now _))
theorem itemB_count {a b c d : Int} (h : itemB a b c d = true) : 0 ≤ d ∧ d ≤ 1000000000 := by
  unfold itemB rng at h
  split at h
  · simp at h; omega
  · split at h
    · simp at h; omega
    · simp at h
theorem frameB_facts {a b c d e f g : Int} (h : frameB a b c d e f g = true) : (0 ≤ b ∧ b ≤ 2) ∧ (1 ≤ c ∧ c ≤ 1000000000) ∧ (0 ≤ g ∧ g ≤ 1000000000) ∧ (a = 1 ∨ a = 2) := by
  unfold frameB at h
  simp only [Bool.and_eq_true] at h
  obtain ⟨h1, h2, h3⟩ := h
  unfold rng at h1 h2
  simp at h1 h2
  refine ⟨h1, h2, ?_⟩
  split at h3
  · rename_i ha
    exact ⟨itemB_count h3, Or.inl ha⟩
  · split at h3
    · rename_i ha
      simp at h3
      exact ⟨by omega, Or.inr ha⟩
    · simp at h3
def sumBit (x : Int) : Int := if x % 2 = 1 then Go.bits .xor .u32 (x / 2) 3558460437 else x / 2
def sumByte (x b : Int) : Int := sumBit (sumBit (sumBit (sumBit (sumBit (sumBit (sumBit (sumBit (Go.bits .xor .u32 x b))))))))
def sumAll (x : Int) (s : ByteArray) : Nat → Int
  | 0 => x
  | i + 1 => sumByte (sumAll x s i) (bt s i)
theorem sumBit_rng (x : Int) (h : 0 ≤ x ∧ x < 4294967296) : 0 ≤ sumBit x ∧ sumBit x < 4294967296 := by
  unfold sumBit
  split
  · exact xor_u32_rng _ _
  · omega
theorem sumByte_rng (x b : Int) : 0 ≤ sumByte x b ∧ sumByte x b < 4294967296 := by
  unfold sumByte
  repeat (first | exact xor_u32_rng _ _ | apply sumBit_rng)
theorem sumAll_rng (x : Int) (s : ByteArray) (h : 0 ≤ x ∧ x < 4294967296) : ∀ i, 0 ≤ sumAll x s i ∧ sumAll x s i < 4294967296
  | 0 => h
  | _ + 1 => sumByte_rng _ _
theorem sum_impl_step (x : Int) (s : ByteArray) (i j r : Int) (h : 0 ≤ x ∧ x < 4294967296) (hj : j < 8 ∧ 0 ≤ j) (next : Ev (fun k => impl_SumMore.l1 k (sumBit x) s i (j + 1)) r) : Ev (fun k => impl_SumMore.l1 k x s i j) r := by
  refine evSucc ?_
  simp only [impl_SumMore.l1]
  refine evPos hj.1 ?_
  rw [and_u32_one x h.1 h.2, w64 (by omega) (by omega)]
  unfold sumBit at next
  by_cases hx : x % 2 = 1
  · rw [if_pos hx] at next; exact evPos hx next
  · rw [if_neg hx] at next; exact evNeg hx next
theorem sum_spec_step (x : Int) (s : ByteArray) (i j r : Int) (h : 0 ≤ x ∧ x < 4294967296) (hj : j < 8 ∧ 0 ≤ j) (next : Ev (fun k => spec_SumMore.l1 k (sumBit x) s i (j + 1)) r) : Ev (fun k => spec_SumMore.l1 k x s i j) r := by
  refine evSucc ?_
  simp only [spec_SumMore.l1]
  refine evPos hj.1 ?_
  rw [Int.tmod_eq_emod_of_nonneg h.1, Int.tdiv_eq_ediv_of_nonneg h.1, w64 (by omega) (by omega), show x / 2 % 4294967296 = x / 2 by omega]
  unfold sumBit at next
  by_cases hx : x % 2 = 1
  · rw [if_pos hx] at next; exact evPos hx next
  · rw [if_neg hx] at next; exact evNeg hx next
theorem ev_impl_SumMore (x : Int) (s : ByteArray) (h : 0 ≤ x ∧ x < 4294967296) (hs : s.size ≤ 140737488351232) : Ev (fun k => impl_SumMore.f k x s) (sumAll x s s.size) := by
  have key := evUp (r := sumAll x s s.size) s.size (fun i k => impl_SumMore.l0 k (sumAll x s i) s (i : Int)) ?_ ?_
  · exact key
  · intro i hi ih
    refine evSucc ?_
    simp only [impl_SumMore.l0]
    have hb := bt_range s (i : Int)
    refine evPos (by omega) (evPos (by omega) ?_)
    rw [show bt s (i : Int) % 4294967296 = bt s (i : Int) by omega]
    iterate 8 (refine sum_impl_step _ _ _ _ _ (by repeat (first | exact xor_u32_rng _ _ | apply sumBit_rng)) (by decide) ?_)
    refine evSucc ?_
    simp only [impl_SumMore.l1]
    refine evNeg (by decide) ?_
    rw [w64 (by omega) (by omega), ci]
    exact ih
  · refine evSucc ?_
    simp only [impl_SumMore.l0]
    exact evNeg (by omega) (Ev.now _)
theorem ev_spec_SumMore (x : Int) (s : ByteArray) (h : 0 ≤ x ∧ x < 4294967296) (hs : s.size ≤ 140737488351232) : Ev (fun k => spec_SumMore.f k x s) (sumAll x s s.size) := by
  have key := evUp (r := sumAll x s s.size) s.size (fun i k => spec_SumMore.l0 k (sumAll x s i) s (i : Int)) ?_ ?_
  · exact key
  · intro i hi ih
    refine evSucc ?_
    simp only [spec_SumMore.l0]
    have hb := bt_range s (i : Int)
    refine evPos (by omega) (evPos (by omega) ?_)
    rw [show bt s (i : Int) % 4294967296 = bt s (i : Int) by omega]
    iterate 8 (refine sum_spec_step _ _ _ _ _ (by repeat (first | exact xor_u32_rng _ _ | apply sumBit_rng)) (by decide) ?_)
    refine evSucc ?_
    simp only [spec_SumMore.l1]
    refine evNeg (by decide) ?_
    rw [w64 (by omega) (by omega), ci]
    exact ih
  · refine evSucc ?_
    simp only [spec_SumMore.l0]
    exact evNeg (by omega) (Ev.now _)
def sumS (s : ByteArray) : Int := sumAll 4294967295 s s.size
theorem sumS_rng (s : ByteArray) : 0 ≤ sumS s ∧ sumS s < 4294967296 := sumAll_rng _ _ (by omega) _
def four4 (n : Int) : ByteArray := strOfNums [(n / 16777216) % 256, (n / 65536) % 256, (n / 256) % 256, n % 256]
theorem four4_size (n : Int) : (four4 n).size = 4 := by simp [four4, strOfNums_size]
theorem impl_four4 (n : Int) : impl_four.f n = some (four4 n) := rfl
theorem spec_four4 (n : Int) : spec_l06Four.f n = some (four4 n) := rfl
theorem spec_four2 (n : Int) : spec_l02Four.f n = some (four4 n) := rfl
def sealB (s : ByteArray) : ByteArray × Bool := if s.size ≤ 20000 then (s ++ four4 (sumS s), true) else (⟨#[]⟩, false)
theorem ev_impl_Sealed (s : ByteArray) (hs : s.size ≤ 140737488351232) : Ev (fun k => impl_Sealed.f k s) (sealB s) := by
  simp only [impl_Sealed.f, impl_SumOf.f]
  unfold sealB
  by_cases h : s.size ≤ 20000
  · have hr := sumS_rng s
    rw [if_pos h]
    refine evNeg (by omega) (Ev.bind (Ev.bind (ev_impl_SumMore _ s (by omega) hs) (Ev.now _)) ?_)
    rw [show sumAll 4294967295 s s.size = sumS s from rfl, w64 (by omega) (by omega)]
    simp only [impl_four4, Option.bind_some]
    exact evPos (by rw [four4_size]; omega) (Ev.now _)
  · rw [if_neg h]
    exact evPos (by omega) (Ev.now _)
theorem ev_spec_Sealed (s : ByteArray) (hs : s.size ≤ 140737488351232) : Ev (fun k => spec_Sealed.f k s) (sealB s) := by
  simp only [spec_Sealed.f, spec_SumOf.f]
  unfold sealB
  by_cases h : s.size ≤ 20000
  · rw [if_pos h]
    refine evNeg (by omega) (Ev.bind (Ev.bind (ev_spec_SumMore _ s (by omega) hs) (Ev.now _)) ?_)
    rw [show sumAll 4294967295 s s.size = sumS s from rfl]
    simp only [spec_four2, Option.bind_some]
    exact evPos (by rw [four4_size]; omega) (Ev.now _)
  · rw [if_neg h]
    exact evPos (by omega) (Ev.now _)
def frameRaw (a b c d e f g : Int) : ByteArray := ((((strOfNums [a % 256, b % 256] ++ varS c) ++ strOfNums [d % 256]) ++ four4 e) ++ four4 f) ++ varS g
theorem frameRaw_size {a b c d e f g : Int} (hc : c ≤ 1000000000) (hg : g ≤ 1000000000) : (frameRaw a b c d e f g).size ≤ 21 := by
  have h1 := varS_size c hc
  have h2 := varS_size g hg
  unfold frameRaw
  simp only [sizeApp, strOfNums_size, four4_size, List.length_cons, List.length_nil]
  omega
def frameS (a b c d e f g : Int) : ByteArray × Bool := if frameB a b c d e f g = true then (frameRaw a b c d e f g ++ four4 (sumS (frameRaw a b c d e f g)), true) else (⟨#[]⟩, false)
theorem frameS_size (a b c d e f g : Int) : (frameS a b c d e f g).1.size ≤ 25 := by
  unfold frameS
  split
  · rename_i h
    obtain ⟨_, ⟨_, h2⟩, ⟨_, h3⟩, _⟩ := frameB_facts h
    have := frameRaw_size (a := a) (b := b) (d := d) (e := e) (f := f) h2 h3
    rw [sizeApp, four4_size]
    omega
  · decide
theorem ev_spec_FrameText (a b c d e f g : Int) : Ev (fun k => spec_FrameText.f k a b c d e f g) (frameS a b c d e f g) := by
  simp only [spec_FrameText.f]
  refine Ev.bind (ev_spec_FrameOk a b c d e f g) ?_
  unfold frameS
  by_cases h : frameB a b c d e f g = true
  · obtain ⟨_, hc, hg, _⟩ := frameB_facts h
    have s1 := varS_size c hc.2
    have s2 := varS_size g hg.2
    have hr := frameRaw_size (a := a) (b := b) (d := d) (e := e) (f := f) hc.2 hg.2
    have hsz2 (x y : Int) : (strOfNums [x, y]).size = 2 := by rw [strOfNums_size]; rfl
    have hsz1 (x : Int) : (strOfNums [x]).size = 1 := by rw [strOfNums_size]; rfl
    rw [if_pos h]
    refine evPos h ?_
    simp only [Option.bind_some, spec_four4]
    refine Ev.bind (ev_spec_l01Var c (by omega) hc.2) (evPos (by rw [hsz2]; omega) (evPos (by simp only [sizeApp, hsz2, hsz1]; omega) (evPos (by simp only [sizeApp, hsz2, hsz1, four4_size]; omega) (evPos (by simp only [sizeApp, hsz2, hsz1, four4_size]; omega) ?_))))
    refine Ev.bind (ev_spec_l01Var g (by omega) hg.2) (evPos (by simp only [sizeApp, hsz2, hsz1, four4_size]; omega) ?_)
    refine Ev.bind (ev_spec_Sealed (frameRaw a b c d e f g) (by omega)) (evEq (Ev.now _) ?_)
    unfold sealB
    rw [if_pos (by omega)]
  · rw [if_neg h]
    exact evNeg h (Ev.now _)
theorem ev_impl_FrameText (a b c d e f g : Int) : Ev (fun k => impl_FrameText.f k a b c d e f g) (frameS a b c d e f g) := by
  simp only [impl_FrameText.f]
  refine Ev.bind (ev_impl_FrameOk a b c d e f g) ?_
  unfold frameS
  by_cases h : frameB a b c d e f g = true
  · obtain ⟨_, hc, hg, _⟩ := frameB_facts h
    have s1 := varS_size c hc.2
    have s2 := varS_size g hg.2
    have hr := frameRaw_size (a := a) (b := b) (d := d) (e := e) (f := f) hc.2 hg.2
    have hsz2 (x y : Int) : (strOfNums [x, y]).size = 2 := by rw [strOfNums_size]; rfl
    have hsz1 (x : Int) : (strOfNums [x]).size = 1 := by rw [strOfNums_size]; rfl
    rw [if_pos h]
    refine evPos h ?_
    refine Ev.bind (ev_impl_VarText_ok c (by omega) hc.2) (Ev.bind (ev_impl_VarText_ok g (by omega) hg.2) ?_)
    simp only [Option.bind_some, impl_four4]
    refine evPos (by rw [hsz2]; omega) (evPos (by simp only [sizeApp, hsz2, hsz1]; omega) (evPos (by simp only [sizeApp, hsz2, hsz1, four4_size]; omega) (evPos (by simp only [sizeApp, hsz2, hsz1, four4_size]; omega) (evPos (by simp only [sizeApp, hsz2, hsz1, four4_size]; omega) ?_))))
    refine Ev.bind (ev_impl_Sealed (frameRaw a b c d e f g) (by omega)) (evEq (Ev.now _) ?_)
    unfold sealB
    rw [if_pos (by omega)]
  · rw [if_neg h]
    exact evNeg h (Ev.now _)
def entryS (b c d e f g : Int) : ByteArray := (frameS 1 b c d e f g).1
theorem entryS_size (b c d e f g : Int) : (entryS b c d e f g).size ≤ 25 := frameS_size 1 b c d e f g
theorem ev_spec_EntryText (b c d e f g : Int) : Ev (fun k => spec_EntryText.f k b c d e f g) (entryS b c d e f g) := by
  simp only [spec_EntryText.f]
  exact Ev.bind (ev_spec_FrameText 1 b c d e f g) (Ev.now _)
theorem ev_impl_EntryText (b c d e f g : Int) : Ev (fun k => impl_EntryText.f k b c d e f g) (entryS b c d e f g) := by
  simp only [impl_EntryText.f]
  exact Ev.bind (ev_impl_FrameText 1 b c d e f g) (Ev.now _)
open DigestEq (dig dig_spec dig_impl)
theorem one48 : (⟨#[48]⟩ : ByteArray).size = 1 := rfl
def leafS (b c d e f g : Int) : ByteArray := dig ((⟨#[48]⟩ : ByteArray) ++ entryS b c d e f g)
theorem ev_spec_LeafOf (b c d e f g : Int) : Ev (fun k => spec_LeafOf.f k b c d e f g) (leafS b c d e f g) := by
  have h := entryS_size b c d e f g
  simp only [spec_LeafOf.f]
  refine Ev.bind (ev_spec_EntryText b c d e f g) (evPos (by omega) ?_)
  rw [dig_spec _ (by rw [sizeApp, one48]; omega)]
  exact Ev.now _
theorem ev_impl_LeafOf (b c d e f g : Int) : Ev (fun k => impl_LeafOf.f k b c d e f g) (leafS b c d e f g) := by
  have h := entryS_size b c d e f g
  simp only [impl_LeafOf.f]
  refine Ev.bind (ev_impl_EntryText b c d e f g) (evPos (by omega) ?_)
  exact Ev.bind (dig_impl _ (by rw [sizeApp, one48]; omega)) (Ev.now _)
def cvEntry (x : S27) : S31 := ⟨x.f0, x.f1, ⟨x.f2.f0, x.f2.f1, x.f2.f2, x.f2.f3⟩⟩
theorem dig_size (s : ByteArray) : (dig s).size = 32 := by
  unfold DigestEq.dig
  rw [strOfNums_size, PH.f4_len, PH.hs_len]
def half (n : Nat) : Nat := 2 ^ Nat.log2 (n - 1)
theorem half_lt (n : Nat) (h : 2 ≤ n) : half n < n := by
  have := Nat.log2_self_le (n := n - 1) (by omega)
  unfold half; omega
theorem half_pos (n : Nat) : 0 < half n := Nat.pow_pos (by omega)
theorem half_step (n j : Nat) (h : 2 ≤ n) (hj : j ≤ Nat.log2 (n - 1)) : (2 * 2 ^ j < n ∧ j + 1 ≤ Nat.log2 (n - 1)) ∨ (¬ 2 * 2 ^ j < n ∧ half n = 2 ^ j) := by
  by_cases hc : 2 * 2 ^ j < n
  · exact Or.inl ⟨hc, (Nat.le_log2 (by omega)).2 (by rw [Nat.pow_succ]; omega)⟩
  · refine Or.inr ⟨hc, ?_⟩
    have : ¬ j + 1 ≤ Nat.log2 (n - 1) := fun h' => by
      have := (Nat.le_log2 (by omega)).1 h'
      rw [Nat.pow_succ] at this; omega
    unfold half
    rw [show Nat.log2 (n - 1) = j by omega]
theorem pow_le_half (n j : Nat) (h : 2 ≤ n) (hj : j ≤ Nat.log2 (n - 1)) : 2 ^ j < n := by
  have := (Nat.le_log2 (n := n - 1) (k := j) (by omega)).1 hj
  omega
theorem ev_spec_half (n : Nat) (h : 2 ≤ n) (hb : n ≤ 140737488351232) : Ev (fun k => spec_l27Half.f k (n : Int)) (half n : Int) := by
  have key : ∀ d j, j + d = Nat.log2 (n - 1) → Ev (fun k => spec_l27Half.l0 k (n : Int) ((2 ^ j : Nat) : Int)) (half n : Int) := by
    intro d
    induction d with
    | zero =>
      intro j hj
      have hp := pow_le_half n j h (by omega)
      have hp0 : 0 < 2 ^ j := Nat.pow_pos (by omega)
      refine evSucc ?_
      simp only [spec_l27Half.l0]
      rw [w64 (by omega) (by omega)]
      rcases half_step n j h (by omega) with ⟨_, h2⟩ | ⟨h1, h2⟩
      · omega
      · rw [h2]; exact evNeg (by omega) (Ev.now _)
    | succ d ih =>
      intro j hj
      have hp := pow_le_half n j h (by omega)
      have hp0 : 0 < 2 ^ j := Nat.pow_pos (by omega)
      refine evSucc ?_
      simp only [spec_l27Half.l0]
      rw [w64 (by omega) (by omega)]
      rcases half_step n j h (by omega) with ⟨h1, _⟩ | ⟨h1, h2⟩
      · refine evPos (by omega) ?_
        have := ih (j + 1) (by omega)
        rw [show 2 * ((2 ^ j : Nat) : Int) = ((2 ^ (j + 1) : Nat) : Int) by rw [Nat.pow_succ]; omega]
        exact this
      · rw [h2]; exact evNeg (by omega) (Ev.now _)
  exact key _ 0 (Nat.zero_add _)
theorem ev_impl_half (n : Nat) (h : 2 ≤ n) (hb : n ≤ 140737488351232) : Ev (fun k => impl_firsts.f k (n : Int)) (half n : Int) := by
  have key : ∀ d j, j + d = Nat.log2 (n - 1) → Ev (fun k => impl_firsts.l0 k (n : Int) ((2 ^ j : Nat) : Int)) (half n : Int) := by
    intro d
    induction d with
    | zero =>
      intro j hj
      have hp := pow_le_half n j h (by omega)
      have hp0 : 0 < 2 ^ j := Nat.pow_pos (by omega)
      refine evSucc ?_
      simp only [impl_firsts.l0]
      rw [w64 (by omega) (by omega)]
      rcases half_step n j h (by omega) with ⟨_, h2⟩ | ⟨h1, h2⟩
      · omega
      · rw [h2]; exact evNeg (by omega) (Ev.now _)
    | succ d ih =>
      intro j hj
      have hp := pow_le_half n j h (by omega)
      have hp0 : 0 < 2 ^ j := Nat.pow_pos (by omega)
      refine evSucc ?_
      simp only [impl_firsts.l0]
      rw [w64 (by omega) (by omega)]
      rcases half_step n j h (by omega) with ⟨h1, _⟩ | ⟨h1, h2⟩
      · refine evPos (by omega) ?_
        have := ih (j + 1) (by omega)
        rw [show 2 * ((2 ^ j : Nat) : Int) = ((2 ^ (j + 1) : Nat) : Int) by rw [Nat.pow_succ]; omega]
        exact this
      · rw [h2]; exact evNeg (by omega) (Ev.now _)
  exact key _ 0 (Nat.zero_add _)
def leafT (x : S31) : ByteArray := leafS x.f0 x.f1 x.f2.f0 x.f2.f1 x.f2.f2 x.f2.f3
def nodeS (a b : ByteArray) : ByteArray := dig (((⟨#[49]⟩ : ByteArray) ++ a) ++ b)
theorem spec_nodeS (a b : ByteArray) (ha : a.size ≤ 16777216) (hb : b.size ≤ 16777216) : spec_NodeOf.f a b = some (nodeS a b) := by
  have s0 : ((⟨#[49]⟩ : ByteArray) ++ a).size = 1 + a.size := by rw [sizeApp]; rfl
  unfold spec_NodeOf.f nodeS
  rw [if_pos (by omega), if_pos (by rw [s0]; omega), dig_spec _ (by rw [sizeApp, s0]; omega)]
  rfl
theorem ev_impl_NodeOf (a b : ByteArray) (ha : a.size ≤ 16777216) (hb : b.size ≤ 16777216) : Ev (fun k => impl_NodeOf.f k a b) (nodeS a b) := by
  have s0 : ((⟨#[49]⟩ : ByteArray) ++ a).size = 1 + a.size := by rw [sizeApp]; rfl
  simp only [impl_NodeOf.f]
  exact evPos (by omega) (evPos (by rw [s0]; omega) (Ev.bind (dig_impl _ (by rw [sizeApp, s0]; omega)) (Ev.now _)))
theorem rdS (l : List ByteArray) (i : Nat) (hi : i < l.length) : rdOf ByteArray.empty l (i : Int) = l[i] := by simp [rdOf, hi]
def szS (left : Int) : List ByteArray → Int
  | [] => left
  | x :: l => if left - (x.size : Int) < 0 then -1 else szS (left - (x.size : Int)) l
theorem szS_ok (l : List ByteArray) : ∀ left : Int, 0 ≤ szS left l → szS left l ≤ left ∧ ∀ x ∈ l, (x.size : Int) ≤ left := by
  induction l with
  | nil => intro left h; exact ⟨Int.le_refl _, fun x hx => by cases hx⟩
  | cons y l ih =>
    intro left h
    unfold szS at h ⊢
    split at h
    · omega
    · rename_i hc
      rw [if_neg hc]
      obtain ⟨h1, h2⟩ := ih _ h
      refine ⟨by omega, fun x hx => ?_⟩
      rcases List.mem_cons.1 hx with rfl | hx
      · omega
      · have := h2 x hx; omega
theorem ev_szStringS (l : List ByteArray) (left : Int) (h0 : 0 ≤ left) (h1 : left ≤ 1048576) (hb : l.length ≤ 1048576) (hs : ∀ x ∈ l, x.size ≤ 9223372036854775807) : Ev (fun k => laws_szStringS.l0 k l left 0) (szS left l) := by
  have key : ∀ d i left, i + d = l.length → 0 ≤ left → left ≤ 1048576 → Ev (fun k => laws_szStringS.l0 k l left (i : Int)) (szS left (l.drop i)) := by
    intro d
    induction d with
    | zero =>
      intro i left hi h0 h1
      refine evSucc ?_
      simp only [laws_szStringS.l0]
      rw [List.drop_of_length_le (by omega)]
      exact evNeg (by omega) (Ev.now _)
    | succ d ih =>
      intro i left hi h0 h1
      have hlt : i < l.length := by omega
      have hx := hs l[i] (List.getElem_mem hlt)
      refine evSucc ?_
      simp only [laws_szStringS.l0]
      refine evPos (by omega) (evPos (by omega) ?_)
      rw [rdS l i hlt, w64 (by omega) (by omega), w64 (by omega) (by omega), ci, List.drop_eq_getElem_cons hlt]
      unfold szS
      by_cases hc : left - (l[i].size : Int) < 0
      · rw [if_pos hc]; exact evPos hc (Ev.now _)
      · rw [if_neg hc]
        exact evNeg hc (ih (i + 1) _ (by omega) (by omega) (by omega))
  exact key l.length 0 left (by omega) h0 h1
theorem ev_toStringS (l : List ByteArray) (hl : l.length ≤ 1048576) : Ev (fun k => laws_toStringS.f k l) l := by
  have key := evUp (r := l) l.length (fun i k => laws_toStringS.l0 k l ((l.take i).map id ++ List.replicate (l.length - i) (⟨#[]⟩ : ByteArray)) (i : Int)) ?_ ?_
  · refine Ev.congr (fun k => ?_) key
    unfold laws_toStringS.f
    rw [if_pos (by omega), if_pos (by omega)]
    simp
  · intro i hi ih
    refine evSucc ?_
    simp only [laws_toStringS.l0]
    refine evPos (by omega) (evPos (by omega) (evPos (by simp; omega) ?_))
    rw [w64 (by omega) (by omega), ci, Int.toNat_natCast, rdS l i hi]
    have := fillStep id (⟨#[]⟩ : ByteArray) l i hi
    rw [show id l[i] = l[i] from rfl] at this
    rw [this]
    exact ih
  · refine evSucc ?_
    simp only [laws_toStringS.l0]
    refine evNeg (by omega) ?_
    simp
    exact Ev.now _
theorem ev_eqStringS (l : List ByteArray) (hl : l.length ≤ 1048576) : Ev (fun k => laws_eqStringS.f k l l) true := by
  have key := evUp (r := true) l.length (fun i k => laws_eqStringS.l0 k l l (i : Int)) ?_ ?_
  · refine Ev.congr (fun k => ?_) key
    unfold laws_eqStringS.f
    rw [if_pos rfl]
    rfl
  · intro i hi ih
    refine evSucc ?_
    simp only [laws_eqStringS.l0]
    refine evPos (by omega) (evPos (by omega) (evPos (by omega) (evPos (by simp) ?_)))
    rw [w64 (by omega) (by omega), ci]
    exact ih
  · refine evSucc ?_
    simp only [laws_eqStringS.l0]
    exact evNeg (by omega) (Ev.now _)
def topS (leaf : ByteArray) (n : Nat) (i : Int) (p : List ByteArray) : ByteArray × Bool :=
  if n = 1 then (leaf, decide (p.length = 0)) else if h0 : p.length = 0 then (⟨#[]⟩, false)
  else if i < (half n : Int) then (nodeS (topS leaf (half n) i (p.take (p.length - 1))).1 (rdOf ByteArray.empty p ((p.length - 1 : Nat) : Int)), (topS leaf (half n) i (p.take (p.length - 1))).2)
  else (nodeS (rdOf ByteArray.empty p ((p.length - 1 : Nat) : Int)) (topS leaf (n - half n) (i - (half n : Int)) (p.take (p.length - 1))).1, (topS leaf (n - half n) (i - (half n : Int)) (p.take (p.length - 1))).2)
  termination_by p.length
  decreasing_by all_goals (rw [List.length_take]; omega)
theorem topS_size (leaf : ByteArray) (n : Nat) (i : Int) (p : List ByteArray) (hl : leaf.size ≤ 32) : (topS leaf n i p).1.size ≤ 32 := by
  rw [topS]
  split
  · exact hl
  · split
    · decide
    · split
      · exact Nat.le_of_eq (dig_size _)
      · exact Nat.le_of_eq (dig_size _)
theorem lastSize (p : List ByteArray) (h0 : p.length ≠ 0) (hs : ∀ x ∈ p, (x.size : Int) ≤ 1048576) : (rdOf ByteArray.empty p ((p.length - 1 : Nat) : Int)).size ≤ 1048576 := by
  rw [rdS p _ (by omega)]
  have := hs _ (List.getElem_mem (show p.length - 1 < p.length by omega))
  omega
theorem ev_spec_l27Up (leaf : ByteArray) (hf : leaf.size ≤ 32) (m : Nat) : ∀ (p : List ByteArray) (n : Nat) (i : Int), p.length = m → p.length ≤ 1048576 → (∀ x ∈ p, (x.size : Int) ≤ 1048576) → 1 ≤ n → n ≤ 200 → 0 ≤ i → i < n → Ev (fun k => spec_l27Up.f k (n : Int) i leaf p) (topS leaf n i p) := by
  induction m with
  | zero =>
    intro p n i hm _ _ h1 h2 _ _
    refine evSucc ?_
    simp only [spec_l27Up.f]
    rw [topS]
    by_cases hn : n = 1
    · rw [if_pos hn]
      refine evPos (by omega) (evEq (Ev.now _) ?_)
      simp [hm]
    · rw [if_neg hn, dif_pos hm]
      exact evNeg (by omega) (evPos (by omega) (Ev.now _))
  | succ m ih =>
    intro p n i hm hl hs h1 h2 h3 h4
    refine evSucc ?_
    simp only [spec_l27Up.f]
    rw [topS]
    by_cases hn : n = 1
    · rw [if_pos hn]
      refine evPos (by omega) (evEq (Ev.now _) ?_)
      rw [hm]
      have e1 : (((m + 1 : Nat) : Int) == 0) = false := by simp; omega
      rw [e1]; simp
    · have hk := half_lt n (by omega)
      have hp := half_pos n
      rw [if_neg hn, dif_neg (by omega)]
      have hw : wrap64 ((p.length : Int) - 1) = ((p.length - 1 : Nat) : Int) := by rw [w64 (by omega) (by omega)]; omega
      refine evNeg (by omega) (evNeg (by omega) (Ev.bind (ev_spec_half n (by omega) (by omega)) ?_))
      rw [hw, Int.toNat_natCast, w64 (x := (n : Int) - (half n : Int)) (by omega) (by omega), w64 (x := i - (half n : Int)) (by omega) (by omega)]
      refine evPos (by omega) (evPos (by omega) (evPos (by omega) ?_))
      have hs' : ∀ x ∈ p.take (p.length - 1), (x.size : Int) ≤ 1048576 := fun x hx => hs x (List.mem_of_mem_take hx)
      have hlast := lastSize p (by omega) hs
      by_cases hc : i < (half n : Int)
      · rw [if_pos hc]
        refine evPos hc (Ev.bind (ih (p.take (p.length - 1)) (half n) i (by rw [List.length_take]; omega) (by rw [List.length_take]; omega) hs' (by omega) (by omega) (by omega) hc) ?_)
        exact evBindS (spec_nodeS _ _ (by have := topS_size leaf (half n) i (p.take (p.length - 1)) hf; omega) (by omega)) (Ev.now _)
      · rw [if_neg hc]
        have := ih (p.take (p.length - 1)) (n - half n) (i - (half n : Int)) (by rw [List.length_take]; omega) (by rw [List.length_take]; omega) hs' (by omega) (by omega) (by omega) (by omega)
        rw [show ((n - half n : Nat) : Int) = (n : Int) - (half n : Int) by omega] at this
        refine evNeg hc (Ev.bind this ?_)
        exact evBindS (spec_nodeS _ _ (by omega) (by have := topS_size leaf (n - half n) (i - (half n : Int)) (p.take (p.length - 1)) hf; omega)) (Ev.now _)
theorem ev_impl_topOf (leaf : ByteArray) (hf : leaf.size ≤ 32) (m : Nat) : ∀ (p : List ByteArray) (n : Nat) (i : Int), p.length = m → p.length ≤ 1048576 → (∀ x ∈ p, (x.size : Int) ≤ 1048576) → 1 ≤ n → n ≤ 200 → 0 ≤ i → i < n → Ev (fun k => impl_topOf.f k leaf (n : Int) i p) (topS leaf n i p) := by
  induction m with
  | zero =>
    intro p n i hm _ _ h1 h2 _ _
    refine evSucc ?_
    simp only [impl_topOf.f]
    rw [topS]
    by_cases hn : n = 1
    · rw [if_pos hn]
      refine evPos (by omega) (evEq (Ev.now _) ?_)
      simp [hm]
    · rw [if_neg hn, dif_pos hm]
      exact evNeg (by omega) (evPos (by omega) (Ev.now _))
  | succ m ih =>
    intro p n i hm hl hs h1 h2 h3 h4
    refine evSucc ?_
    simp only [impl_topOf.f]
    rw [topS]
    by_cases hn : n = 1
    · rw [if_pos hn]
      refine evPos (by omega) (evEq (Ev.now _) ?_)
      rw [hm]
      have e1 : (((m + 1 : Nat) : Int) == 0) = false := by simp; omega
      rw [e1]; simp
    · have hk := half_lt n (by omega)
      have hp := half_pos n
      rw [if_neg hn, dif_neg (by omega)]
      have hw : wrap64 ((p.length : Int) - 1) = ((p.length - 1 : Nat) : Int) := by rw [w64 (by omega) (by omega)]; omega
      refine evNeg (by omega) (evNeg (by omega) ?_)
      rw [hw, Int.toNat_natCast]
      refine evPos (by omega) (evPos (by omega) (evPos (by omega) (Ev.bind (ev_impl_half n (by omega) (by omega)) ?_)))
      rw [w64 (x := (n : Int) - (half n : Int)) (by omega) (by omega), w64 (x := i - (half n : Int)) (by omega) (by omega)]
      have hs' : ∀ x ∈ p.take (p.length - 1), (x.size : Int) ≤ 1048576 := fun x hx => hs x (List.mem_of_mem_take hx)
      have hlast := lastSize p (by omega) hs
      by_cases hc : i < (half n : Int)
      · rw [if_pos hc]
        refine evPos hc (Ev.bind (ih (p.take (p.length - 1)) (half n) i (by rw [List.length_take]; omega) (by rw [List.length_take]; omega) hs' (by omega) (by omega) (by omega) hc) ?_)
        exact Ev.bind (ev_impl_NodeOf _ _ (by have := topS_size leaf (half n) i (p.take (p.length - 1)) hf; omega) (by omega)) (Ev.now _)
      · rw [if_neg hc]
        have := ih (p.take (p.length - 1)) (n - half n) (i - (half n : Int)) (by rw [List.length_take]; omega) (by rw [List.length_take]; omega) hs' (by omega) (by omega) (by omega) (by omega)
        rw [show ((n - half n : Nat) : Int) = (n : Int) - (half n : Int) by omega] at this
        refine evNeg hc (Ev.bind this ?_)
        exact Ev.bind (ev_impl_NodeOf _ _ (by omega) (by have := topS_size leaf (n - half n) (i - (half n : Int)) (p.take (p.length - 1)) hf; omega)) (Ev.now _)
def pathB (root : ByteArray) (n i : Int) (x : S31) (p : List ByteArray) : Bool :=
  if 1 ≤ n ∧ n ≤ 200 ∧ 0 ≤ i ∧ i < n then (topS (leafT x) n.toNat i p).2 && ((topS (leafT x) n.toNat i p).1.toList == root.toList) else false
theorem ev_spec_PathOk (root : ByteArray) (n i : Int) (x : S31) (p : List ByteArray) (hn : -9223372036854775808 ≤ n) (hl : p.length ≤ 1048576) (hs : ∀ x ∈ p, (x.size : Int) ≤ 1048576) : Ev (fun k => spec_PathOk.f k root n i x.f0 x.f1 x.f2.f0 x.f2.f1 x.f2.f2 x.f2.f3 p) (pathB root n i x p) := by
  simp only [spec_PathOk.f, spec_in, Option.bind_some]
  unfold pathB
  by_cases h1 : 1 ≤ n ∧ n ≤ 200
  · rw [show rng n 1 200 = true by unfold rng; simp [h1]]
    refine evPos rfl (evSucc ?_)
    rw [w64 (x := n - 1) (by omega) (by omega)]
    simp only [spec_PathOk.j0]
    by_cases h2 : 0 ≤ i ∧ i < n
    · rw [if_pos ⟨h1.1, h1.2, h2.1, h2.2⟩, show rng i 0 (n - 1) = true by unfold rng; simp; omega]
      refine evNeg (by simp) (Ev.bind (ev_spec_LeafOf _ _ _ _ _ _) ?_)
      have := ev_spec_l27Up (leafT x) (Nat.le_of_eq (dig_size _)) p.length p n.toNat i rfl hl hs (by omega) (by omega) h2.1 (by omega)
      rw [Int.toNat_of_nonneg (by omega)] at this
      refine Ev.bind this ?_
      cases hb : (topS (leafT x) n.toNat i p).2
      · exact evNeg (by simp) (Ev.now _)
      · exact evPos rfl (Ev.now _)
    · rw [if_neg (by omega), show rng i 0 (n - 1) = false by unfold rng; simp; omega]
      exact evPos rfl (Ev.now _)
  · rw [if_neg (by omega), show rng n 1 200 = false by unfold rng; simp; omega]
    refine evNeg (by simp) (evSucc ?_)
    simp only [spec_PathOk.j0]
    exact evPos (by simp) (Ev.now _)
theorem ev_impl_PathOk (root : ByteArray) (n i : Int) (x : S31) (p : List ByteArray) (hn : -9223372036854775808 ≤ n) (hl : p.length ≤ 1048576) (hs : ∀ x ∈ p, (x.size : Int) ≤ 1048576) : Ev (fun k => impl_PathOk.f k root n i x.f0 x.f1 x.f2.f0 x.f2.f1 x.f2.f2 x.f2.f3 p) (pathB root n i x p) := by
  simp only [impl_PathOk.f, impl_in, Option.bind_some]
  unfold pathB
  by_cases h1 : 1 ≤ n ∧ n ≤ 200
  · rw [show rng n 1 200 = true by unfold rng; simp [h1]]
    refine evPos rfl (evSucc ?_)
    rw [w64 (x := n - 1) (by omega) (by omega)]
    simp only [impl_PathOk.j0]
    by_cases h2 : 0 ≤ i ∧ i < n
    · rw [if_pos ⟨h1.1, h1.2, h2.1, h2.2⟩, show rng i 0 (n - 1) = true by unfold rng; simp; omega]
      refine evNeg (by simp) (Ev.bind (ev_impl_LeafOf _ _ _ _ _ _) ?_)
      have := ev_impl_topOf (leafT x) (Nat.le_of_eq (dig_size _)) p.length p n.toNat i rfl hl hs (by omega) (by omega) h2.1 (by omega)
      rw [Int.toNat_of_nonneg (by omega)] at this
      refine Ev.bind this ?_
      cases hb : (topS (leafT x) n.toNat i p).2
      · exact evNeg (by simp) (Ev.now _)
      · exact evPos rfl (Ev.now _)
    · rw [if_neg (by omega), show rng i 0 (n - 1) = false by unfold rng; simp; omega]
      exact evPos rfl (Ev.now _)
  · rw [if_neg (by omega), show rng n 1 200 = false by unfold rng; simp; omega]
    refine evNeg (by simp) (evSucc ?_)
    simp only [impl_PathOk.j0]
    exact evPos (by simp) (Ev.now _)
theorem FnExactPathOk : PureFnExactPathOk.Stated := by
  intro root n i x p _ hn hi _ ⟨hs, hb⟩
  have hn := okI64 hn
  refine Ev.rounds ?_
  simp only [laws_FnExactPathOk.f, laws_szStringS.f]
  by_cases h1 : (root.size : Int) > 1048576
  · exact evPos h1 (Ev.now _)
  refine evNeg h1 ?_
  rw [w64 (x := 1048576 - (p.length : Int)) (by omega) (by omega)]
  by_cases h2 : p.length ≤ 1048576
  · refine Ev.bind (evNeg (by omega) (ev_szStringS p _ (by omega) (by omega) h2 hs)) ?_
    by_cases h3 : szS (1048576 - (p.length : Int)) p < 0
    · exact evPos h3 (Ev.now _)
    · refine evNeg h3 ?_
      have hz := (szS_ok p (1048576 - (p.length : Int)) (by omega)).2
      have hs' : ∀ x ∈ p, (x.size : Int) ≤ 1048576 := fun x hx => by have := hz x hx; omega
      simp only [laws_toEntry.f, laws_toItem.f, Option.bind_some]
      refine Ev.bind (ev_toStringS p h2) (Ev.bind (ev_spec_PathOk root n i (cvEntry x) p (by omega) h2 hs') (Ev.bind (ev_toStringS p h2) (Ev.bind (ev_impl_PathOk root n i (cvEntry x) p (by omega) h2 hs') ?_)))
      refine evNeg (by simp) (Ev.bind (ev_toStringS p h2) (Ev.bind (ev_eqStringS p h2) (evPos (by simp) (Ev.now _))))
  · refine Ev.bind (evPos (by omega) (Ev.now _)) (evPos (by omega) (Ev.now _))

end Go.Proofs.YtfbhkglgaehohaaDoor.Pure

/- The law FnExactPathOk: for every input it returns true, and its arguments read behind the call as before. No condition. -/
namespace Go.Proofs.YtfbhkglgaehohaaDoor.fnExactPathOk
open Go.ChangeShapes Go.WideShapes Go.ChangeAt Go.RowKit Go.Proofs.YtfbhkglgaehohaaDoor.PA Go.Proofs.YtfbhkglgaehohaaDoor.PureFnExactPathOk Go.Proofs.YtfbhkglgaehohaaDoorW.PrintWords
open Go.ChangeMaps (open_string shut_string)
set_option linter.unusedVariables false
set_option linter.unusedSimpArgs false
theorem own : ownKnob Tryd.prog.godebug = none := by kernel_rfl
theorem laidOut : laidOutB Tryd.prog = true := by kernel_rfl
def laidV : List (String × DataW Unit) := [("loop.example/g00397/impl.shaWords", Rows.laid_loop_example_g00397_impl_shaWords)]
theorem gTab : Tryd.prog.globalNamed "loop.example/g00397/impl.shaWords" = some 0 := by kernel_rfl
theorem gTabType : (Tryd.prog.globals[0]?).map (·.type) = some 60 := by kernel_rfl
theorem door_met (os : Os) (args : Array Value) : laidMetH Tryd.prog laidV ((World.doorLaid Tryd.prog 4000 os).forCall (fun _ _ => 0) ⟨#[], args, []⟩).memory :=
  laidMetH_of_parts3 (fuel := 8) (laidMet_of_run' 8 (by kernel_rfl) (by kernel_rfl)) (by kernel_rfl) (by kernel_rfl)
/-- The table reads behind as before. -/
theorem vars_back {H : Type} {enc : TypeId × Value → H} {W W' : World} (hb : Below W.heap.size W W') {gs : List (DataW H)} {ps : List MemPlace} (h : DataW.TrodVars enc Tryd.prog W (fun _ => true) ["loop.example/g00397/impl.shaWords"] gs ps) :
    DataW.TrodVars enc Tryd.prog W' (fun b => decide (b < W.heap.size)) ["loop.example/g00397/impl.shaWords"] gs ps := by
  obtain ⟨g, t, cs, fu, d, p, rfl, hg, ht, hv, htr, rfl⟩ := trodVars_one h
  have hg2 := hg
  have ht2 := ht
  obtain rfl := Option.some.inj (gTab.symm.trans hg)
  obtain rfl := Option.some.inj (gTabType.symm.trans ht)
  have lt := DataW.trod_lt _ _ _ _ htr
  have hk : DataW.Trod enc Tryd.prog W' 0 (fun b => decide (b < W.heap.size)) true 60 (.agg cs) d p := Below.trod laidOut (by kernel_rfl) (of_decide_eq_true (by kernel_rfl)) (show DataW.Trod enc Tryd.prog W 0 (fun _ => true) true 60 (.agg cs) d p from ⟨fu, htr⟩) hb lt
  obtain ⟨m, hm⟩ := hk
  have hv2 : W'.var? Tryd.prog "loop.example/g00397/impl.shaWords" = some cs := by
    unfold World.var? at hv ⊢
    rw [gTab, Option.bind_some] at hv ⊢
    have hlt : 0 < W.heap.size := by
      rcases Nat.lt_or_ge 0 W.heap.size with h' | h'
      · exact h'
      · rw [Array.getElem?_eq_none h'] at hv; cases hv
    rw [hb.block 0 hlt]
    exact hv
  exact trodVars_mk1 hg2 ht2 hv2 hm
theorem op25 : Op.Opens Tryd.prog k25 25 ok25 := Op.opStruct Tryd.underlying25 (by kernel_rfl) (Op.fieldsCons (Op.opInt Tryd.underlying3 (by kernel_rfl)) rfl (Op.fieldsCons (Op.opInt Tryd.underlying3 (by kernel_rfl)) rfl (Op.fieldsCons (Op.opInt Tryd.underlying3 (by kernel_rfl)) rfl (Op.fieldsOne (Op.opInt Tryd.underlying3 (by kernel_rfl)) rfl)))) (fun a => ⟨a.1, a.2.1, a.2.2.1, a.2.2.2⟩) (fun a => rfl) (fun a h => h)
theorem op27 : Op.Opens Tryd.prog k27 27 ok27 := Op.opStruct Tryd.underlying27 (by kernel_rfl) (Op.fieldsCons (Op.opInt Tryd.underlying3 (by kernel_rfl)) rfl (Op.fieldsCons (Op.opInt Tryd.underlying3 (by kernel_rfl)) rfl (Op.fieldsOne op25 rfl))) (fun a => ⟨a.1, a.2.1, a.2.2⟩) (fun a => rfl) (fun a h => h)
set_option maxRecDepth 100000 in
theorem lifted (os : Os) (started : os.Started) (H : Type) (enc : TypeId × Value → H) :
    ReturnsInHanded {} Tryd.checked os 8 .any (fun w args => (Rows.fnExactPathOkSpec.pre enc Tryd.prog Tryd.f8 [] false w args ∧ laidMetH Tryd.prog laidV w) ∧ sizedMet enc Tryd.prog Tryd.f8 (OpenSpec.ofChange Rows.fnExactPathOkSpec) false w args) (Rows.fnExactPathOkSpec.post enc Tryd.prog Tryd.f8 false true false false) := by
  refine returnsInHanded_of_change_and (C := Tryd.checked) (X := fun w _ => laidMetH Tryd.prog laidV w) (fun _ _ _ hh h => h.of_heap hh) own started (by kernel_rfl) Tryd.func8
    (ChangeSpec.witness_shaped (enc := enc) (C := Tryd.checked) (os := os) (X := fun w _ => laidMetH Tryd.prog laidV w) false (World.doorLaid Tryd.prog 4000 os) #[.string ByteArray.empty, .int .i64 0, .int .i64 0, .agg #[.int .i64 0, .int .i64 0, .int .i64 0, .int .i64 0, .int .i64 0, .int .i64 0], .slice none 0 0] 8 rfl (World.shaped_of_RefB (by kernel_rfl) (by kernel_rfl)) (by kernel_rfl) (by kernel_rfl) (by kernel_rfl) (door_met os _)) ?_
  intro W base args ds gs before hval0 hW _ _ hL _
  have hT : PA.Tab W := by
    rw [MakeChecks.laidMetH_plain _ _ _ (by kernel_rfl)] at hL
    exact Lib.tabIs_of_head (rest := []) gTab gTabType (t := 60) (e := 57) (n := 64) (by kernel_rfl) (by kernel_rfl) (by kernel_rfl) (by kernel_rfl) hL
  have hval : ∀ (j : Nat) t v, Tryd.f8.params[j]? = some t → args[j]? = some v → Value.okWide Tryd.prog W .any base t v := hval0
  have hW' := hW
  obtain ⟨p, q, hA0, hV, rfl, hfz, hnd⟩ := hW
  have hA : DataW.TrodAll enc Tryd.prog W 0 (fun _ => true) true Tryd.f8.params.toList args.toList ds p := hA0
  rw [Tryd.params8] at hA hval
  obtain ⟨v0, vs0, d0, ds0, p0, q0, hargs, rfl, rfl, h0, r0⟩ := trodAll_cons hA
  obtain ⟨v1, vs1, d1, ds1, p1, q1, rfl, rfl, rfl, h1, r1⟩ := trodAll_cons r0
  obtain ⟨v2, vs2, d2, ds2, p2, q2, rfl, rfl, rfl, h2, r2⟩ := trodAll_cons r1
  obtain ⟨v3, vs3, d3, ds3, p3, q3, rfl, rfl, rfl, h3, r3⟩ := trodAll_cons r2
  obtain ⟨v4, vs4, d4, ds4, p4, q4, rfl, rfl, rfl, h4, r4⟩ := trodAll_cons r3
  obtain ⟨rfl, rfl, rfl⟩ := trodAll_nil r4
  obtain rfl : args = #[v0, v1, v2, v3, v4] := by cases args; simp_all
  obtain ⟨g1, t1, cs1, fu1, dv, pv1, rfl, _⟩ := trodVars_one hV
  have k0 := h0
  have lt0 : ∀ x ∈ p0, x.block < W.heap.size := by obtain ⟨m, hm⟩ := k0; exact DataW.trod_lt m _ _ _ hm
  obtain ⟨x0, rfl, rfl, rfl, hG0⟩ := open_string Tryd.underlying9 (hval 0 9 v0 rfl rfl) h0
  have k1 := h1
  have lt1 : ∀ x ∈ p1, x.block < W.heap.size := by obtain ⟨m, hm⟩ := k1; exact DataW.trod_lt m _ _ _ hm
  obtain ⟨x1, rfl, rfl, rfl, hG1⟩ := open_int Tryd.underlying3 (hval 1 3 v1 rfl rfl) h1
  have k2 := h2
  have lt2 : ∀ x ∈ p2, x.block < W.heap.size := by obtain ⟨m, hm⟩ := k2; exact DataW.trod_lt m _ _ _ hm
  obtain ⟨x2, rfl, rfl, rfl, hG2⟩ := open_int Tryd.underlying3 (hval 2 3 v2 rfl rfl) h2
  have k3 := h3
  have lt3 : ∀ x ∈ p3, x.block < W.heap.size := by obtain ⟨m, hm⟩ := k3; exact DataW.trod_lt m _ _ _ hm
  obtain ⟨m3, hm3⟩ := h3
  obtain ⟨cs3, rfl, _⟩ := okWide_struct Tryd.underlying27 (hval 3 27 v3 rfl rfl)
  obtain ⟨x3, hK3, hG3⟩ := op27.op hm3
  have hs3 := k27_open hK3
  obtain rfl : cs3 = #[.int .i64 x3.f0, .int .i64 x3.f1, .int .i64 x3.f2.f0, .int .i64 x3.f2.f1, .int .i64 x3.f2.f2, .int .i64 x3.f2.f3] := Array.toList_inj.1 hs3
  have k4 := h4
  have lt4 : ∀ x ∈ p4, x.block < W.heap.size := by obtain ⟨m, hm⟩ := k4; exact DataW.trod_lt m _ _ _ hm
  obtain ⟨m4, hm4⟩ := h4
  obtain ⟨A4, n4, c4, rfl⟩ := okWide_slice Tryd.underlying43 (hval 4 43 v4 rfl rfl)
  obtain ⟨x4, ⟨A4', c4', hs4, hc4, hr4⟩, hG4⟩ := (Op.opSlice Tryd.underlying43 (by kernel_rfl) 9 (Op.opStr Tryd.underlying9 (by kernel_rfl))).op hm4
  obtain ⟨rfl, rfl, rfl⟩ : A4 = A4' ∧ n4 = x4.length ∧ c4 = c4' := by simpa [Value.cells] using hs4
  obtain ⟨k, h⟩ := Pure.FnExactPathOk x0 x1 x2 x3 x4 hG0 hG1 hG2 hG3 hG4
  refine (laws_FnExactPathOk.calls k x0 x1 x2 x3.f0 x3.f1 x3.f2.f0 x3.f2.f1 x3.f2.f2 x3.f2.f3 A4 c4 x4 true W hr4 hc4 hT h).mono fun e W' ⟨he, bel⟩ => ?_
  subst he
  exact ⟨_, rfl, _, _, _, [], _, _, hW', trodAll_mk1 (shut_bool Tryd.underlying4 _), (trodAll_cons_mk (Below.trod laidOut (by kernel_rfl) (of_decide_eq_true (by kernel_rfl)) k0 bel lt0) (trodAll_cons_mk (Below.trod laidOut (by kernel_rfl) (of_decide_eq_true (by kernel_rfl)) k1 bel lt1) (trodAll_cons_mk (Below.trod laidOut (by kernel_rfl) (of_decide_eq_true (by kernel_rfl)) k2 bel lt2) (trodAll_cons_mk (Below.trod laidOut (by kernel_rfl) (of_decide_eq_true (by kernel_rfl)) k3 bel lt3) (trodAll_cons_mk (Below.trod laidOut (by kernel_rfl) (of_decide_eq_true (by kernel_rfl)) k4 bel lt4) trodAll_mk0))))), vars_back bel hV, bel.frame _, fun h => by cases h⟩
theorem over : Rows.fnExactPathOkRow.holds Tryd.pinned (OpenSpec.ofChange Rows.fnExactPathOkSpec) :=
  OpenClaim.holds_of_wide 8 Tryd.f8 rfl rfl rfl rfl rfl rfl rfl ⟨rfl, rfl, rfl, rfl, rfl⟩ rfl rfl rfl rfl rfl (by kernel_rfl) Tryd.func8 (by kernel_rfl)
    (of_decide_eq_true (by kernel_rfl)) (by unfold Func.isWrapper; first | (rw [if_pos (by decide +kernel)]; kernel_rfl) | (rw [if_neg (by decide +kernel)]; exact ⟨rfl, rfl⟩))
    (fun os started H enc _ => lifted os started H enc)
theorem proved : Rows.FnExactPathOkSaid := over
#print axioms proved
end Go.Proofs.YtfbhkglgaehohaaDoor.fnExactPathOk
namespace Go.Proofs.YtfbhkglgaehohaaDoor
/-- The tied card, under a short name, for the claim. -/
theorem fnExactPathOk_holds : Rows.FnExactPathOkCardSaid :=
  Claim7.holds_tied_plain_at .later [] [.data] true (true, "6329d71903e3e372d43e5ccb9dc51d50cfba9dc6da3902d976e2e6f26835b4ed") false
    fnExactPathOk.proved (fun _ h => by cases h) (by kernel_rfl) (fun _ h => by cases h) fnExactPathOk_row_tie rfl ⟨rfl, rfl⟩ (by kernel_rfl) rfl
    (fun f fn hf hfn => by
      obtain rfl : f = 8 := Option.some.inj ((show Tryd.prog.funcNamed "loop.example/g00397/laws.FnExactPathOk" = some 8 by kernel_rfl).symm.trans hf) |>.symm
      obtain rfl : fn = Tryd.f8 := (Option.some.inj (Tryd.func8.symm.trans hfn)).symm
      exact ⟨by kernel_rfl, fun j t ht => by
        rw [Tryd.params8] at ht
        have h3 : t = 9 ∨ t = 3 ∨ t = 27 ∨ t = 43 := by
          match j, ht with
          | 0, ht => simp at ht; subst ht; simp
          | 1, ht => simp at ht; subst ht; simp
          | 2, ht => simp at ht; subst ht; simp
          | 3, ht => simp at ht; subst ht; simp
          | 4, ht => simp at ht; subst ht; simp
          | _ + 5, ht => simp at ht
        rcases h3 with rfl | rfl | rfl | rfl
        · exact (show Tryd.prog.wantsStandIn 9 = false by kernel_rfl)
        · exact (show Tryd.prog.wantsStandIn 3 = false by kernel_rfl)
        · exact (show Tryd.prog.wantsStandIn 27 = false by kernel_rfl)
        · exact (show Tryd.prog.wantsStandIn 43 = false by kernel_rfl)⟩)
    (by kernel_rfl)
end Go.Proofs.YtfbhkglgaehohaaDoor

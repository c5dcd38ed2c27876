/- Contracts of functions of the program and of the reference, and plain lemmas on what they compute: a part of the proof of the law FnSegmentsBound. No condition. -/
import Derived.Test.YtdhjolglbcoijaaDoorJFnSegmentsBound2
import Derived.Test.YtdhjolglbcoijaaDoorRows
import Derived.WalkKit
import Derived.ProofKit
import Derived.OpenShut
import Derived.ShutString
import Derived.ChangeOld
import Derived.Below
import Derived.SizedLaws
import Derived.Carry
import Derived.LaidLaws
import Derived.LaidMore
import Derived.MakeChecks
import Derived.Stop.Joined
import Derived.ChangeVars
import Derived.Lib.LaidTab
import Derived.Test.YtdhjolglbcoijaaDoorCards
import Derived.Test.YtdhjolglbcoijaaDoorTie
import Derived.SevenTiedAt
import Derived.Test.YtdhjolglbcoijaaDoorShort
namespace Go.Proofs.YtdhjolglbcoijaaDoor.Pure
open Go.RowKit Go.Proofs.YtdhjolglbcoijaaDoor.PA Go.Proofs.YtdhjolglbcoijaaDoorW.PrintWords Go.Proofs.YtdhjolglbcoijaaDoorW.PrintLast Go.Proofs.YtdhjolglbcoijaaDoorW.PrintMore Go.Proofs.YtdhjolglbcoijaaDoor.Kit Go.Proofs.YtdhjolglbcoijaaDoor.PureFnSegmentsBound
set_option linter.unusedVariables false
set_option linter.unusedSimpArgs false
def rng (x lo hi : Int) : Bool := decide (lo ≤ x) && decide (x ≤ hi)
theorem spec_in (x lo hi : Int) : spec_l01In.f x lo hi = some (rng x lo hi) := by
 unfold spec_l01In.f rng
 by_cases h : x ≥ lo
 ·simp [h]
 ·simp [h]
  try omega
theorem impl_in (x lo hi : Int) : impl_within.f x lo hi = some (rng x lo hi) := by
 unfold impl_within.f rng
 by_cases h : x ≥ lo
 ·simp [h]
 ·simp [h]
  try omega
theorem bits_nat (op : BinOp) (k : IntKind) (x y : Int) : Go.bits op k x y = match op with
 | .and => k.wrap ((BitVec.ofInt k.bits x &&& BitVec.ofInt k.bits y).toNat : Int)
 | .or => k.wrap ((BitVec.ofInt k.bits x ||| BitVec.ofInt k.bits y).toNat : Int)
 | .xor => k.wrap ((BitVec.ofInt k.bits x ^^^ BitVec.ofInt k.bits y).toNat : Int)
 | .andNot => k.wrap ((BitVec.ofInt k.bits x &&& ~~~BitVec.ofInt k.bits y).toNat : Int)
 | _ => Go.bits op k x y := by
 cases op <;> rfl
theorem ofInt_nat32 (n : Nat) (h : n < 4294967296) : (BitVec.ofInt 32 (n : Int)).toNat = n := by
 rw [BitVec.toNat_ofInt]; omega
theorem ofInt_nat64 (n : Nat) (h : n < 18446744073709551616) : (BitVec.ofInt 64 (n : Int)).toNat = n := by
 rw [BitVec.toNat_ofInt]; omega
theorem wrap_u32 (x : Int) : IntKind.wrap .u32 x = x % 4294967296 := rfl
theorem wrap_i64 (x : Int) : IntKind.wrap .i64 x = wrap64 x := i64_w x
theorem xor_u32_rng (x y : Int) : 0 ≤ Go.bits .xor .u32 x y ∧ Go.bits .xor .u32 x y < 4294967296 := by
 rw [bits_nat]
 show 0 ≤ IntKind.wrap .u32 _ ∧ IntKind.wrap .u32 _ < _
 rw [wrap_u32]
 omega
theorem and_u32_one (x : Int) (h0 : 0 ≤ x) (h1 : x < 4294967296) : Go.bits .and .u32 x 1 = x % 2 := by
 rw [bits_nat]
 show IntKind.wrap .u32 ((BitVec.ofInt 32 x &&& BitVec.ofInt 32 ((1 : Nat) : Int)).toNat : Int) = _
 obtain ⟨n, rfl⟩ := Int.eq_ofNat_of_zero_le h0
 rw [BitVec.toNat_and, ofInt_nat32 n (by omega), ofInt_nat32 1 (by omega), Nat.and_one_is_mod, wrap_u32]
 omega
theorem var_byte (x : Int) (h0 : 0 ≤ x) (h1 : x ≤ 1000000000) : (Go.bits .or .i64 (Go.bits .and .i64 x 127) 128) % 256 = x % 128 + 128 := by
 obtain ⟨n, rfl⟩ := Int.eq_ofNat_of_zero_le h0
 have e1 : Go.bits .and .i64 (n : Int) 127 = ((n % 128 : Nat) : Int) := by
  rw [bits_nat]
  show IntKind.wrap .i64 ((BitVec.ofInt 64 (n : Int) &&& BitVec.ofInt 64 ((127 : Nat) : Int)).toNat : Int) = _
  rw [BitVec.toNat_and, ofInt_nat64 n (by omega), ofInt_nat64 127 (by omega), wrap_i64]
  have : n &&& 127 = n % 128 := Nat.and_two_pow_sub_one_eq_mod n 7
  rw [this, w64 (by omega) (by omega)]
 rw [e1, bits_nat]
 show IntKind.wrap .i64 ((BitVec.ofInt 64 ((n % 128 : Nat) : Int) ||| BitVec.ofInt 64 ((128 : Nat) : Int)).toNat : Int) % 256 = _
 rw [BitVec.toNat_or, ofInt_nat64 (n % 128) (by omega), ofInt_nat64 128 (by omega), wrap_i64]
 have h : ∀ m : Fin 128, (m.val ||| 128) = m.val + 128 := by decide
 have hm := h ⟨n % 128, by omega⟩
 have e2 : (n % 128 ||| 128) = n % 128 + 128 := hm
 rw [e2, w64 (by omega) (by omega)]
 omega
def varL (n : Nat) : List Int := if h : n ≤ 127 then [(n : Int)] else ((n % 128 + 128 : Nat) : Int) :: varL (n / 128)
 termination_by n
 decreasing_by omega
theorem varL_small (n : Nat) (h : n ≤ 127) : varL n = [(n : Int)] := by rw [varL, dif_pos h]
theorem varL_big (n : Nat) (h : 127 < n) : varL n = ((n % 128 + 128 : Nat) : Int) :: varL (n / 128) := by rw [varL, dif_neg (by omega)]
theorem varL_len (n : Nat) (h : n ≤ 1000000000) : (varL n).length ≤ 5 := by
 have key : ∀ (j n : Nat), n < 128 ^ (j + 1) → (varL n).length ≤ j + 1 := by
  intro j
  induction j with
  | zero => intro n h; rw [varL_small n (by omega)]; simp
  | succ j ih =>
   intro n h
   by_cases hn : n ≤ 127
   ·rw [varL_small n hn]; simp
   ·rw [varL_big n (by omega), List.length_cons]
    have := ih (n / 128) (by rw [Nat.pow_succ] at h; omega)
    omega
 exact key 4 n (by omega)
def varS (n : Int) : ByteArray := strOfNums (varL n.toNat)
theorem varS_size (n : Int) (h : n ≤ 1000000000) : (varS n).size ≤ 5 := by
 unfold varS; rw [strOfNums_size]; exact varL_len _ (by omega)
theorem ev_spec_l01Var (n : Int) (h0 : 0 ≤ n) (h1 : n ≤ 1000000000) : Ev (fun k => spec_l01Var.f k n) (varS n) := by
 have key : ∀ (m : Nat) (acc : List Int), m ≤ 1000000000 → acc.length + m ≤ 2000000000 → Ev (fun k => spec_l01Var.l0 k (m : Int) acc) (strOfNums (acc ++ varL m)) := by
  intro m
  induction m using Nat.strongRecOn with
  | ind m ih =>
   intro acc hm ha
   refine evSucc ?_
   simp only [spec_l01Var.l0]
   have e : Int.tdiv (m : Int) 128 = ((m / 128 : Nat) : Int) := by rw [Int.tdiv_eq_ediv_of_nonneg (by omega)]; omega
   have e2 : Int.tmod (m : Int) 128 = ((m % 128 : Nat) : Int) := by rw [Int.tmod_eq_emod_of_nonneg (by omega)]; omega
   by_cases hb : m ≤ 127
   ·refine evNeg (by omega) (evPos (by omega) ?_)
    rw [varL_small m hb, show (m : Int) % 256 = m by omega]
    exact Ev.now _
   ·refine evPos (by omega) (evPos (by omega) ?_)
    rw [e, e2, w64 (by omega) (by omega), w64 (by omega) (by omega), varL_big m (by omega)]
    have := ih (m / 128) (by omega) (acc ++ [((m % 128 + 128 : Nat) : Int)]) (by omega) (by simp; omega)
    rw [List.append_assoc] at this
    rw [show (((m % 128 : Nat) : Int) + 128) % 256 = ((m % 128 + 128 : Nat) : Int) by omega]
    exact this
 have := key n.toNat [] (by omega) (by simp; omega)
 rw [Int.toNat_of_nonneg h0] at this
 exact this
theorem ev_impl_VarText (n : Int) : Ev (fun k => impl_VarText.f k n) (if rng n 0 1000000000 = true then (varS n, true) else (⟨#[]⟩, false)) := by
 simp only [impl_VarText.f, impl_in, Option.bind_some]
 refine evIte (fun h => ?_) (fun h => Ev.now _)
 have hr : 0 ≤ n ∧ n ≤ 1000000000 := by unfold rng at h; simpa using h
 have key : ∀ (m : Nat) (acc : List Int), m ≤ 1000000000 → acc.length + m ≤ 2000000000 → Ev (fun k => impl_VarText.l0 k (m : Int) acc) (strOfNums (acc ++ varL m), true) := by
  intro m
  induction m using Nat.strongRecOn with
  | ind m ih =>
   intro acc hm ha
   refine evSucc ?_
   simp only [impl_VarText.l0]
   by_cases hb : m ≤ 127
   ·refine evNeg (by omega) (evPos (by omega) ?_)
    rw [varL_small m hb, show (m : Int) % 256 = m by omega]
    exact Ev.now _
   ·refine evPos (by omega) (evPos (by omega) ?_)
    rw [var_byte m (by omega) (by omega), varL_big m (by omega)]
    have := ih (m / 128) (by omega) (acc ++ [((m % 128 + 128 : Nat) : Int)]) (by omega) (by simp; omega)
    rw [List.append_assoc] at this
    rw [show (m : Int) / 128 = ((m / 128 : Nat) : Int) by omega, show (m : Int) % 128 + 128 = ((m % 128 + 128 : Nat) : Int) by omega]
    exact this
 have := key n.toNat [] (by omega) (by simp; omega)
 rw [Int.toNat_of_nonneg hr.1] at this
 exact this
theorem ev_impl_VarText_ok (n : Int) (h0 : 0 ≤ n) (h1 : n ≤ 1000000000) : Ev (fun k => impl_VarText.f k n) (varS n, true) :=
 evEq (ev_impl_VarText n) (if_pos (by unfold rng; simp [h0, h1]))
def itemB (a b c d : Int) : Bool := if a = 1 then rng b 0 4294967295 && (rng c 0 4294967295 && d == 0) else if a = 2 then rng d 1 1000000000 && (b == 0 && c == 0) else false
theorem spec_itemB (a b c d : Int) : spec_ItemOk.f a b c d = some (itemB a b c d) := by
 unfold spec_ItemOk.f itemB
 simp only [spec_HalfOk.f, spec_in, Option.bind_some]
 by_cases h1 : a = 1
 ·rw [if_pos h1, if_pos h1]
  cases rng b 0 4294967295 <;> cases rng c 0 4294967295 <;> simp
 ·rw [if_neg h1, if_neg h1]
  by_cases h2 : a = 2
  ·rw [if_pos h2, if_pos h2]
   by_cases hb : b = 0
   ·cases rng d 1 1000000000 <;> simp [hb]
   ·cases rng d 1 1000000000 <;> simp [hb]
  ·rw [if_neg h2, if_neg h2]
theorem impl_itemB (a b c d : Int) : impl_ItemOk.f a b c d = some (itemB a b c d) := by
 unfold impl_ItemOk.f itemB
 simp only [impl_HalfOk.f, impl_in, Option.bind_some]
 by_cases h1 : a = 1
 ·rw [if_pos h1, if_pos h1]
  cases rng b 0 4294967295 <;> cases rng c 0 4294967295 <;> simp
 ·rw [if_neg h1, if_neg h1]
  by_cases h2 : a = 2
  ·rw [if_pos h2, if_pos h2]
   by_cases hb : b = 0
   ·cases rng d 1 1000000000 <;> simp [hb]
   ·cases rng d 1 1000000000 <;> simp [hb]
  ·rw [if_neg h2, if_neg h2]
def frameB (a b c d e f g : Int) : Bool := rng b 0 2 && (rng c 1 1000000000 && (if a = 1 then itemB d e f g else if a = 2 then (d == 0 && (e == 0 && (f == 0 && (g == 0)))) else false))
theorem ev_spec_FrameOk (a b c d e f g : Int) : Ev (fun k => spec_FrameOk.f k a b c d e f g) (frameB a b c d e f g) := by
 simp only [spec_FrameOk.f, spec_in, Option.bind_some]
 unfold frameB
 cases rng b 0 2
 ·refine evNeg (by simp) (evSucc ?_)
  simp only [spec_FrameOk.j0, Bool.false_and]
  exact evPos (by simp) (Ev.now _)
 ·refine evPos rfl (evSucc ?_)
  simp only [spec_FrameOk.j0, spec_itemB, Option.bind_some, Bool.true_and]
  cases rng c 1 1000000000
  ·exact evPos (by decide) (Ev.now _)
  ·refine evNeg (by simp) ?_
   simp only [Bool.true_and]
   exact evIte (fun _ => Ev.now _) (fun _ => evIte (fun _ => Ev.now _) (fun _ => Ev.now _))
theorem ev_impl_FrameOk (a b c d e f g : Int) : Ev (fun k => impl_FrameOk.f k a b c d e f g) (frameB a b c d e f g) := by
 simp only [impl_FrameOk.f, impl_isPid.f, impl_in, Option.bind_some]
 unfold frameB
 cases rng b 0 2
 ·refine evNeg (by simp) (evSucc ?_)
  simp only [impl_FrameOk.j0, Bool.false_and]
  exact evPos (by simp) (Ev.now _)
 ·refine evPos rfl (evSucc ?_)
  simp only [impl_FrameOk.j0, impl_itemB, Option.bind_some, Bool.true_and]
  cases rng c 1 1000000000
  ·exact evPos (by decide) (Ev.now _)
  ·refine evNeg (by simp) ?_
   simp only [Bool.true_and]
   exact evIte (fun _ => Ev.now _) (fun _ => evIte (fun _ => Ev.now _) (fun _ => Ev.now _))
theorem itemB_count {a b c d : Int} (h : itemB a b c d = true) : 0 ≤ d ∧ d ≤ 1000000000 := by
 unfold itemB rng at h
 split at h
 ·simp at h; omega
 ·split at h
  ·simp at h; omega
  ·simp at h
theorem frameB_facts {a b c d e f g : Int} (h : frameB a b c d e f g = true) : (0 ≤ b ∧ b ≤ 2) ∧ (1 ≤ c ∧ c ≤ 1000000000) ∧ (0 ≤ g ∧ g ≤ 1000000000) ∧ (a = 1 ∨ a = 2) := by
 unfold frameB at h
 simp only [Bool.and_eq_true] at h
 obtain ⟨h1, h2, h3⟩ := h
 unfold rng at h1 h2
 simp at h1 h2
 refine ⟨h1, h2, ?_⟩
 split at h3
 ·rename_i ha
  exact ⟨itemB_count h3, Or.inl ha⟩
 ·split at h3
  ·rename_i ha
   simp at h3
   exact ⟨by omega, Or.inr ha⟩
  ·simp at h3
def sumBit (x : Int) : Int := if x % 2 = 1 then Go.bits .xor .u32 (x / 2) 3558460437 else x / 2
def sumByte (x b : Int) : Int := sumBit (sumBit (sumBit (sumBit (sumBit (sumBit (sumBit (sumBit (Go.bits .xor .u32 x b))))))))
def sumAll (x : Int) (s : ByteArray) : Nat → Int
 | 0 => x
 | i + 1 => sumByte (sumAll x s i) (bt s i)
theorem sumBit_rng (x : Int) (h : 0 ≤ x ∧ x < 4294967296) : 0 ≤ sumBit x ∧ sumBit x < 4294967296 := by
 unfold sumBit
 split
 ·exact xor_u32_rng _ _
 ·omega
theorem sumByte_rng (x b : Int) : 0 ≤ sumByte x b ∧ sumByte x b < 4294967296 := by
 unfold sumByte
 repeat (first | exact xor_u32_rng _ _ | apply sumBit_rng)
theorem sumAll_rng (x : Int) (s : ByteArray) (h : 0 ≤ x ∧ x < 4294967296) : ∀ i, 0 ≤ sumAll x s i ∧ sumAll x s i < 4294967296
 | 0 => h
 | _ + 1 => sumByte_rng _ _
theorem sum_impl_step (x : Int) (s : ByteArray) (i j r : Int) (h : 0 ≤ x ∧ x < 4294967296) (hj : j < 8 ∧ 0 ≤ j) (next : Ev (fun k => impl_SumMore.l1 k (sumBit x) s i (j + 1)) r) : Ev (fun k => impl_SumMore.l1 k x s i j) r := by
 refine evSucc ?_
 simp only [impl_SumMore.l1]
 refine evPos hj.1 ?_
 rw [and_u32_one x h.1 h.2, w64 (by omega) (by omega)]
 unfold sumBit at next
 by_cases hx : x % 2 = 1
 ·rw [if_pos hx] at next; exact evPos hx next
 ·rw [if_neg hx] at next; exact evNeg hx next
theorem sum_spec_step (x : Int) (s : ByteArray) (i j r : Int) (h : 0 ≤ x ∧ x < 4294967296) (hj : j < 8 ∧ 0 ≤ j) (next : Ev (fun k => spec_SumMore.l1 k (sumBit x) s i (j + 1)) r) : Ev (fun k => spec_SumMore.l1 k x s i j) r := by
 refine evSucc ?_
 simp only [spec_SumMore.l1]
 refine evPos hj.1 ?_
 rw [Int.tmod_eq_emod_of_nonneg h.1, Int.tdiv_eq_ediv_of_nonneg h.1, w64 (by omega) (by omega), show x / 2 % 4294967296 = x / 2 by omega]
 unfold sumBit at next
 by_cases hx : x % 2 = 1
 ·rw [if_pos hx] at next; exact evPos hx next
 ·rw [if_neg hx] at next; exact evNeg hx next
theorem ev_impl_SumMore (x : Int) (s : ByteArray) (h : 0 ≤ x ∧ x < 4294967296) (hs : s.size ≤ 140737488351232) : Ev (fun k => impl_SumMore.f k x s) (sumAll x s s.size) := by
 have key := evUp (r := sumAll x s s.size) s.size (fun i k => impl_SumMore.l0 k (sumAll x s i) s (i : Int)) ?_ ?_
 ·exact key
 ·intro i hi ih
  refine evSucc ?_
  simp only [impl_SumMore.l0]
  have hb := bt_range s (i : Int)
  refine evPos (by omega) (evPos (by omega) ?_)
  rw [show bt s (i : Int) % 4294967296 = bt s (i : Int) by omega]
  iterate 8 (refine sum_impl_step _ _ _ _ _ (by repeat (first | exact xor_u32_rng _ _ | apply sumBit_rng)) (by decide) ?_)
  refine evSucc ?_
  simp only [impl_SumMore.l1]
  refine evNeg (by decide) ?_
  rw [w64 (by omega) (by omega), ci]
  exact ih
 ·refine evSucc ?_
  simp only [impl_SumMore.l0]
  exact evNeg (by omega) (Ev.now _)
theorem ev_spec_SumMore (x : Int) (s : ByteArray) (h : 0 ≤ x ∧ x < 4294967296) (hs : s.size ≤ 140737488351232) : Ev (fun k => spec_SumMore.f k x s) (sumAll x s s.size) := by
 have key := evUp (r := sumAll x s s.size) s.size (fun i k => spec_SumMore.l0 k (sumAll x s i) s (i : Int)) ?_ ?_
 ·exact key
 ·intro i hi ih
  refine evSucc ?_
  simp only [spec_SumMore.l0]
  have hb := bt_range s (i : Int)
  refine evPos (by omega) (evPos (by omega) ?_)
  rw [show bt s (i : Int) % 4294967296 = bt s (i : Int) by omega]
  iterate 8 (refine sum_spec_step _ _ _ _ _ (by repeat (first | exact xor_u32_rng _ _ | apply sumBit_rng)) (by decide) ?_)
  refine evSucc ?_
  simp only [spec_SumMore.l1]
  refine evNeg (by decide) ?_
  rw [w64 (by omega) (by omega), ci]
  exact ih
 ·refine evSucc ?_
  simp only [spec_SumMore.l0]
  exact evNeg (by omega) (Ev.now _)
def sumS (s : ByteArray) : Int := sumAll 4294967295 s s.size
theorem sumS_rng (s : ByteArray) : 0 ≤ sumS s ∧ sumS s < 4294967296 := sumAll_rng _ _ (by omega) _
def four4 (n : Int) : ByteArray := strOfNums [(n / 16777216) % 256, (n / 65536) % 256, (n / 256) % 256, n % 256]
theorem four4_size (n : Int) : (four4 n).size = 4 := by simp [four4, strOfNums_size]
theorem impl_four4 (n : Int) : impl_four.f n = some (four4 n) := rfl
theorem spec_four4 (n : Int) : spec_l06Four.f n = some (four4 n) := rfl
theorem spec_four2 (n : Int) : spec_l02Four.f n = some (four4 n) := rfl
def sealB (s : ByteArray) : ByteArray × Bool := if s.size ≤ 20000 then (s ++ four4 (sumS s), true) else (⟨#[]⟩, false)
theorem ev_impl_Sealed (s : ByteArray) (hs : s.size ≤ 140737488351232) : Ev (fun k => impl_Sealed.f k s) (sealB s) := by
 simp only [impl_Sealed.f, impl_SumOf.f]
 unfold sealB
 by_cases h : s.size ≤ 20000
 ·have hr := sumS_rng s
  rw [if_pos h]
  refine evNeg (by omega) (Ev.bind (Ev.bind (ev_impl_SumMore _ s (by omega) hs) (Ev.now _)) ?_)
  rw [show sumAll 4294967295 s s.size = sumS s from rfl, w64 (by omega) (by omega)]
  simp only [impl_four4, Option.bind_some]
  exact evPos (by rw [four4_size]; omega) (Ev.now _)
 ·rw [if_neg h]
  exact evPos (by omega) (Ev.now _)
theorem ev_spec_Sealed (s : ByteArray) (hs : s.size ≤ 140737488351232) : Ev (fun k => spec_Sealed.f k s) (sealB s) := by
 simp only [spec_Sealed.f, spec_SumOf.f]
 unfold sealB
 by_cases h : s.size ≤ 20000
 ·rw [if_pos h]
  refine evNeg (by omega) (Ev.bind (Ev.bind (ev_spec_SumMore _ s (by omega) hs) (Ev.now _)) ?_)
  rw [show sumAll 4294967295 s s.size = sumS s from rfl]
  simp only [spec_four2, Option.bind_some]
  exact evPos (by rw [four4_size]; omega) (Ev.now _)
 ·rw [if_neg h]
  exact evPos (by omega) (Ev.now _)
def frameRaw (a b c d e f g : Int) : ByteArray := ((((strOfNums [a % 256, b % 256] ++ varS c) ++ strOfNums [d % 256]) ++ four4 e) ++ four4 f) ++ varS g
theorem frameRaw_size {a b c d e f g : Int} (hc : c ≤ 1000000000) (hg : g ≤ 1000000000) : (frameRaw a b c d e f g).size ≤ 21 := by
 have h1 := varS_size c hc
 have h2 := varS_size g hg
 unfold frameRaw
 simp only [sizeApp, strOfNums_size, four4_size, List.length_cons, List.length_nil]
 omega
def frameS (a b c d e f g : Int) : ByteArray × Bool := if frameB a b c d e f g = true then (frameRaw a b c d e f g ++ four4 (sumS (frameRaw a b c d e f g)), true) else (⟨#[]⟩, false)
theorem frameS_size (a b c d e f g : Int) : (frameS a b c d e f g).1.size ≤ 25 := by
 unfold frameS
 split
 ·rename_i h
  obtain ⟨_, ⟨_, h2⟩, ⟨_, h3⟩, _⟩ := frameB_facts h
  have := frameRaw_size (a := a) (b := b) (d := d) (e := e) (f := f) h2 h3
  rw [sizeApp, four4_size]
  omega
 ·decide
theorem ev_spec_FrameText (a b c d e f g : Int) : Ev (fun k => spec_FrameText.f k a b c d e f g) (frameS a b c d e f g) := by
 simp only [spec_FrameText.f]
 refine Ev.bind (ev_spec_FrameOk a b c d e f g) ?_
 unfold frameS
 by_cases h : frameB a b c d e f g = true
 ·obtain ⟨_, hc, hg, _⟩ := frameB_facts h
  have s1 := varS_size c hc.2
  have s2 := varS_size g hg.2
  have hr := frameRaw_size (a := a) (b := b) (d := d) (e := e) (f := f) hc.2 hg.2
  have hsz2 (x y : Int) : (strOfNums [x, y]).size = 2 := by rw [strOfNums_size]; rfl
  have hsz1 (x : Int) : (strOfNums [x]).size = 1 := by rw [strOfNums_size]; rfl
  rw [if_pos h]
  refine evPos h ?_
  simp only [Option.bind_some, spec_four4]
  refine Ev.bind (ev_spec_l01Var c (by omega) hc.2) (evPos (by rw [hsz2]; omega) (evPos (by simp only [sizeApp, hsz2, hsz1]; omega) (evPos (by simp only [sizeApp, hsz2, hsz1, four4_size]; omega) (evPos (by simp only [sizeApp, hsz2, hsz1, four4_size]; omega) ?_))))
  refine Ev.bind (ev_spec_l01Var g (by omega) hg.2) (evPos (by simp only [sizeApp, hsz2, hsz1, four4_size]; omega) ?_)
  refine Ev.bind (ev_spec_Sealed (frameRaw a b c d e f g) (by omega)) (evEq (Ev.now _) ?_)
  unfold sealB
  rw [if_pos (by omega)]
 ·rw [if_neg h]
  exact evNeg h (Ev.now _)
theorem ev_impl_FrameText (a b c d e f g : Int) : Ev (fun k => impl_FrameText.f k a b c d e f g) (frameS a b c d e f g) := by
 simp only [impl_FrameText.f]
 refine Ev.bind (ev_impl_FrameOk a b c d e f g) ?_
 unfold frameS
 by_cases h : frameB a b c d e f g = true
 ·obtain ⟨_, hc, hg, _⟩ := frameB_facts h
  have s1 := varS_size c hc.2
  have s2 := varS_size g hg.2
  have hr := frameRaw_size (a := a) (b := b) (d := d) (e := e) (f := f) hc.2 hg.2
  have hsz2 (x y : Int) : (strOfNums [x, y]).size = 2 := by rw [strOfNums_size]; rfl
  have hsz1 (x : Int) : (strOfNums [x]).size = 1 := by rw [strOfNums_size]; rfl
  rw [if_pos h]
  refine evPos h ?_
  refine Ev.bind (ev_impl_VarText_ok c (by omega) hc.2) (Ev.bind (ev_impl_VarText_ok g (by omega) hg.2) ?_)
  simp only [Option.bind_some, impl_four4]
  refine evPos (by rw [hsz2]; omega) (evPos (by simp only [sizeApp, hsz2, hsz1]; omega) (evPos (by simp only [sizeApp, hsz2, hsz1, four4_size]; omega) (evPos (by simp only [sizeApp, hsz2, hsz1, four4_size]; omega) (evPos (by simp only [sizeApp, hsz2, hsz1, four4_size]; omega) ?_))))
  refine Ev.bind (ev_impl_Sealed (frameRaw a b c d e f g) (by omega)) (evEq (Ev.now _) ?_)
  unfold sealB
  rw [if_pos (by omega)]
 ·rw [if_neg h]
  exact evNeg h (Ev.now _)
def entryS (b c d e f g : Int) : ByteArray := (frameS 1 b c d e f g).1
theorem entryS_size (b c d e f g : Int) : (entryS b c d e f g).size ≤ 25 := frameS_size 1 b c d e f g
theorem ev_spec_EntryText (b c d e f g : Int) : Ev (fun k => spec_EntryText.f k b c d e f g) (entryS b c d e f g) := by
 simp only [spec_EntryText.f]
 exact Ev.bind (ev_spec_FrameText 1 b c d e f g) (Ev.now _)
theorem ev_impl_EntryText (b c d e f g : Int) : Ev (fun k => impl_EntryText.f k b c d e f g) (entryS b c d e f g) := by
 simp only [impl_EntryText.f]
 exact Ev.bind (ev_impl_FrameText 1 b c d e f g) (Ev.now _)
open DigestEq (dig dig_spec dig_impl)
theorem rdE (l : List S70) (i : Nat) (hi : i < l.length) : rd_T70 l (i : Int) = l[i] := by simp [rd_T70, hi]
theorem dig_size (s : ByteArray) : (dig s).size = 32 := by
 unfold DigestEq.dig
 rw [strOfNums_size, PH.f4_len, PH.hs_len]
def entryT (x : S70) : ByteArray := entryS x.f0 x.f1 x.f2.f0 x.f2.f1 x.f2.f2 x.f2.f3
theorem entryT_size (x : S70) : (entryT x).size ≤ 25 := entryS_size _ _ _ _ _ _
def headStep (h : ByteArray) (x : S70) : ByteArray := dig (h ++ entryT x)
def headS (h : ByteArray) (l : List S70) : ByteArray := l.foldl headStep h
theorem headS_size (h : ByteArray) (l : List S70) : (headS h l).size ≤ h.size + 32 := by
 rcases List.eq_nil_or_concat l with rfl | ⟨l', x, rfl⟩
 ·exact Nat.le_add_right _ _
 ·unfold headS
  rw [List.concat_eq_append, List.foldl_append]
  show (dig _).size ≤ _
  rw [dig_size]; omega
theorem headS_step (h : ByteArray) (l : List S70) (i : Nat) (hi : i < l.length) : headS h (l.take (i + 1)) = dig (headS h (l.take i) ++ entryT l[i]) := by
 unfold headS
 rw [takeSnoc l i hi, List.foldl_append]
 rfl
theorem ev_spec_HeadFrom (h : ByteArray) (l : List S70) (hh : h.size ≤ 16777216) (hl : l.length ≤ 16777216) : Ev (fun k => spec_HeadFrom.f k h l) (headS h l) := by
 have key := evUp (r := headS h l) l.length (fun i k => spec_HeadFrom.l0 k l (headS h (l.take i)) (i : Int)) ?_ ?_
 ·exact key
 ·intro i hi ih
  refine evSucc ?_
  simp only [spec_HeadFrom.l0]
  have hs := headS_size h (l.take i)
  have he := entryT_size l[i]
  rw [rdE l i hi, w64 (by omega) (by omega), ci]
  refine evPos (by omega) (evPos (by omega) (Ev.bind (ev_spec_EntryText _ _ _ _ _ _) (evPos ?_ ?_)))
  ·show _ + (entryT l[i]).size ≤ _
   omega
  refine evBindS (dig_spec _ (by rw [sizeApp]; show _ + (entryT l[i]).size ≤ _; omega)) ?_
  rw [headS_step h l i hi] at ih
  exact ih
 ·refine evSucc ?_
  simp only [spec_HeadFrom.l0]
  refine evNeg (by omega) ?_
  rw [List.take_length]
  exact Ev.now _
theorem ev_impl_HeadFrom (h : ByteArray) (l : List S70) (hh : h.size ≤ 16777216) (hl : l.length ≤ 16777216) : Ev (fun k => impl_HeadFrom.f k h l) (headS h l) := by
 have key := evUp (r := headS h l) l.length (fun i k => impl_HeadFrom.l0 k (headS h (l.take i)) l (l.length : Int) (i : Int)) ?_ ?_
 ·exact key
 ·intro i hi ih
  refine evSucc ?_
  simp only [impl_HeadFrom.l0]
  have hs := headS_size h (l.take i)
  have he := entryT_size l[i]
  rw [rdE l i hi, w64 (by omega) (by omega), ci]
  refine evPos (by omega) (evPos (by omega) (evPos (by omega) (Ev.bind (ev_impl_EntryText _ _ _ _ _ _) (evPos ?_ ?_))))
  ·show _ + (entryT l[i]).size ≤ _
   omega
  refine Ev.bind (dig_impl _ (by rw [sizeApp]; show _ + (entryT l[i]).size ≤ _; omega)) ?_
  rw [headS_step h l i hi] at ih
  exact ih
 ·refine evSucc ?_
  simp only [impl_HeadFrom.l0]
  refine evNeg (by omega) ?_
  rw [List.take_length]
  exact Ev.now _
theorem evUpP {α : Type} {r : α} (n : Nat) (P : Nat → Prop) (g : Nat → Nat → Option α) (h0 : P 0) (step : ∀ i, i < n → P i → (P (i + 1) → Ev (g (i + 1)) r) → Ev (g i) r) (last : P n → Ev (g n) r) : Ev (g 0) r := by
 have key : ∀ d i, i + d = n → P i → Ev (g i) r := by
  intro d
  induction d with
  | zero => intro i hi hp; rw [show i = n by omega] at hp ⊢; exact last hp
  | succ d ih => intro i hi hp; exact step i (by omega) hp (fun hp' => ih (i + 1) (by omega) hp')
 exact key n 0 (by omega) h0
theorem sizeData (s : ByteArray) : s.size = s.data.toList.length := by
 show s.data.size = _
 rw [Array.length_toList]
theorem toList_loop (bs : ByteArray) : ∀ (d i : Nat) (r : List UInt8), i + d = bs.size → ByteArray.toList.loop bs i r = r.reverse ++ bs.data.toList.drop i := by
 have hsz := sizeData bs
 intro d
 induction d with
 | zero =>
  intro i r h
  rw [ByteArray.toList.loop, if_neg (by omega), List.drop_of_length_le (by omega)]
  simp
 | succ d ih =>
  intro i r h
  rw [ByteArray.toList.loop, if_pos (by omega), ih (i + 1) _ (by omega)]
  have hi : i < bs.data.toList.length := by omega
  rw [List.drop_eq_getElem_cons hi]
  have hb : i < bs.data.size := by rw [← Array.length_toList]; exact hi
  have hg : bs.get! i = bs.data[i] := by
   show bs.data[i]! = _
   exact getElem!_pos bs.data i hb
  rw [List.reverse_cons, List.append_assoc, hg]
  simp
theorem toList_data (bs : ByteArray) : bs.toList = bs.data.toList := by
 unfold ByteArray.toList
 rw [toList_loop bs bs.size 0 [] (by omega)]
 simp
theorem toList_inj {a b : ByteArray} (h : a.toList = b.toList) : a = b := by
 rw [toList_data, toList_data] at h
 exact ByteArray.ext (Array.ext' h)
theorem toList_nil {a : ByteArray} : a.toList = ([] : List UInt8) ↔ a.size = 0 := by
 rw [toList_data, sizeData]
 exact List.length_eq_zero_iff.symm
def okE (x : S70) : Bool := frameB 1 x.f0 x.f1 x.f2.f0 x.f2.f1 x.f2.f2 x.f2.f3
theorem entryT_no (x : S70) (h : okE x = false) : entryT x = ⟨#[]⟩ := by
 unfold okE at h
 unfold entryT entryS frameS
 rw [h]
 rfl
theorem entryT_yes (x : S70) (h : okE x = true) : 4 ≤ (entryT x).size := by
 unfold okE at h
 unfold entryT entryS frameS
 rw [if_pos h]
 show 4 ≤ (_ ++ four4 _).size
 rw [sizeApp, four4_size]
 omega
theorem entryT_nil (x : S70) : (entryT x).toList = ([] : List UInt8) ↔ okE x = false := by
 rw [toList_nil]
 constructor
 ·intro h
  cases hx : okE x
  ·rfl
  ·have := entryT_yes x hx
   omega
 ·intro h
  rw [entryT_no x h]
  rfl
theorem allSnoc (l : List S70) (i : Nat) (hi : i < l.length) : (l.take (i + 1)).all okE = ((l.take i).all okE && okE l[i]) := by
 rw [takeSnoc l i hi, List.all_append]
 simp
theorem notAll (l : List S70) (i : Nat) (hi : i < l.length) (ho : okE l[i] = false) : ¬ l.all okE = true := fun z => by
 rw [List.all_eq_true] at z
 have := z _ (List.getElem_mem hi)
 rw [ho] at this
 cases this
def segB (a : Int) (b : ByteArray) (l : List S70) (d : ByteArray) : Bool :=
 if 0 ≤ a ∧ a ≤ 200 ∧ b.size = 32 ∧ 1 ≤ l.length ∧ l.length ≤ 200 ∧ l.all okE = true then d.toList == (headS b l).toList else false
theorem ev_impl_SegmentOk (a : Int) (b : ByteArray) (l : List S70) (d : ByteArray) : Ev (fun k => impl_SegmentOk.f k a b l d) (segB a b l d) := by
 have no : ∀ x, x = false → Ev (fun k => impl_SegmentOk.j0 k true a b l d) x := fun x hx => by
  subst hx
  refine evSucc ?_
  simp only [impl_SegmentOk.j0]
  exact evPos (by simp) (Ev.now _)
 simp only [impl_SegmentOk.f, impl_in, Option.bind_some]
 by_cases h1 : 0 ≤ a ∧ a ≤ 200
 ·rw [show rng a 0 200 = true by unfold rng; simp [h1]]
  refine evPos rfl ?_
  by_cases h2 : b.size = 32
  ·refine evPos (by omega) ?_
   by_cases h3 : 1 ≤ l.length ∧ l.length ≤ 200
   ·rw [show rng (l.length : Int) 1 200 = true by unfold rng; simp; omega]
    refine evSucc ?_
    simp only [impl_SegmentOk.j0]
    refine evNeg (by simp) ?_
    refine evUpP l.length (fun i => (l.take i).all okE = true) (fun i k => impl_SegmentOk.l0 k l (l.length : Int) (i : Int) a b l d) rfl ?_ ?_
    ·intro i hi hp ih
     refine evSucc ?_
     simp only [impl_SegmentOk.l0]
     rw [rdE l i hi, w64 (by omega) (by omega), ci]
     refine evPos (by omega) (evPos (by omega) (evPos (by omega) (Ev.bind (ev_impl_EntryText _ _ _ _ _ _) ?_)))
     show Ev (fun k => if (entryT l[i]).toList = ([] : List UInt8) then _ else _) _
     cases ho : okE l[i]
     ·refine evPos ((entryT_nil _).2 ho) (evEq (Ev.now _) ?_)
      unfold segB
      rw [if_neg (fun z => notAll l i hi ho z.2.2.2.2.2)]
     ·exact evNeg (fun z => by rw [(entryT_nil _).1 z] at ho; cases ho) (ih (by rw [allSnoc l i hi, hp, ho]; rfl))
    ·intro hp
     refine evSucc ?_
     simp only [impl_SegmentOk.l0]
     rw [List.take_length] at hp
     unfold segB
     rw [if_pos ⟨h1.1, h1.2, h2, h3.1, h3.2, hp⟩]
     exact evNeg (by omega) (Ev.bind (ev_impl_HeadFrom b l (by omega) (by omega)) (Ev.now _))
   ·rw [show rng (l.length : Int) 1 200 = false by unfold rng; simp; omega]
    exact no _ (by unfold segB; rw [if_neg (by omega)])
  ·exact evNeg (by omega) (no _ (by unfold segB; rw [if_neg (fun z => h2 z.2.2.1)]))
 ·rw [show rng a 0 200 = false by unfold rng; simp; omega]
  exact evNeg (by simp) (no _ (by unfold segB; rw [if_neg (fun z => h1 ⟨z.1, z.2.1⟩)]))
def joinGo : List S30 → List S70 → ByteArray → List S70 × Bool
 | [], out, _ => (out, true)
 | s :: l, out, h => if segB s.f0 s.f1 s.f2 s.f3 = true ∧ s.f0 = (out.length : Int) ∧ s.f1 = h then joinGo l (out ++ s.f2) s.f3 else ([], false)
def joinS (l : List S30) : List S70 × Bool := joinGo l [] (dig ⟨#[]⟩)
theorem rdG (l : List S30) (i : Nat) (hi : i < l.length) : rd_T30 l (i : Int) = l[i] := by simp [rd_T30, hi]
theorem segB_len {a : Int} {b : ByteArray} {l : List S70} {d : ByteArray} (h : segB a b l d = true) : l.length ≤ 200 := by
 unfold segB at h
 split at h
 ·rename_i hc; exact hc.2.2.2.2.1
 ·simp at h
theorem ev_impl_JoinSegments (l : List S30) (hl : l.length ≤ 1048576) : Ev (fun k => impl_JoinSegments.f k l) (joinS l) := by
 have key : ∀ (d i : Nat) (out : List S70) (h : ByteArray), i + d = l.length → out.length ≤ 200 * i → Ev (fun k => impl_JoinSegments.l0 k out h l (l.length : Int) (i : Int)) (joinGo (l.drop i) out h) := by
  intro d
  induction d with
  | zero =>
   intro i out h hi ho
   refine evSucc ?_
   simp only [impl_JoinSegments.l0]
   rw [List.drop_of_length_le (by omega)]
   exact evNeg (by omega) (Ev.now _)
  | succ d ih =>
   intro i out h hi ho
   have hlt : i < l.length := by omega
   refine evSucc ?_
   simp only [impl_JoinSegments.l0]
   rw [rdG l i hlt, w64 (x := (i : Int) + 1) (by omega) (by omega), ci, List.drop_eq_getElem_cons hlt]
   unfold joinGo
   refine evPos (by omega) (evPos (by omega) (evPos (by omega) (Ev.bind (ev_impl_SegmentOk _ _ _ _) ?_)))
   cases hs : segB l[i].f0 l[i].f1 l[i].f2 l[i].f3
   ·exact evEq (evNeg (by simp) (Ev.now _)) (if_neg (fun z => by cases z.1)).symm
   ·have hn := segB_len hs
    refine evPos rfl ?_
    by_cases h1 : l[i].f0 = (out.length : Int)
    ·refine evPos h1 ?_
     by_cases h2 : l[i].f1 = h
     ·refine evPos (by rw [h2]) (evPos (by omega) ?_)
      rw [if_pos (⟨rfl, h1, h2⟩ : true = true ∧ _ ∧ _)]
      exact ih (i + 1) _ _ (by omega) (by rw [List.length_append]; omega)
     ·exact evEq (evNeg (fun z => h2 (toList_inj z)) (Ev.now _)) (if_neg (fun z => h2 z.2.2)).symm
    ·exact evEq (evNeg h1 (Ev.now _)) (if_neg (fun z => h1 z.2.1)).symm
 simp only [impl_JoinSegments.f]
 exact Ev.bind (dig_impl _ (by show (⟨#[]⟩ : ByteArray).size ≤ _; decide)) (key l.length 0 [] _ (by omega) (by simp))
def Chain : Nat → ByteArray → List S30 → Nat → ByteArray → Prop
 | a, h, [], a', h' => a' = a ∧ h' = h
 | a, h, s :: l, a', h' => segB s.f0 s.f1 s.f2 s.f3 = true ∧ s.f0 = (a : Int) ∧ s.f1 = h ∧ Chain (a + s.f2.length) s.f3 l a' h'
theorem chain_join : ∀ (p : List S30) (a : Nat) (h : ByteArray) (a' : Nat) (h' : ByteArray) (out : List S70), Chain a h p a' h' → out.length = a →
 ∃ o : List S70, o.length = a' ∧ o = out ++ (p.map (fun s => s.f2)).flatten ∧ ∀ q, joinGo (p ++ q) out h = joinGo q o h' := by
 intro p
 induction p with
 | nil =>
  intro a h a' h' out hc ho
  obtain ⟨rfl, rfl⟩ := hc
  exact ⟨out, ho, by simp, fun q => rfl⟩
 | cons s l ih =>
  intro a h a' h' out hc ho
  obtain ⟨h1, h2, h3, h4⟩ := hc
  obtain ⟨o, o1, o2, o3⟩ := ih _ _ _ _ (out ++ s.f2) h4 (by rw [List.length_append, ho])
  refine ⟨o, o1, by rw [o2]; simp, fun q => ?_⟩
  show (if segB s.f0 s.f1 s.f2 s.f3 = true ∧ s.f0 = (out.length : Int) ∧ s.f1 = h then joinGo (l ++ q) (out ++ s.f2) s.f3 else ([], false)) = _
  rw [if_pos ⟨h1, by rw [h2, ho], h3⟩]
  exact o3 q
theorem chain_split : ∀ (p q : List S30) (a : Nat) (h : ByteArray) (a' : Nat) (h' : ByteArray), Chain a h (p ++ q) a' h' → ∃ a1 h1, Chain a h p a1 h1 ∧ Chain a1 h1 q a' h' := by
 intro p
 induction p with
 | nil => intro q a h a' h' hc; exact ⟨a, h, ⟨rfl, rfl⟩, hc⟩
 | cons s l ih =>
  intro q a h a' h' hc
  obtain ⟨h1, h2, h3, h4⟩ := hc
  obtain ⟨a1, h1', c1, c2⟩ := ih q _ _ _ _ h4
  exact ⟨a1, h1', ⟨h1, h2, h3, c1⟩, c2⟩
theorem segB_pos {a : Int} {b : ByteArray} {l : List S70} {d : ByteArray} (h : segB a b l d = true) : 1 ≤ l.length := by
 unfold segB at h
 split at h
 ·rename_i hc; exact hc.2.2.2.1
 ·simp at h
def partS (l : List S70) (n a : Nat) : List S70 := (l.take (min (a + n) l.length)).drop a
def cutGo (l : List S70) (n a : Nat) (h : ByteArray) : List S30 :=
 if hc : a < l.length ∧ 0 < n then ⟨(a : Int), h, partS l n a, headS h (partS l n a)⟩ :: cutGo l n (a + n) (headS h (partS l n a)) else []
 termination_by l.length - a
 decreasing_by omega
theorem cutGo_len (l : List S70) (n : Nat) : ∀ (d a : Nat) (h : ByteArray), l.length - a = d → (cutGo l n a h).length ≤ l.length - a := by
 intro d
 induction d using Nat.strongRecOn with
 | ind d ih =>
  intro a h hd
  rw [cutGo]
  split
  ·rename_i hc
   have := ih (l.length - (a + n)) (by omega) (a + n) (headS h (partS l n a)) rfl
   rw [List.length_cons]
   omega
  ·exact Nat.zero_le _
theorem partS_len (l : List S70) (n a : Nat) (h : a < l.length) : (partS l n a).length = min (a + n) l.length - a := by
 unfold partS
 rw [List.length_drop, List.length_take]
 omega
theorem allPart (l : List S70) (n a : Nat) (h : l.all okE = true) : (partS l n a).all okE = true := by
 rw [List.all_eq_true] at h ⊢
 intro x hx
 exact h x (List.mem_of_mem_take (List.mem_of_mem_drop hx))
theorem headS_32 (h : ByteArray) (l : List S70) (hh : h.size = 32) : (headS h l).size = 32 := by
 rcases List.eq_nil_or_concat l with rfl | ⟨l', x, rfl⟩
 ·exact hh
 ·unfold headS
  rw [List.concat_eq_append, List.foldl_append]
  exact dig_size _
theorem cut_chain (l : List S70) (n : Nat) (hl : l.length ≤ 200) (hn : 0 < n) (ha : l.all okE = true) : ∀ (d a : Nat) (h : ByteArray), l.length - a = d → h.size = 32 → ∃ a' h', Chain a h (cutGo l n a h) a' h' := by
 intro d
 induction d using Nat.strongRecOn with
 | ind d ih =>
  intro a h hd hh
  rw [cutGo]
  by_cases hc : a < l.length ∧ 0 < n
  ·rw [dif_pos hc]
   have hp := partS_len l n a hc.1
   have h3 := headS_32 h (partS l n a) hh
   have hseg : segB (a : Int) h (partS l n a) (headS h (partS l n a)) = true := by
    unfold segB
    rw [if_pos ⟨by omega, by omega, hh, by omega, by omega, allPart l n a ha⟩]
    simp
   by_cases hlast : a + n ≤ l.length
   ·obtain ⟨a', h', c⟩ := ih (l.length - (a + n)) (by omega) (a + n) (headS h (partS l n a)) rfl h3
    refine ⟨a', h', hseg, rfl, rfl, ?_⟩
    rw [show a + (partS l n a).length = a + n by omega]
    exact c
   ·refine ⟨a + (partS l n a).length, headS h (partS l n a), hseg, rfl, rfl, ?_⟩
    rw [cutGo, dif_neg (by omega)]
    exact ⟨rfl, rfl⟩
  ·rw [dif_neg hc]
   exact ⟨a, h, rfl, rfl⟩
theorem spec_copy (l : List S70) (hl : l.length ≤ 16777216) : spec_l28Entries.f l = some l := by
 unfold spec_l28Entries.f
 simp only [Option.bind_some, List.nil_append]
 rw [if_pos (by simp; omega)]
theorem ev_spec_cutGo (l : List S70) (n : Nat) (hl : l.length ≤ 200) (hn : 0 < n) (hn2 : n ≤ 200) : ∀ (d a : Nat) (h : ByteArray) (acc : List S30), l.length - a = d → h.size ≤ 1000 → acc.length ≤ a → a ≤ 400 →
 Ev (fun k => spec_CutLog.l0 k l (n : Int) acc h (a : Int)) (acc ++ cutGo l n a h, true) := by
 intro d
 induction d using Nat.strongRecOn with
 | ind d ih =>
  intro a h acc hd hh hac ha
  refine evSucc ?_
  simp only [spec_CutLog.l0]
  rw [cutGo]
  by_cases hc : a < l.length
  ·rw [dif_pos ⟨hc, hn⟩, w64 (x := (a : Int) + (n : Int)) (by omega) (by omega)]
   have hs := headS_size h (partS l n a)
   have hp := partS_len l n a hc
   have go : ∀ e : Int, e.toNat = min (a + n) l.length → Ev (fun k => (spec_l28Entries.f ((l.take e.toNat).drop (a : Int).toNat)).bind fun t => (spec_HeadFrom.f k h t).bind fun t2 => if acc.length < 2199023255552 then spec_CutLog.l0 k l (n : Int) (acc ++ [⟨(a : Int), h, t, t2⟩]) t2 ((a : Int) + (n : Int)) else none)
    (acc ++ (⟨(a : Int), h, partS l n a, headS h (partS l n a)⟩ :: cutGo l n (a + n) (headS h (partS l n a))), true) := by
    intro e he
    rw [he, Int.toNat_natCast]
    refine evBindS (spec_copy (partS l n a) (by omega)) (Ev.bind (ev_spec_HeadFrom h _ (by omega) (by omega)) (evPos (by omega) ?_))
    have h32 : (headS h (partS l n a)).size ≤ 1000 := by
     rcases List.eq_nil_or_concat (partS l n a) with h0 | ⟨l', x, h0⟩
     ·rw [h0]; exact hh
     ·rw [h0]
      unfold headS
      rw [List.concat_eq_append, List.foldl_append]
      show (dig _).size ≤ _
      rw [dig_size]; omega
    have := ih (l.length - (a + n)) (by omega) (a + n) (headS h (partS l n a)) (acc ++ [⟨(a : Int), h, partS l n a, headS h (partS l n a)⟩]) rfl h32 (by rw [List.length_append, List.length_singleton]; omega) (by omega)
    rw [List.append_assoc, show ((a + n : Nat) : Int) = (a : Int) + (n : Int) by omega] at this
    exact this
   refine evPos (by omega) ?_
   by_cases hb : (a : Int) + (n : Int) > (l.length : Int)
   ·exact evPos hb (evPos (by omega) (evPos (by omega) (evPos (by omega) (go _ (by omega)))))
   ·exact evNeg hb (evPos (by omega) (evPos (by omega) (evPos (by omega) (go _ (by omega)))))
  ·rw [dif_neg (fun z => hc z.1), List.append_nil]
   exact evNeg (by omega) (Ev.now _)
def cutB (l : List S70) (n : Int) : List S30 × Bool := if 1 ≤ n ∧ n ≤ 200 ∧ l.length ≤ 200 then (cutGo l n.toNat 0 (dig ⟨#[]⟩), true) else ([], false)
theorem ev_spec_CutLog (l : List S70) (n : Int) : Ev (fun k => spec_CutLog.f k l n) (cutB l n) := by
 have no : ∀ x, x = ([], false) → Ev (fun k => spec_CutLog.j0 k l n [] true) x := fun x hx => by
  subst hx
  refine evSucc ?_
  simp only [spec_CutLog.j0]
  exact evPos (by simp) (Ev.now _)
 simp only [spec_CutLog.f, spec_in, Option.bind_some]
 unfold cutB
 by_cases h1 : 1 ≤ n ∧ n ≤ 200
 ·rw [show rng n 1 200 = true by unfold rng; simp; omega]
  refine evPos rfl ?_
  by_cases h2 : l.length ≤ 200
  ·rw [if_pos ⟨h1.1, h1.2, h2⟩, show decide ((l.length : Int) > 200) = false by simp; omega]
   refine evSucc ?_
   simp only [spec_CutLog.j0]
   refine evNeg (by simp) (evBindS (dig_spec _ (by show (⟨#[]⟩ : ByteArray).size ≤ _; decide)) ?_)
   have := ev_spec_cutGo l n.toNat h2 (by omega) (by omega) _ 0 (dig ⟨#[]⟩) [] rfl (by rw [dig_size]; omega) (by simp) (by omega)
   rw [Int.toNat_of_nonneg (by omega)] at this
   exact this
  ·rw [show decide ((l.length : Int) > 200) = true by simp; omega]
   exact no _ (if_neg (fun z => h2 z.2.2))
 ·rw [show rng n 1 200 = false by unfold rng; simp; omega]
  exact evNeg (by simp) (no _ (if_neg (fun z => h1 ⟨z.1, z.2.1⟩)))
theorem and255 (x : Int) : 0 ≤ Go.bits .and .i64 x 255 ∧ Go.bits .and .i64 x 255 ≤ 255 := by
 have e : Go.bits .and .i64 x 255 = (((BitVec.ofInt 64 x).toNat % 256 : Nat) : Int) := by
  rw [bits_nat]
  show IntKind.wrap .i64 ((BitVec.ofInt 64 x &&& BitVec.ofInt 64 ((255 : Nat) : Int)).toNat : Int) = _
  rw [BitVec.toNat_and, ofInt_nat64 255 (by omega), wrap_i64]
  have : (BitVec.ofInt 64 x).toNat &&& 255 = (BitVec.ofInt 64 x).toNat % 256 := Nat.and_two_pow_sub_one_eq_mod _ 8
  rw [this, w64 (by omega) (by omega)]
 rw [e]
 omega
theorem drawByte (b : List Int) (i h : Int) (h0 : 0 ≤ i) (h1 : i ≤ b.length) (hb : b.length ≤ 16777216) : ∃ x i' h', spec_l01Byte.f b i h = some (x, i', h') ∧ 0 ≤ x ∧ x ≤ 255 ∧ 0 ≤ i' ∧ i' ≤ b.length := by
 unfold spec_l01Byte.f
 by_cases hc : i < (b.length : Int)
 ·rw [if_pos hc, if_pos h0, w64 (x := i + 1) (by omega) (by omega)]
  refine ⟨_, _, _, rfl, (and255 _).1, (and255 _).2, by omega, by omega⟩
 ·rw [if_neg hc]
  exact ⟨_, _, _, rfl, (and255 _).1, (and255 _).2, h0, h1⟩
theorem drawBelow (b : List Int) (i h n : Int) (h0 : 0 ≤ i) (h1 : i ≤ b.length) (hb : b.length ≤ 16777216) (hn : 0 < n) : ∃ x i' h', spec_l01Below.f b i h n = some (x, i', h') ∧ 0 ≤ x ∧ x < n ∧ 0 ≤ i' ∧ i' ≤ b.length := by
 unfold spec_l01Below.f
 rw [if_neg (by omega)]
 by_cases hc : n ≤ 256
 ·obtain ⟨x, i', h', e, x0, x1, i0, i1⟩ := drawByte b i h h0 h1 hb
  rw [if_pos hc, e]
  simp only [Option.bind_some]
  rw [if_neg (by omega), Int.tmod_eq_emod_of_nonneg x0]
  exact ⟨_, _, _, rfl, Int.emod_nonneg _ (by omega), Int.emod_lt_of_pos _ hn, i0, i1⟩
 ·obtain ⟨x, i1, h1', e1, x0, x1, j0, j1⟩ := drawByte b i h h0 h1 hb
  obtain ⟨y, i2, h2', e2, y0, y1, k0, k1⟩ := drawByte b i1 h1' j0 j1 hb
  obtain ⟨z, i3, h3', e3, z0, z1, l0, l1⟩ := drawByte b i2 h2' k0 k1 hb
  obtain ⟨v, i4, h4', e4, v0, v1, m0, m1⟩ := drawByte b i3 h3' l0 l1 hb
  rw [if_neg hc, e1]
  simp only [Option.bind_some, e2, e3, e4]
  rw [if_neg (by omega), w64 (x := x * 16777216) (by omega) (by omega), w64 (x := y * 65536) (by omega) (by omega), w64 (x := x * 16777216 + y * 65536) (by omega) (by omega), w64 (x := z * 256) (by omega) (by omega), w64 (x := x * 16777216 + y * 65536 + z * 256) (by omega) (by omega), w64 (x := x * 16777216 + y * 65536 + z * 256 + v) (by omega) (by omega), Int.tmod_eq_emod_of_nonneg (by omega)]
  exact ⟨_, _, _, rfl, Int.emod_nonneg _ (by omega), Int.emod_lt_of_pos _ hn, m0, m1⟩
theorem drawOnce (b : List Int) (i h n : Int) (h0 : 0 ≤ i) (h1 : i ≤ b.length) (hb : b.length ≤ 16777216) (hn : 0 < n) : ∃ (x : Bool) (i' h' : Int), spec_l01Once.f b i h n = some (x, i', h') ∧ 0 ≤ i' ∧ i' ≤ b.length := by
 unfold spec_l01Once.f
 obtain ⟨x, i', h', e, x0, x1, i0, i1⟩ := drawBelow b i h n h0 h1 hb hn
 rw [e]
 exact ⟨_, _, _, rfl, i0, i1⟩
theorem drawNew (b : List Int) (hb : b.length ≤ 16777216) : ∃ h : Int, Ev (fun k => spec_l01New.f k b) (b, 0, h) := by
 have key : ∀ d (i : Nat) (h : Int), i + d = b.length → ∃ h', Ev (fun k => spec_l01New.l0 k b h (i : Int)) (b, 0, h') := by
  intro d
  induction d with
  | zero =>
   intro i h hi
   refine ⟨h, evSucc ?_⟩
   simp only [spec_l01New.l0]
   exact evNeg (by omega) (Ev.now _)
  | succ d ih =>
   intro i h hi
   by_cases h4 : (i : Int) < 4000
   ·obtain ⟨h', hh⟩ := ih (i + 1) (Go.bits .and .i64 (wrap64 ((wrap64 ((wrap64 (h * 131)) + (wrap64 (rd b (i : Int))))) + 7)) 1073741823) (by omega)
    refine ⟨h', evSucc ?_⟩
    simp only [spec_l01New.l0]
    refine evPos (by omega) (evPos h4 (evPos (by omega) ?_))
    rw [w64 (x := (i : Int) + 1) (by omega) (by omega), ci]
    exact hh
   ·refine ⟨h, evSucc ?_⟩
    simp only [spec_l01New.l0]
    exact evPos (by omega) (evNeg h4 (Ev.now _))
 simp only [spec_l01New.f]
 exact key b.length 0 _ (by omega)
theorem drawHalf (b : List Int) (i h : Int) (h0 : 0 ≤ i) (h1 : i ≤ b.length) (hb : b.length ≤ 16777216) : ∃ x i' h', spec_l04Half.f b i h = some (x, i', h') ∧ 0 ≤ x ∧ x ≤ 4294967295 ∧ 0 ≤ i' ∧ i' ≤ b.length := by
 unfold spec_l04Half.f
 obtain ⟨x, i1, h1', e1, x0, x1, j0, j1⟩ := drawBelow b i h 12 h0 h1 hb (by omega)
 rw [e1]
 simp only [Option.bind_some]
 unfold spec_l01PickInt.f
 obtain ⟨y, i2, h2', e2, y0, y1, k0, k1⟩ := drawBelow b i1 h1' (([0, 1, 2, 3, 5, 7, 255, 4294967295, 2147483648, x] : List Int).length : Int) j0 j1 hb (by simp)
 rw [e2]
 simp only [Option.bind_some]
 rw [if_pos y0, if_pos y1]
 simp only [Option.bind_some]
 have hy : y < 10 := y1
 refine ⟨_, _, _, rfl, ?_, ?_, k0, k1⟩
 all_goals
  have hc : y = 0 ∨ y = 1 ∨ y = 2 ∨ y = 3 ∨ y = 4 ∨ y = 5 ∨ y = 6 ∨ y = 7 ∨ y = 8 ∨ y = 9 := by omega
  rcases hc with rfl | rfl | rfl | rfl | rfl | rfl | rfl | rfl | rfl | rfl <;> simp [rd] <;> omega
theorem drawItem (b : List Int) (i h : Int) (h0 : 0 ≤ i) (h1 : i ≤ b.length) (hb : b.length ≤ 16777216) : ∃ c d e f i' h', spec_l17Item.f b i h = some (c, d, e, f, i', h') ∧ itemB c d e f = true ∧ 0 ≤ i' ∧ i' ≤ b.length := by
 unfold spec_l17Item.f
 obtain ⟨x, i1, h1', e1, j0, j1⟩ := drawOnce b i h 3 h0 h1 hb (by omega)
 rw [e1]
 simp only [Option.bind_some]
 cases x
 ·rw [if_neg (by simp)]
  obtain ⟨y, i2, h2', e2, y0, y1, k0, k1⟩ := drawBelow b i1 h1' 9 j0 j1 hb (by omega)
  rw [e2]
  simp only [Option.bind_some]
  obtain ⟨z, i3, h3', e3, z0, z1, l0, l1⟩ := drawHalf b i2 h2' k0 k1 hb
  rw [e3]
  refine ⟨_, _, _, _, _, _, rfl, ?_, l0, l1⟩
  unfold itemB rng
  simp
  omega
 ·rw [if_pos rfl]
  obtain ⟨y, i2, h2', e2, y0, y1, k0, k1⟩ := drawBelow b i1 h1' 5 j0 j1 hb (by omega)
  rw [e2]
  simp only [Option.bind_some]
  rw [w64 (x := 1 + y) (by omega) (by omega)]
  refine ⟨_, _, _, _, _, _, rfl, ?_, k0, k1⟩
  unfold itemB rng
  simp
  omega
theorem drawEntriesGo (b : List Int) (hb : b.length ≤ 16777216) : ∀ (d : Nat) (i h : Int) (n : Nat) (out : List S70), 0 ≤ i → i ≤ b.length → n + d = 5 → out.length = n → out.all okE = true →
 ∃ l i' h', Ev (fun k => spec_l19Entries.l0 k out (n : Int) b i h) (l, i', h') ∧ l.length ≤ 5 ∧ l.all okE = true ∧ 0 ≤ i' ∧ i' ≤ b.length := by
 intro d
 induction d with
 | zero =>
  intro i h n out h0 h1 hn ho ha
  obtain ⟨x, i1, h1', e1, x0, x1, j0, j1⟩ := drawBelow b i h 6 h0 h1 hb (by omega)
  refine ⟨out, i1, h1', evSucc ?_, by omega, ha, j0, j1⟩
  simp only [spec_l19Entries.l0]
  exact evBindS e1 (evNeg (by omega) (Ev.now _))
 | succ d ih =>
  intro i h n out h0 h1 hn ho ha
  obtain ⟨x, i1, h1', e1, x0, x1, j0, j1⟩ := drawBelow b i h 6 h0 h1 hb (by omega)
  by_cases hx : (n : Int) < x
  ·obtain ⟨y, i2, h2', e2, y0, y1, k0, k1⟩ := drawBelow b i1 h1' 3 j0 j1 hb (by omega)
   obtain ⟨z, i3, h3', e3, z0, z1, l0, l1⟩ := drawBelow b i2 h2' 5 k0 k1 hb (by omega)
   obtain ⟨c, e, f, g, i4, h4', e4, hi, m0, m1⟩ := drawItem b i3 h3' l0 l1 hb
   obtain ⟨l, i', h', hev, hl, hall, q0, q1⟩ := ih i4 h4' (n + 1) (out ++ [⟨y, 1 + z, ⟨c, e, f, g⟩⟩]) m0 m1 (by omega) (by simp; omega) (by
    rw [List.all_append, ha]
    simp
    show frameB 1 y (1 + z) c e f g = true
    unfold frameB
    rw [if_pos rfl, hi]
    unfold rng
    simp
    omega)
   refine ⟨l, i', h', evSucc ?_, hl, hall, q0, q1⟩
   simp only [spec_l19Entries.l0]
   refine evBindS e1 (evPos hx (evBindS e2 (evBindS e3 (evBindS e4 (evPos (by omega) ?_)))))
   rw [w64 (x := (n : Int) + 1) (by omega) (by omega), w64 (x := 1 + z) (by omega) (by omega), ci]
   exact hev
  ·refine ⟨out, i1, h1', evSucc ?_, by omega, ha, j0, j1⟩
   simp only [spec_l19Entries.l0]
   exact evBindS e1 (evNeg hx (Ev.now _))
theorem drawEntriesAt (b : List Int) (hb : b.length ≤ 16777216) (i h : Int) (h0 : 0 ≤ i) (h1 : i ≤ b.length) :
 ∃ l i' h', Ev (fun k => spec_l19Entries.f k b i h) (l, i', h') ∧ l.length ≤ 5 ∧ l.all okE = true ∧ 0 ≤ i' ∧ i' ≤ b.length :=
 drawEntriesGo b hb 5 i h 0 [] h0 h1 (by omega) rfl rfl
theorem drawPlaces (b : List Int) (hb : b.length ≤ 16777216) : ∃ l : List Int, Ev (fun k => spec_DrawPlaces.f k b) l ∧ l.length = 12 ∧ ∀ x ∈ l, 0 ≤ x ∧ x < 10000 := by
 obtain ⟨h, e⟩ := drawNew b hb
 obtain ⟨x, i1, h1', e1, _, _, j0, j1⟩ := drawByte b 0 h (by omega) (by omega) hb
 have key : ∀ (d i : Nat) (p q : Int) (out : List Int), i + d = 12 → out.length = i → (∀ x ∈ out, 0 ≤ x ∧ x < 10000) → 0 ≤ p → p ≤ b.length → ∃ l : List Int, Ev (fun k => spec_DrawPlaces.l0 k out (i : Int) b p q) l ∧ l.length = 12 ∧ ∀ x ∈ l, 0 ≤ x ∧ x < 10000 := by
  intro d
  induction d with
  | zero =>
   intro i p q out hi ho hx _ _
   refine ⟨out, evSucc ?_, by omega, hx⟩
   simp only [spec_DrawPlaces.l0]
   exact evNeg (by omega) (Ev.now _)
  | succ d ih =>
   intro i p q out hi ho hx hp0 hp1
   obtain ⟨y, i2, h2', e2, y0, y1, k0, k1⟩ := drawBelow b p q 10000 hp0 hp1 hb (by omega)
   obtain ⟨l, el, hl, hall⟩ := ih (i + 1) i2 h2' (out ++ [y]) (by omega) (by simp; omega) (by
    intro z hz
    rcases List.mem_append.1 hz with hz | hz
    ·exact hx z hz
    ·rw [List.mem_singleton.1 hz]; exact ⟨y0, y1⟩) k0 k1
   refine ⟨l, evSucc ?_, hl, hall⟩
   simp only [spec_DrawPlaces.l0]
   refine evPos (by omega) (evBindS e2 (evPos (by omega) ?_))
   rw [w64 (x := (i : Int) + 1) (by omega) (by omega), ci]
   exact el
 obtain ⟨l, el, hl, hall⟩ := key 12 0 i1 h1' [] (by omega) rfl (by intro x hx; cases hx) j0 j1
 refine ⟨l, ?_, hl, hall⟩
 simp only [spec_DrawPlaces.f]
 exact Ev.bind e (evBindS e1 el)
theorem drawSegments (b : List Int) (hb : b.length ≤ 16777216) : ∃ (l : List S70) (n : Nat), Ev (fun k => spec_DrawSegments.f k b) (cutGo l n 0 (dig ⟨#[]⟩)) ∧ l.length ≤ 10 ∧ l.all okE = true ∧ 0 < n ∧ n ≤ 4 := by
 obtain ⟨h, e⟩ := drawNew b hb
 obtain ⟨l1, i1, h1', e1, hl1, ha1, j0, j1⟩ := drawEntriesAt b hb 0 h (by omega) (by omega)
 obtain ⟨l2, i2, h2', e2, hl2, ha2, k0, k1⟩ := drawEntriesAt b hb i1 h1' j0 j1
 obtain ⟨x, i3, h3', e3, x0, x1, _, _⟩ := drawBelow b i2 h2' 4 k0 k1 hb (by omega)
 refine ⟨l1 ++ l2, (1 + x).toNat, ?_, by rw [List.length_append]; omega, by rw [List.all_append, ha1, ha2]; rfl, by omega, by omega⟩
 simp only [spec_DrawSegments.f, spec_l28Segments.f]
 refine Ev.bind e (Ev.bind (a := (cutGo (l1 ++ l2) (1 + x).toNat 0 (dig ⟨#[]⟩), i3, h3')) (Ev.bind e1 (Ev.bind e2 (evPos (show l1.length + l2.length < _ by omega) (evBindS e3 ?_)))) (Ev.now _))
 rw [w64 (x := 1 + x) (by omega) (by omega)]
 have := evEq (ev_spec_CutLog (l1 ++ l2) (1 + x)) (if_pos ⟨by omega, by omega, by rw [List.length_append]; omega⟩)
 exact Ev.bind this (Ev.now _)
theorem joinGo_no (s : S30) (l : List S30) (out : List S70) (h : ByteArray) (hs : s.f0 ≠ (out.length : Int)) : joinGo (s :: l) out h = ([], false) := by
 unfold joinGo
 rw [if_neg (fun z => hs z.2.1)]
theorem FnSegmentsBound : PureFnSegmentsBound.Stated := by
 intro code ⟨_, hb⟩
 refine Ev.rounds ?_
 simp only [laws_FnSegmentsBound.f, laws_big.f, Option.bind_some]
 by_cases hc : (code.length : Int) > 1048576
 ·exact evPos (by simpa using hc) (Ev.now _)
 refine evNeg (by simpa using hc) ?_
 obtain ⟨l, n, ep, hl, ha, hn0, hn⟩ := drawSegments code (by omega)
 obtain ⟨a', h', hch⟩ := cut_chain l n (by omega) hn0 ha _ 0 (dig ⟨#[]⟩) rfl (dig_size _)
 have hlen := cutGo_len l n _ 0 (dig ⟨#[]⟩) rfl
 refine Ev.bind ep ?_
 generalize cutGo l n 0 (dig ⟨#[]⟩) = p at hch hlen ⊢
 have hfull : joinS p = ((p.map (fun s => s.f2)).flatten, true) := by
  obtain ⟨o, _, o2, o3⟩ := chain_join p 0 (dig ⟨#[]⟩) a' h' [] hch rfl
  have := o3 []
  rw [List.append_nil] at this
  unfold joinS
  rw [this, o2, List.nil_append]
  rfl
 by_cases h2 : p.length < 2
 ·exact evPos (by omega) (Ev.bind (evEq (ev_impl_JoinSegments p (by omega)) hfull) (Ev.now _))
 refine evNeg (by omega) ?_
 obtain ⟨q, eq, hq, hqx⟩ := drawPlaces code (by omega)
 refine Ev.bind eq (evPos (by omega) ?_)
 have hq0 : 0 ≤ rd q 0 ∧ rd q 0 < 10000 := by
  have : rd q 0 = q[0]'(by omega) := by simp [rd, show 0 < q.length by omega]
  rw [this]
  exact hqx _ (List.getElem_mem _)
 rw [w64 (x := (p.length : Int) - 1) (by omega) (by omega)]
 rw [Int.tmod_eq_emod_of_nonneg hq0.1]
 have hi0 : 0 ≤ rd q 0 % ((p.length : Int) - 1) := Int.emod_nonneg _ (by omega)
 have hi1 : rd q 0 % ((p.length : Int) - 1) < (p.length : Int) - 1 := Int.emod_lt_of_pos _ (by omega)
 obtain ⟨i, hi⟩ := Int.eq_ofNat_of_zero_le hi0
 rw [hi] at hi1 ⊢
 rw [w64 (x := (i : Int) + 1) (by omega) (by omega), ci, Int.toNat_natCast, Int.toNat_natCast]
 have hsplit : p = p.take i ++ (p[i]'(by omega) :: p[i + 1]'(by omega) :: p.drop (i + 2)) := by
  rw [← List.drop_eq_getElem_cons, ← List.drop_eq_getElem_cons, List.take_append_drop]
 have hch2 := hch
 rw [hsplit] at hch2
 obtain ⟨a1, h1, c1, c2⟩ := chain_split _ _ _ _ _ _ hch2
 obtain ⟨s1, s2, s3, s4, s5, _, _⟩ := c2
 have hs1 := segB_pos s1
 obtain ⟨o, o1, _, o3⟩ := chain_join _ 0 (dig ⟨#[]⟩) a1 h1 [] c1 rfl
 have hne : (p[i + 1]'(by omega)).f0 ≠ (o.length : Int) := by rw [s5, o1]; omega
 have hless : joinS (p.take i ++ p.drop (i + 1)) = ([], false) := by
  unfold joinS
  rw [o3, List.drop_eq_getElem_cons (by omega)]
  exact joinGo_no _ _ _ _ hne
 have hround : ∀ x y : S30, x = p[i + 1]'(by omega) → joinS ((p.set i x).set (i + 1) y) = ([], false) := by
  intro x y hx
  have e : (p.set i x).set (i + 1) y = p.take i ++ (x :: y :: p.drop (i + 2)) := by
   conv => lhs; rw [hsplit]
   have ht : (p.take i).length = i := by rw [List.length_take]; omega
   rw [List.set_append_right _ _ (by omega), List.set_append_right _ _ (by omega), ht, Nat.sub_self, Nat.add_sub_cancel_left]
   rfl
  unfold joinS
  rw [e, o3, hx]
  exact joinGo_no _ _ _ _ hne
 have hpre : ∃ o' : List S70, joinS (p.take (p.length - 1)) = (o', true) ∧ (p[p.length - 1]'(by omega)).f0 = (o'.length : Int) := by
  have hs : p = p.take (p.length - 1) ++ [p[p.length - 1]'(by omega)] := by
   conv => lhs; rw [← List.take_append_drop (p.length - 1) p]
   congr 1
   rw [List.drop_eq_getElem_cons (by omega), List.drop_of_length_le (by omega)]
  have hch3 := hch
  rw [hs] at hch3
  obtain ⟨a2, h2', d1, d2⟩ := chain_split _ _ _ _ _ _ hch3
  obtain ⟨_, t2, _, _⟩ := d2
  obtain ⟨o', p1, _, p3⟩ := chain_join _ 0 (dig ⟨#[]⟩) a2 h2' [] d1 rfl
  refine ⟨o', ?_, by rw [t2, p1]⟩
  have := p3 []
  rw [List.append_nil] at this
  exact this
 obtain ⟨o', hp1, hp2⟩ := hpre
 refine evNeg (by omega) ?_
 simp only [Option.bind_some, List.nil_append]
 have e1 : ((p.length : Int) - 1).toNat = p.length - 1 := by omega
 refine evPos (by omega) (evPos (by omega) (evPos (by rw [List.length_nil, List.length_take]; omega) (evPos (by omega) (evPos (by omega) (evPos (by rw [List.length_take, List.length_drop]; omega) (evPos (by rw [List.length_nil]; omega) (evPos (by omega) (evPos (by omega) ?_))))))))
 rw [rdG p (i + 1) (by omega), rdG p i (by omega), e1]
 refine Ev.bind (evEq (ev_impl_JoinSegments p (by omega)) hfull) (Ev.bind (evEq (ev_impl_JoinSegments _ (by rw [List.length_append, List.length_take, List.length_drop]; omega)) hless) (Ev.bind (evEq (ev_impl_JoinSegments _ (by rw [List.length_set, List.length_set]; omega)) (hround _ _ rfl)) (evPos (by omega) (evPos (by omega) (Ev.bind (evEq (ev_impl_JoinSegments _ (by rw [List.length_take]; omega)) hp1) ?_)))))
 refine evPos rfl (evNeg (by simp) (evNeg (by simp) (evPos rfl (evPos (by omega) (evEq (Ev.now _) ?_)))))
 rw [show (p.length : Int) - 1 = ((p.length - 1 : Nat) : Int) by omega, rdG p _ (by omega), hp2]
 simp

end Go.Proofs.YtdhjolglbcoijaaDoor.Pure

namespace Go.Proofs.YtdhjolglbcoijaaDoor.fnSegmentsBound
open Go.ChangeShapes Go.WideShapes Go.ChangeAt Go.RowKit Go.Proofs.YtdhjolglbcoijaaDoor.PA Go.Proofs.YtdhjolglbcoijaaDoor.PureFnSegmentsBound Go.Proofs.YtdhjolglbcoijaaDoorW.PrintWords
open Go.ChangeMaps (open_string shut_string)
set_option linter.unusedVariables false
set_option linter.unusedSimpArgs false
theorem own : ownKnob Tryd.prog.godebug = none := by kernel_rfl
theorem laidOut : laidOutB Tryd.prog = true := by kernel_rfl
def laidV : List (String × DataW Unit) := [("loop.example/g00397/impl.shaWords", Rows.laid_loop_example_g00397_impl_shaWords)]
theorem gTab : Tryd.prog.globalNamed "loop.example/g00397/impl.shaWords" = some 0 := by kernel_rfl
theorem gTabType : (Tryd.prog.globals[0]?).map (·.type) = some 107 := by kernel_rfl
theorem door_met (os : Os) (args : Array Value) : laidMetH Tryd.prog laidV ((World.doorLaid Tryd.prog 4000 os).forCall (fun _ _ => 0) ⟨#[], args, []⟩).memory :=
 laidMetH_of_parts3 (fuel := 8) (laidMet_of_run' 8 (by kernel_rfl) (by kernel_rfl)) (by kernel_rfl) (by kernel_rfl)
/-- The table reads behind as before. -/
theorem vars_back {H : Type} {enc : TypeId × Value → H} {W W' : World} (hb : Below W.heap.size W W') {gs : List (DataW H)} {ps : List MemPlace} (h : DataW.TrodVars enc Tryd.prog W (fun _ => true) ["loop.example/g00397/impl.shaWords"] gs ps) :
 DataW.TrodVars enc Tryd.prog W' (fun b => decide (b < W.heap.size)) ["loop.example/g00397/impl.shaWords"] gs ps := by
 obtain ⟨g, t, cs, fu, d, p, rfl, hg, ht, hv, htr, rfl⟩ := trodVars_one h
 have hg2 := hg
 have ht2 := ht
 obtain rfl := Option.some.inj (gTab.symm.trans hg)
 obtain rfl := Option.some.inj (gTabType.symm.trans ht)
 have lt := DataW.trod_lt _ _ _ _ htr
 have hk : DataW.Trod enc Tryd.prog W' 0 (fun b => decide (b < W.heap.size)) true 107 (.agg cs) d p := Below.trod laidOut (by kernel_rfl) (of_decide_eq_true (by kernel_rfl)) (show DataW.Trod enc Tryd.prog W 0 (fun _ => true) true 107 (.agg cs) d p from ⟨fu, htr⟩) hb lt
 obtain ⟨m, hm⟩ := hk
 have hv2 : W'.var? Tryd.prog "loop.example/g00397/impl.shaWords" = some cs := by
  unfold World.var? at hv ⊢
  rw [gTab, Option.bind_some] at hv ⊢
  have hlt : 0 < W.heap.size := by
   rcases Nat.lt_or_ge 0 W.heap.size with h' | h'
   ·exact h'
   ·rw [Array.getElem?_eq_none h'] at hv; cases hv
  rw [hb.block 0 hlt]
  exact hv
 exact trodVars_mk1 hg2 ht2 hv2 hm
set_option maxRecDepth 100000 in
theorem lifted (os : Os) (started : os.Started) (H : Type) (enc : TypeId × Value → H) :
 ReturnsInHanded {} Tryd.checked os 12 .any (fun w args => (Rows.fnSegmentsBoundSpec.pre enc Tryd.prog Tryd.f12 [] false w args ∧ laidMetH Tryd.prog laidV w) ∧ sizedMet enc Tryd.prog Tryd.f12 (OpenSpec.ofChange Rows.fnSegmentsBoundSpec) false w args) (Rows.fnSegmentsBoundSpec.post enc Tryd.prog Tryd.f12 false true false false) := by
 refine returnsInHanded_of_change_and (C := Tryd.checked) (X := fun w _ => laidMetH Tryd.prog laidV w) (fun _ _ _ hh h => h.of_heap hh) own started (by kernel_rfl) Tryd.func12
  (ChangeSpec.witness_shaped (enc := enc) (C := Tryd.checked) (os := os) (X := fun w _ => laidMetH Tryd.prog laidV w) false (World.doorLaid Tryd.prog 4000 os) #[.slice none 0 0] 8 rfl (World.shaped_of_RefB (by kernel_rfl) (by kernel_rfl)) (by kernel_rfl) (by kernel_rfl) (by kernel_rfl) (door_met os _)) ?_
 intro W base args ds gs before hval0 hW _ _ hL _
 have hT : PA.Tab W := by
  rw [MakeChecks.laidMetH_plain _ _ _ (by kernel_rfl)] at hL
  exact Lib.tabIs_of_head (rest := []) gTab gTabType (t := 107) (e := 104) (n := 64) (by kernel_rfl) (by kernel_rfl) (by kernel_rfl) (by kernel_rfl) hL
 have hval : ∀ (j : Nat) t v, Tryd.f12.params[j]? = some t → args[j]? = some v → Value.okWide Tryd.prog W .any base t v := hval0
 have hW' := hW
 obtain ⟨p, q, hA0, hV, rfl, hfz, hnd⟩ := hW
 have hA : DataW.TrodAll enc Tryd.prog W 0 (fun _ => true) true Tryd.f12.params.toList args.toList ds p := hA0
 rw [Tryd.params12] at hA hval
 obtain ⟨v0, vs0, d0, ds0, p0, q0, hargs, rfl, rfl, h0, r0⟩ := trodAll_cons hA
 obtain ⟨rfl, rfl, rfl⟩ := trodAll_nil r0
 obtain rfl : args = #[v0] := by cases args; simp_all
 obtain ⟨g1, t1, cs1, fu1, dv, pv1, rfl, _⟩ := trodVars_one hV
 have k0 := h0
 have lt0 : ∀ x ∈ p0, x.block < W.heap.size := by obtain ⟨m, hm⟩ := k0; exact DataW.trod_lt m _ _ _ hm
 obtain ⟨m0, hm0⟩ := h0
 obtain ⟨A0, n0, c0, rfl⟩ := okWide_slice Tryd.underlying61 (hval 0 61 v0 rfl rfl)
 obtain ⟨x0, ⟨A0', c0', hs0, hc0, hr0⟩, hG0⟩ := (Op.opSlice Tryd.underlying61 (by kernel_rfl) 5 (Op.opInt Tryd.underlying5 (by kernel_rfl))).op hm0
 obtain ⟨rfl, rfl, rfl⟩ : A0 = A0' ∧ n0 = x0.length ∧ c0 = c0' := by simpa [Value.cells] using hs0
 obtain ⟨k, h⟩ := Pure.FnSegmentsBound x0 hG0
 refine (laws_FnSegmentsBound.calls k A0 c0 x0 true W hr0 hc0 hT rfl h).mono fun e W' ⟨he, bel⟩ => ?_
 subst he
 exact ⟨_, rfl, _, _, _, [], _, _, hW', trodAll_mk1 (shut_bool Tryd.underlying4 _), (trodAll_cons_mk (Below.trod laidOut (by kernel_rfl) (of_decide_eq_true (by kernel_rfl)) k0 bel lt0) trodAll_mk0), vars_back bel hV, bel.frame _, fun h => by cases h⟩
theorem over : Rows.fnSegmentsBoundRow.holds Tryd.pinned (OpenSpec.ofChange Rows.fnSegmentsBoundSpec) :=
 OpenClaim.holds_of_wide 12 Tryd.f12 rfl rfl rfl rfl rfl rfl rfl ⟨rfl, rfl, rfl, rfl, rfl⟩ rfl rfl rfl rfl rfl (by kernel_rfl) Tryd.func12 (by kernel_rfl)
  (of_decide_eq_true (by kernel_rfl)) (by unfold Func.isWrapper; first | (rw [if_pos (by decide +kernel)]; kernel_rfl) | (rw [if_neg (by decide +kernel)]; exact ⟨rfl, rfl⟩))
  (fun os started H enc _ => lifted os started H enc)
theorem proved : Rows.FnSegmentsBoundSaid := over
#print axioms proved
end Go.Proofs.YtdhjolglbcoijaaDoor.fnSegmentsBound
namespace Go.Proofs.YtdhjolglbcoijaaDoor
/-- The tied card, under a short name, for the claim. -/
theorem fnSegmentsBound_holds : Rows.FnSegmentsBoundCardSaid :=
 Claim7.holds_tied_plain_at .later [] [.data] true (true, "86c5b83168afbe62a9fd9dd9b188a8bbcb0f32602a88b45c4d3f3879959306bb") false
  fnSegmentsBound.proved (fun _ h => by cases h) (by kernel_rfl) (fun _ h => by cases h) fnSegmentsBound_row_tie rfl ⟨rfl, rfl⟩ (by kernel_rfl) rfl
  (fun f fn hf hfn => by
   obtain rfl : f = 12 := Option.some.inj ((show Tryd.prog.funcNamed "loop.example/g00397/laws.FnSegmentsBound" = some 12 by kernel_rfl).symm.trans hf) |>.symm
   obtain rfl : fn = Tryd.f12 := (Option.some.inj (Tryd.func12.symm.trans hfn)).symm
   exact ⟨by kernel_rfl, fun j t ht => by
    rw [Tryd.params12] at ht
    have h3 : t = 61 := by
     match j, ht with
     | 0, ht => simp at ht; subst ht; simp
     | _ + 1, ht => simp at ht
    rcases h3 with rfl
    ·exact (show Tryd.prog.wantsStandIn 61 = false by kernel_rfl)⟩)
  (by kernel_rfl)
end Go.Proofs.YtdhjolglbcoijaaDoor

/- Contracts of functions of the program and of the reference, and plain lemmas on what they compute: a part of the proof of the law FnSegmentsTold. No condition. -/
import Derived.Test.YtdlapahfmfhbjaaDoorJFnSegmentsTold6
import Derived.Test.YtdlapahfmfhbjaaDoorRows
import Derived.WalkKit
import Derived.ProofKit
import Derived.OpenShut
import Derived.ShutString
import Derived.ChangeOld
import Derived.Below
import Derived.SizedLaws
import Derived.Carry
import Derived.LaidLaws
import Derived.LaidMore
import Derived.MakeChecks
import Derived.Stop.Joined
import Derived.ChangeVars
import Derived.Lib.LaidTab
import Derived.Test.YtdlapahfmfhbjaaDoorCards
import Derived.Test.YtdlapahfmfhbjaaDoorTie
import Derived.SevenTiedAt
import Derived.Test.YtdlapahfmfhbjaaDoorShortV
namespace Go.Proofs.YtdlapahfmfhbjaaDoor.Pure
open Go.RowKit Go.Proofs.YtdlapahfmfhbjaaDoor.PA Go.Proofs.YtdlapahfmfhbjaaDoorW.PrintWords Go.Proofs.YtdlapahfmfhbjaaDoorW.PrintLast Go.Proofs.YtdlapahfmfhbjaaDoorW.PrintMore Go.Proofs.YtdlapahfmfhbjaaDoor.Kit Go.Proofs.YtdlapahfmfhbjaaDoor.PureFnSegmentsTold
set_option linter.unusedVariables false
set_option linter.unusedSimpArgs false
def rng (x lo hi : Int) : Bool := decide (lo ≤ x) && decide (x ≤ hi)
theorem spec_in (x lo hi : Int) : spec_l01In.f x lo hi = some (rng x lo hi) := by
 unfold spec_l01In.f rng
 by_cases h : x ≥ lo
 ·simp [h]
 ·simp [h]
  try omega
theorem impl_in (x lo hi : Int) : impl_within.f x lo hi = some (rng x lo hi) := by
 unfold impl_within.f rng
 by_cases h : x ≥ lo
 ·simp [h]
 ·simp [h]
  try omega
theorem bits_nat (op : BinOp) (k : IntKind) (x y : Int) : Go.bits op k x y = match op with
 | .and => k.wrap ((BitVec.ofInt k.bits x &&& BitVec.ofInt k.bits y).toNat : Int)
 | .or => k.wrap ((BitVec.ofInt k.bits x ||| BitVec.ofInt k.bits y).toNat : Int)
 | .xor => k.wrap ((BitVec.ofInt k.bits x ^^^ BitVec.ofInt k.bits y).toNat : Int)
 | .andNot => k.wrap ((BitVec.ofInt k.bits x &&& ~~~BitVec.ofInt k.bits y).toNat : Int)
 | _ => Go.bits op k x y := by
 cases op <;> rfl
theorem ofInt_nat32 (n : Nat) (h : n < 4294967296) : (BitVec.ofInt 32 (n : Int)).toNat = n := by
 rw [BitVec.toNat_ofInt]; omega
theorem ofInt_nat64 (n : Nat) (h : n < 18446744073709551616) : (BitVec.ofInt 64 (n : Int)).toNat = n := by
 rw [BitVec.toNat_ofInt]; omega
theorem wrap_u32 (x : Int) : IntKind.wrap .u32 x = x % 4294967296 := rfl
theorem wrap_i64 (x : Int) : IntKind.wrap .i64 x = wrap64 x := i64_w x
theorem xor_u32_rng (x y : Int) : 0 ≤ Go.bits .xor .u32 x y ∧ Go.bits .xor .u32 x y < 4294967296 := by
 rw [bits_nat]
 show 0 ≤ IntKind.wrap .u32 _ ∧ IntKind.wrap .u32 _ < _
 rw [wrap_u32]
 omega
theorem and_u32_one (x : Int) (h0 : 0 ≤ x) (h1 : x < 4294967296) : Go.bits .and .u32 x 1 = x % 2 := by
 rw [bits_nat]
 show IntKind.wrap .u32 ((BitVec.ofInt 32 x &&& BitVec.ofInt 32 ((1 : Nat) : Int)).toNat : Int) = _
 obtain ⟨n, rfl⟩ := Int.eq_ofNat_of_zero_le h0
 rw [BitVec.toNat_and, ofInt_nat32 n (by omega), ofInt_nat32 1 (by omega), Nat.and_one_is_mod, wrap_u32]
 omega
theorem var_byte (x : Int) (h0 : 0 ≤ x) (h1 : x ≤ 1000000000) : (Go.bits .or .i64 (Go.bits .and .i64 x 127) 128) % 256 = x % 128 + 128 := by
 obtain ⟨n, rfl⟩ := Int.eq_ofNat_of_zero_le h0
 have e1 : Go.bits .and .i64 (n : Int) 127 = ((n % 128 : Nat) : Int) := by
  rw [bits_nat]
  show IntKind.wrap .i64 ((BitVec.ofInt 64 (n : Int) &&& BitVec.ofInt 64 ((127 : Nat) : Int)).toNat : Int) = _
  rw [BitVec.toNat_and, ofInt_nat64 n (by omega), ofInt_nat64 127 (by omega), wrap_i64]
  have : n &&& 127 = n % 128 := Nat.and_two_pow_sub_one_eq_mod n 7
  rw [this, w64 (by omega) (by omega)]
 rw [e1, bits_nat]
 show IntKind.wrap .i64 ((BitVec.ofInt 64 ((n % 128 : Nat) : Int) ||| BitVec.ofInt 64 ((128 : Nat) : Int)).toNat : Int) % 256 = _
 rw [BitVec.toNat_or, ofInt_nat64 (n % 128) (by omega), ofInt_nat64 128 (by omega), wrap_i64]
 have h : ∀ m : Fin 128, (m.val ||| 128) = m.val + 128 := by decide
 have hm := h ⟨n % 128, by omega⟩
 have e2 : (n % 128 ||| 128) = n % 128 + 128 := hm
 rw [e2, w64 (by omega) (by omega)]
 omega
def varL (n : Nat) : List Int := if h : n ≤ 127 then [(n : Int)] else ((n % 128 + 128 : Nat) : Int) :: varL (n / 128)
 termination_by n
 decreasing_by omega
theorem varL_small (n : Nat) (h : n ≤ 127) : varL n = [(n : Int)] := by rw [varL, dif_pos h]
theorem varL_big (n : Nat) (h : 127 < n) : varL n = ((n % 128 + 128 : Nat) : Int) :: varL (n / 128) := by rw [varL, dif_neg (by omega)]
theorem varL_len (n : Nat) (h : n ≤ 1000000000) : (varL n).length ≤ 5 := by
 have key : ∀ (j n : Nat), n < 128 ^ (j + 1) → (varL n).length ≤ j + 1 := by
  intro j
  induction j with
  | zero => intro n h; rw [varL_small n (by omega)]; simp
  | succ j ih =>
   intro n h
   by_cases hn : n ≤ 127
   ·rw [varL_small n hn]; simp
   ·rw [varL_big n (by omega), List.length_cons]
    have := ih (n / 128) (by rw [Nat.pow_succ] at h; omega)
    omega
 exact key 4 n (by omega)
def varS (n : Int) : ByteArray := strOfNums (varL n.toNat)
theorem varS_size (n : Int) (h : n ≤ 1000000000) : (varS n).size ≤ 5 := by
 unfold varS; rw [strOfNums_size]; exact varL_len _ (by omega)
theorem ev_spec_l01Var (n : Int) (h0 : 0 ≤ n) (h1 : n ≤ 1000000000) : Ev (fun k => spec_l01Var.f k n) (varS n) := by
 have key : ∀ (m : Nat) (acc : List Int), m ≤ 1000000000 → acc.length + m ≤ 2000000000 → Ev (fun k => spec_l01Var.l0 k (m : Int) acc) (strOfNums (acc ++ varL m)) := by
  intro m
  induction m using Nat.strongRecOn with
  | ind m ih =>
   intro acc hm ha
   refine evSucc ?_
   simp only [spec_l01Var.l0]
   have e : Int.tdiv (m : Int) 128 = ((m / 128 : Nat) : Int) := by rw [Int.tdiv_eq_ediv_of_nonneg (by omega)]; omega
   have e2 : Int.tmod (m : Int) 128 = ((m % 128 : Nat) : Int) := by rw [Int.tmod_eq_emod_of_nonneg (by omega)]; omega
   by_cases hb : m ≤ 127
   ·refine evNeg (by omega) (evPos (by omega) ?_)
    rw [varL_small m hb, show (m : Int) % 256 = m by omega]
    exact Ev.now _
   ·refine evPos (by omega) (evPos (by omega) ?_)
    rw [e, e2, w64 (by omega) (by omega), w64 (by omega) (by omega), varL_big m (by omega)]
    have := ih (m / 128) (by omega) (acc ++ [((m % 128 + 128 : Nat) : Int)]) (by omega) (by simp; omega)
    rw [List.append_assoc] at this
    rw [show (((m % 128 : Nat) : Int) + 128) % 256 = ((m % 128 + 128 : Nat) : Int) by omega]
    exact this
 have := key n.toNat [] (by omega) (by simp; omega)
 rw [Int.toNat_of_nonneg h0] at this
 exact this
theorem ev_impl_VarText (n : Int) : Ev (fun k => impl_VarText.f k n) (if rng n 0 1000000000 = true then (varS n, true) else (⟨#[]⟩, false)) := by
 simp only [impl_VarText.f, impl_in, Option.bind_some]
 refine evIte (fun h => ?_) (fun h => Ev.now _)
 have hr : 0 ≤ n ∧ n ≤ 1000000000 := by unfold rng at h; simpa using h
 have key : ∀ (m : Nat) (acc : List Int), m ≤ 1000000000 → acc.length + m ≤ 2000000000 → Ev (fun k => impl_VarText.l0 k (m : Int) acc) (strOfNums (acc ++ varL m), true) := by
  intro m
  induction m using Nat.strongRecOn with
  | ind m ih =>
   intro acc hm ha
   refine evSucc ?_
   simp only [impl_VarText.l0]
   by_cases hb : m ≤ 127
   ·refine evNeg (by omega) (evPos (by omega) ?_)
    rw [varL_small m hb, show (m : Int) % 256 = m by omega]
    exact Ev.now _
   ·refine evPos (by omega) (evPos (by omega) ?_)
    rw [var_byte m (by omega) (by omega), varL_big m (by omega)]
    have := ih (m / 128) (by omega) (acc ++ [((m % 128 + 128 : Nat) : Int)]) (by omega) (by simp; omega)
    rw [List.append_assoc] at this
    rw [show (m : Int) / 128 = ((m / 128 : Nat) : Int) by omega, show (m : Int) % 128 + 128 = ((m % 128 + 128 : Nat) : Int) by omega]
    exact this
 have := key n.toNat [] (by omega) (by simp; omega)
 rw [Int.toNat_of_nonneg hr.1] at this
 exact this
theorem ev_impl_VarText_ok (n : Int) (h0 : 0 ≤ n) (h1 : n ≤ 1000000000) : Ev (fun k => impl_VarText.f k n) (varS n, true) :=
 evEq (ev_impl_VarText n) (if_pos (by unfold rng; simp [h0, h1]))
def itemB (a b c d : Int) : Bool := if a = 1 then rng b 0 4294967295 && (rng c 0 4294967295 && d == 0) else if a = 2 then rng d 1 1000000000 && (b == 0 && c == 0) else false
theorem spec_itemB (a b c d : Int) : spec_ItemOk.f a b c d = some (itemB a b c d) := by
 unfold spec_ItemOk.f itemB
 simp only [spec_HalfOk.f, spec_in, Option.bind_some]
 by_cases h1 : a = 1
 ·rw [if_pos h1, if_pos h1]
  cases rng b 0 4294967295 <;> cases rng c 0 4294967295 <;> simp
 ·rw [if_neg h1, if_neg h1]
  by_cases h2 : a = 2
  ·rw [if_pos h2, if_pos h2]
   by_cases hb : b = 0
   ·cases rng d 1 1000000000 <;> simp [hb]
   ·cases rng d 1 1000000000 <;> simp [hb]
  ·rw [if_neg h2, if_neg h2]
theorem impl_itemB (a b c d : Int) : impl_ItemOk.f a b c d = some (itemB a b c d) := by
 unfold impl_ItemOk.f itemB
 simp only [impl_HalfOk.f, impl_in, Option.bind_some]
 by_cases h1 : a = 1
 ·rw [if_pos h1, if_pos h1]
  cases rng b 0 4294967295 <;> cases rng c 0 4294967295 <;> simp
 ·rw [if_neg h1, if_neg h1]
  by_cases h2 : a = 2
  ·rw [if_pos h2, if_pos h2]
   by_cases hb : b = 0
   ·cases rng d 1 1000000000 <;> simp [hb]
   ·cases rng d 1 1000000000 <;> simp [hb]
  ·rw [if_neg h2, if_neg h2]
def frameB (a b c d e f g : Int) : Bool := rng b 0 2 && (rng c 1 1000000000 && (if a = 1 then itemB d e f g else if a = 2 then (d == 0 && (e == 0 && (f == 0 && (g == 0)))) else false))
theorem ev_spec_FrameOk (a b c d e f g : Int) : Ev (fun k => spec_FrameOk.f k a b c d e f g) (frameB a b c d e f g) := by
 simp only [spec_FrameOk.f, spec_in, Option.bind_some]
 unfold frameB
 cases rng b 0 2
 ·refine evNeg (by simp) (evSucc ?_)
  simp only [spec_FrameOk.j0, Bool.false_and]
  exact evPos (by simp) (Ev.now _)
 ·refine evPos rfl (evSucc ?_)
  simp only [spec_FrameOk.j0, spec_itemB, Option.bind_some, Bool.true_and]
  cases rng c 1 1000000000
  ·exact evPos (by decide) (Ev.now _)
  ·refine evNeg (by simp) ?_
   simp only [Bool.true_and]
   exact evIte (fun _ => Ev.now _) (fun _ => evIte (fun _ => Ev.now _) (fun _ => Ev.now _))
theorem ev_impl_FrameOk (a b c d e f g : Int) : Ev (fun k => impl_FrameOk.f k a b c d e f g) (frameB a b c d e f g) := by
 simp only [impl_FrameOk.f, impl_isPid.f, impl_in, Option.bind_some]
 unfold frameB
 cases rng b 0 2
 ·refine evNeg (by simp) (evSucc ?_)
  simp only [impl_FrameOk.j0, Bool.false_and]
  exact evPos (by simp) (Ev.now _)
 ·refine evPos rfl (evSucc ?_)
  simp only [impl_FrameOk.j0, impl_itemB, Option.bind_some, Bool.true_and]
  cases rng c 1 1000000000
  ·exact evPos (by decide) (Ev.now _)
  ·refine evNeg (by simp) ?_
   simp only [Bool.true_and]
   exact evIte (fun _ => Ev.now _) (fun _ => evIte (fun _ => Ev.now _) (fun _ => Ev.now _))
theorem itemB_count {a b c d : Int} (h : itemB a b c d = true) : 0 ≤ d ∧ d ≤ 1000000000 := by
 unfold itemB rng at h
 split at h
 ·simp at h; omega
 ·split at h
  ·simp at h; omega
  ·simp at h
theorem frameB_facts {a b c d e f g : Int} (h : frameB a b c d e f g = true) : (0 ≤ b ∧ b ≤ 2) ∧ (1 ≤ c ∧ c ≤ 1000000000) ∧ (0 ≤ g ∧ g ≤ 1000000000) ∧ (a = 1 ∨ a = 2) := by
 unfold frameB at h
 simp only [Bool.and_eq_true] at h
 obtain ⟨h1, h2, h3⟩ := h
 unfold rng at h1 h2
 simp at h1 h2
 refine ⟨h1, h2, ?_⟩
 split at h3
 ·rename_i ha
  exact ⟨itemB_count h3, Or.inl ha⟩
 ·split at h3
  ·rename_i ha
   simp at h3
   exact ⟨by omega, Or.inr ha⟩
  ·simp at h3
def sumBit (x : Int) : Int := if x % 2 = 1 then Go.bits .xor .u32 (x / 2) 3558460437 else x / 2
def sumByte (x b : Int) : Int := sumBit (sumBit (sumBit (sumBit (sumBit (sumBit (sumBit (sumBit (Go.bits .xor .u32 x b))))))))
def sumAll (x : Int) (s : ByteArray) : Nat → Int
 | 0 => x
 | i + 1 => sumByte (sumAll x s i) (bt s i)
theorem sumBit_rng (x : Int) (h : 0 ≤ x ∧ x < 4294967296) : 0 ≤ sumBit x ∧ sumBit x < 4294967296 := by
 unfold sumBit
 split
 ·exact xor_u32_rng _ _
 ·omega
theorem sumByte_rng (x b : Int) : 0 ≤ sumByte x b ∧ sumByte x b < 4294967296 := by
 unfold sumByte
 repeat (first | exact xor_u32_rng _ _ | apply sumBit_rng)
theorem sumAll_rng (x : Int) (s : ByteArray) (h : 0 ≤ x ∧ x < 4294967296) : ∀ i, 0 ≤ sumAll x s i ∧ sumAll x s i < 4294967296
 | 0 => h
 | _ + 1 => sumByte_rng _ _
theorem sum_impl_step (x : Int) (s : ByteArray) (i j r : Int) (h : 0 ≤ x ∧ x < 4294967296) (hj : j < 8 ∧ 0 ≤ j) (next : Ev (fun k => impl_SumMore.l1 k (sumBit x) s i (j + 1)) r) : Ev (fun k => impl_SumMore.l1 k x s i j) r := by
 refine evSucc ?_
 simp only [impl_SumMore.l1]
 refine evPos hj.1 ?_
 rw [and_u32_one x h.1 h.2, w64 (by omega) (by omega)]
 unfold sumBit at next
 by_cases hx : x % 2 = 1
 ·rw [if_pos hx] at next; exact evPos hx next
 ·rw [if_neg hx] at next; exact evNeg hx next
theorem sum_spec_step (x : Int) (s : ByteArray) (i j r : Int) (h : 0 ≤ x ∧ x < 4294967296) (hj : j < 8 ∧ 0 ≤ j) (next : Ev (fun k => spec_SumMore.l1 k (sumBit x) s i (j + 1)) r) : Ev (fun k => spec_SumMore.l1 k x s i j) r := by
 refine evSucc ?_
 simp only [spec_SumMore.l1]
 refine evPos hj.1 ?_
 rw [Int.tmod_eq_emod_of_nonneg h.1, Int.tdiv_eq_ediv_of_nonneg h.1, w64 (by omega) (by omega), show x / 2 % 4294967296 = x / 2 by omega]
 unfold sumBit at next
 by_cases hx : x % 2 = 1
 ·rw [if_pos hx] at next; exact evPos hx next
 ·rw [if_neg hx] at next; exact evNeg hx next
theorem ev_impl_SumMore (x : Int) (s : ByteArray) (h : 0 ≤ x ∧ x < 4294967296) (hs : s.size ≤ 140737488351232) : Ev (fun k => impl_SumMore.f k x s) (sumAll x s s.size) := by
 have key := evUp (r := sumAll x s s.size) s.size (fun i k => impl_SumMore.l0 k (sumAll x s i) s (i : Int)) ?_ ?_
 ·exact key
 ·intro i hi ih
  refine evSucc ?_
  simp only [impl_SumMore.l0]
  have hb := bt_range s (i : Int)
  refine evPos (by omega) (evPos (by omega) ?_)
  rw [show bt s (i : Int) % 4294967296 = bt s (i : Int) by omega]
  iterate 8 (refine sum_impl_step _ _ _ _ _ (by repeat (first | exact xor_u32_rng _ _ | apply sumBit_rng)) (by decide) ?_)
  refine evSucc ?_
  simp only [impl_SumMore.l1]
  refine evNeg (by decide) ?_
  rw [w64 (by omega) (by omega), ci]
  exact ih
 ·refine evSucc ?_
  simp only [impl_SumMore.l0]
  exact evNeg (by omega) (Ev.now _)
theorem ev_spec_SumMore (x : Int) (s : ByteArray) (h : 0 ≤ x ∧ x < 4294967296) (hs : s.size ≤ 140737488351232) : Ev (fun k => spec_SumMore.f k x s) (sumAll x s s.size) := by
 have key := evUp (r := sumAll x s s.size) s.size (fun i k => spec_SumMore.l0 k (sumAll x s i) s (i : Int)) ?_ ?_
 ·exact key
 ·intro i hi ih
  refine evSucc ?_
  simp only [spec_SumMore.l0]
  have hb := bt_range s (i : Int)
  refine evPos (by omega) (evPos (by omega) ?_)
  rw [show bt s (i : Int) % 4294967296 = bt s (i : Int) by omega]
  iterate 8 (refine sum_spec_step _ _ _ _ _ (by repeat (first | exact xor_u32_rng _ _ | apply sumBit_rng)) (by decide) ?_)
  refine evSucc ?_
  simp only [spec_SumMore.l1]
  refine evNeg (by decide) ?_
  rw [w64 (by omega) (by omega), ci]
  exact ih
 ·refine evSucc ?_
  simp only [spec_SumMore.l0]
  exact evNeg (by omega) (Ev.now _)
def sumS (s : ByteArray) : Int := sumAll 4294967295 s s.size
theorem sumS_rng (s : ByteArray) : 0 ≤ sumS s ∧ sumS s < 4294967296 := sumAll_rng _ _ (by omega) _
def four4 (n : Int) : ByteArray := strOfNums [(n / 16777216) % 256, (n / 65536) % 256, (n / 256) % 256, n % 256]
theorem four4_size (n : Int) : (four4 n).size = 4 := by simp [four4, strOfNums_size]
theorem impl_four4 (n : Int) : impl_four.f n = some (four4 n) := rfl
theorem spec_four4 (n : Int) : spec_l06Four.f n = some (four4 n) := rfl
theorem spec_four2 (n : Int) : spec_l02Four.f n = some (four4 n) := rfl
def sealB (s : ByteArray) : ByteArray × Bool := if s.size ≤ 20000 then (s ++ four4 (sumS s), true) else (⟨#[]⟩, false)
theorem ev_impl_Sealed (s : ByteArray) (hs : s.size ≤ 140737488351232) : Ev (fun k => impl_Sealed.f k s) (sealB s) := by
 simp only [impl_Sealed.f, impl_SumOf.f]
 unfold sealB
 by_cases h : s.size ≤ 20000
 ·have hr := sumS_rng s
  rw [if_pos h]
  refine evNeg (by omega) (Ev.bind (Ev.bind (ev_impl_SumMore _ s (by omega) hs) (Ev.now _)) ?_)
  rw [show sumAll 4294967295 s s.size = sumS s from rfl, w64 (by omega) (by omega)]
  simp only [impl_four4, Option.bind_some]
  exact evPos (by rw [four4_size]; omega) (Ev.now _)
 ·rw [if_neg h]
  exact evPos (by omega) (Ev.now _)
theorem ev_spec_Sealed (s : ByteArray) (hs : s.size ≤ 140737488351232) : Ev (fun k => spec_Sealed.f k s) (sealB s) := by
 simp only [spec_Sealed.f, spec_SumOf.f]
 unfold sealB
 by_cases h : s.size ≤ 20000
 ·rw [if_pos h]
  refine evNeg (by omega) (Ev.bind (Ev.bind (ev_spec_SumMore _ s (by omega) hs) (Ev.now _)) ?_)
  rw [show sumAll 4294967295 s s.size = sumS s from rfl]
  simp only [spec_four2, Option.bind_some]
  exact evPos (by rw [four4_size]; omega) (Ev.now _)
 ·rw [if_neg h]
  exact evPos (by omega) (Ev.now _)
def frameRaw (a b c d e f g : Int) : ByteArray := ((((strOfNums [a % 256, b % 256] ++ varS c) ++ strOfNums [d % 256]) ++ four4 e) ++ four4 f) ++ varS g
theorem frameRaw_size {a b c d e f g : Int} (hc : c ≤ 1000000000) (hg : g ≤ 1000000000) : (frameRaw a b c d e f g).size ≤ 21 := by
 have h1 := varS_size c hc
 have h2 := varS_size g hg
 unfold frameRaw
 simp only [sizeApp, strOfNums_size, four4_size, List.length_cons, List.length_nil]
 omega
def frameS (a b c d e f g : Int) : ByteArray × Bool := if frameB a b c d e f g = true then (frameRaw a b c d e f g ++ four4 (sumS (frameRaw a b c d e f g)), true) else (⟨#[]⟩, false)
theorem frameS_size (a b c d e f g : Int) : (frameS a b c d e f g).1.size ≤ 25 := by
 unfold frameS
 split
 ·rename_i h
  obtain ⟨_, ⟨_, h2⟩, ⟨_, h3⟩, _⟩ := frameB_facts h
  have := frameRaw_size (a := a) (b := b) (d := d) (e := e) (f := f) h2 h3
  rw [sizeApp, four4_size]
  omega
 ·decide
theorem ev_spec_FrameText (a b c d e f g : Int) : Ev (fun k => spec_FrameText.f k a b c d e f g) (frameS a b c d e f g) := by
 simp only [spec_FrameText.f]
 refine Ev.bind (ev_spec_FrameOk a b c d e f g) ?_
 unfold frameS
 by_cases h : frameB a b c d e f g = true
 ·obtain ⟨_, hc, hg, _⟩ := frameB_facts h
  have s1 := varS_size c hc.2
  have s2 := varS_size g hg.2
  have hr := frameRaw_size (a := a) (b := b) (d := d) (e := e) (f := f) hc.2 hg.2
  have hsz2 (x y : Int) : (strOfNums [x, y]).size = 2 := by rw [strOfNums_size]; rfl
  have hsz1 (x : Int) : (strOfNums [x]).size = 1 := by rw [strOfNums_size]; rfl
  rw [if_pos h]
  refine evPos h ?_
  simp only [Option.bind_some, spec_four4]
  refine Ev.bind (ev_spec_l01Var c (by omega) hc.2) (evPos (by rw [hsz2]; omega) (evPos (by simp only [sizeApp, hsz2, hsz1]; omega) (evPos (by simp only [sizeApp, hsz2, hsz1, four4_size]; omega) (evPos (by simp only [sizeApp, hsz2, hsz1, four4_size]; omega) ?_))))
  refine Ev.bind (ev_spec_l01Var g (by omega) hg.2) (evPos (by simp only [sizeApp, hsz2, hsz1, four4_size]; omega) ?_)
  refine Ev.bind (ev_spec_Sealed (frameRaw a b c d e f g) (by omega)) (evEq (Ev.now _) ?_)
  unfold sealB
  rw [if_pos (by omega)]
 ·rw [if_neg h]
  exact evNeg h (Ev.now _)
theorem ev_impl_FrameText (a b c d e f g : Int) : Ev (fun k => impl_FrameText.f k a b c d e f g) (frameS a b c d e f g) := by
 simp only [impl_FrameText.f]
 refine Ev.bind (ev_impl_FrameOk a b c d e f g) ?_
 unfold frameS
 by_cases h : frameB a b c d e f g = true
 ·obtain ⟨_, hc, hg, _⟩ := frameB_facts h
  have s1 := varS_size c hc.2
  have s2 := varS_size g hg.2
  have hr := frameRaw_size (a := a) (b := b) (d := d) (e := e) (f := f) hc.2 hg.2
  have hsz2 (x y : Int) : (strOfNums [x, y]).size = 2 := by rw [strOfNums_size]; rfl
  have hsz1 (x : Int) : (strOfNums [x]).size = 1 := by rw [strOfNums_size]; rfl
  rw [if_pos h]
  refine evPos h ?_
  refine Ev.bind (ev_impl_VarText_ok c (by omega) hc.2) (Ev.bind (ev_impl_VarText_ok g (by omega) hg.2) ?_)
  simp only [Option.bind_some, impl_four4]
  refine evPos (by rw [hsz2]; omega) (evPos (by simp only [sizeApp, hsz2, hsz1]; omega) (evPos (by simp only [sizeApp, hsz2, hsz1, four4_size]; omega) (evPos (by simp only [sizeApp, hsz2, hsz1, four4_size]; omega) (evPos (by simp only [sizeApp, hsz2, hsz1, four4_size]; omega) ?_))))
  refine Ev.bind (ev_impl_Sealed (frameRaw a b c d e f g) (by omega)) (evEq (Ev.now _) ?_)
  unfold sealB
  rw [if_pos (by omega)]
 ·rw [if_neg h]
  exact evNeg h (Ev.now _)
def entryS (b c d e f g : Int) : ByteArray := (frameS 1 b c d e f g).1
theorem entryS_size (b c d e f g : Int) : (entryS b c d e f g).size ≤ 25 := frameS_size 1 b c d e f g
theorem ev_spec_EntryText (b c d e f g : Int) : Ev (fun k => spec_EntryText.f k b c d e f g) (entryS b c d e f g) := by
 simp only [spec_EntryText.f]
 exact Ev.bind (ev_spec_FrameText 1 b c d e f g) (Ev.now _)
theorem ev_impl_EntryText (b c d e f g : Int) : Ev (fun k => impl_EntryText.f k b c d e f g) (entryS b c d e f g) := by
 simp only [impl_EntryText.f]
 exact Ev.bind (ev_impl_FrameText 1 b c d e f g) (Ev.now _)
open DigestEq (dig dig_spec dig_impl)
theorem rdE (l : List S27) (i : Nat) (hi : i < l.length) : rd_T27 l (i : Int) = l[i] := by simp [rd_T27, hi]
theorem dig_size (s : ByteArray) : (dig s).size = 32 := by
 unfold DigestEq.dig
 rw [strOfNums_size, PH.f4_len, PH.hs_len]
def entryT (x : S27) : ByteArray := entryS x.f0 x.f1 x.f2.f0 x.f2.f1 x.f2.f2 x.f2.f3
theorem entryT_size (x : S27) : (entryT x).size ≤ 25 := entryS_size _ _ _ _ _ _
def headStep (h : ByteArray) (x : S27) : ByteArray := dig (h ++ entryT x)
def headS (h : ByteArray) (l : List S27) : ByteArray := l.foldl headStep h
theorem headS_size (h : ByteArray) (l : List S27) : (headS h l).size ≤ h.size + 32 := by
 rcases List.eq_nil_or_concat l with rfl | ⟨l', x, rfl⟩
 ·exact Nat.le_add_right _ _
 ·unfold headS
  rw [List.concat_eq_append, List.foldl_append]
  show (dig _).size ≤ _
  rw [dig_size]; omega
theorem headS_step (h : ByteArray) (l : List S27) (i : Nat) (hi : i < l.length) : headS h (l.take (i + 1)) = dig (headS h (l.take i) ++ entryT l[i]) := by
 unfold headS
 rw [takeSnoc l i hi, List.foldl_append]
 rfl
theorem ev_spec_HeadFrom (h : ByteArray) (l : List S27) (hh : h.size ≤ 16777216) (hl : l.length ≤ 16777216) : Ev (fun k => spec_HeadFrom.f k h l) (headS h l) := by
 have key := evUp (r := headS h l) l.length (fun i k => spec_HeadFrom.l0 k l (headS h (l.take i)) (i : Int)) ?_ ?_
 ·exact key
 ·intro i hi ih
  refine evSucc ?_
  simp only [spec_HeadFrom.l0]
  have hs := headS_size h (l.take i)
  have he := entryT_size l[i]
  rw [rdE l i hi, w64 (by omega) (by omega), ci]
  refine evPos (by omega) (evPos (by omega) (Ev.bind (ev_spec_EntryText _ _ _ _ _ _) (evPos ?_ ?_)))
  ·show _ + (entryT l[i]).size ≤ _
   omega
  refine evBindS (dig_spec _ (by rw [sizeApp]; show _ + (entryT l[i]).size ≤ _; omega)) ?_
  rw [headS_step h l i hi] at ih
  exact ih
 ·refine evSucc ?_
  simp only [spec_HeadFrom.l0]
  refine evNeg (by omega) ?_
  rw [List.take_length]
  exact Ev.now _
theorem ev_impl_HeadFrom (h : ByteArray) (l : List S27) (hh : h.size ≤ 16777216) (hl : l.length ≤ 16777216) : Ev (fun k => impl_HeadFrom.f k h l) (headS h l) := by
 have key := evUp (r := headS h l) l.length (fun i k => impl_HeadFrom.l0 k (headS h (l.take i)) l (l.length : Int) (i : Int)) ?_ ?_
 ·exact key
 ·intro i hi ih
  refine evSucc ?_
  simp only [impl_HeadFrom.l0]
  have hs := headS_size h (l.take i)
  have he := entryT_size l[i]
  rw [rdE l i hi, w64 (by omega) (by omega), ci]
  refine evPos (by omega) (evPos (by omega) (evPos (by omega) (Ev.bind (ev_impl_EntryText _ _ _ _ _ _) (evPos ?_ ?_))))
  ·show _ + (entryT l[i]).size ≤ _
   omega
  refine Ev.bind (dig_impl _ (by rw [sizeApp]; show _ + (entryT l[i]).size ≤ _; omega)) ?_
  rw [headS_step h l i hi] at ih
  exact ih
 ·refine evSucc ?_
  simp only [impl_HeadFrom.l0]
  refine evNeg (by omega) ?_
  rw [List.take_length]
  exact Ev.now _
theorem evUpP {α : Type} {r : α} (n : Nat) (P : Nat → Prop) (g : Nat → Nat → Option α) (h0 : P 0) (step : ∀ i, i < n → P i → (P (i + 1) → Ev (g (i + 1)) r) → Ev (g i) r) (last : P n → Ev (g n) r) : Ev (g 0) r := by
 have key : ∀ d i, i + d = n → P i → Ev (g i) r := by
  intro d
  induction d with
  | zero => intro i hi hp; rw [show i = n by omega] at hp ⊢; exact last hp
  | succ d ih => intro i hi hp; exact step i (by omega) hp (fun hp' => ih (i + 1) (by omega) hp')
 exact key n 0 (by omega) h0
theorem sizeData (s : ByteArray) : s.size = s.data.toList.length := by
 show s.data.size = _
 rw [Array.length_toList]
theorem toList_loop (bs : ByteArray) : ∀ (d i : Nat) (r : List UInt8), i + d = bs.size → ByteArray.toList.loop bs i r = r.reverse ++ bs.data.toList.drop i := by
 have hsz := sizeData bs
 intro d
 induction d with
 | zero =>
  intro i r h
  rw [ByteArray.toList.loop, if_neg (by omega), List.drop_of_length_le (by omega)]
  simp
 | succ d ih =>
  intro i r h
  rw [ByteArray.toList.loop, if_pos (by omega), ih (i + 1) _ (by omega)]
  have hi : i < bs.data.toList.length := by omega
  rw [List.drop_eq_getElem_cons hi]
  have hb : i < bs.data.size := by rw [← Array.length_toList]; exact hi
  have hg : bs.get! i = bs.data[i] := by
   show bs.data[i]! = _
   exact getElem!_pos bs.data i hb
  rw [List.reverse_cons, List.append_assoc, hg]
  simp
theorem toList_data (bs : ByteArray) : bs.toList = bs.data.toList := by
 unfold ByteArray.toList
 rw [toList_loop bs bs.size 0 [] (by omega)]
 simp
theorem toList_inj {a b : ByteArray} (h : a.toList = b.toList) : a = b := by
 rw [toList_data, toList_data] at h
 exact ByteArray.ext (Array.ext' h)
theorem toList_iff {a b : ByteArray} : a.toList = b.toList ↔ a = b := ⟨toList_inj, fun h => by rw [h]⟩
theorem toList_nil {a : ByteArray} : a.toList = ([] : List UInt8) ↔ a.size = 0 := by
 rw [toList_data, sizeData]
 exact List.length_eq_zero_iff.symm
def okE (x : S27) : Bool := frameB 1 x.f0 x.f1 x.f2.f0 x.f2.f1 x.f2.f2 x.f2.f3
theorem entryT_no (x : S27) (h : okE x = false) : entryT x = ⟨#[]⟩ := by
 unfold okE at h
 unfold entryT entryS frameS
 rw [h]
 rfl
theorem entryT_yes (x : S27) (h : okE x = true) : 4 ≤ (entryT x).size := by
 unfold okE at h
 unfold entryT entryS frameS
 rw [if_pos h]
 show 4 ≤ (_ ++ four4 _).size
 rw [sizeApp, four4_size]
 omega
theorem entryT_nil (x : S27) : (entryT x).toList = ([] : List UInt8) ↔ okE x = false := by
 rw [toList_nil]
 constructor
 ·intro h
  cases hx : okE x
  ·rfl
  ·have := entryT_yes x hx
   omega
 ·intro h
  rw [entryT_no x h]
  rfl
def logStep (s : ByteArray) (x : S27) : ByteArray := (s ++ varS ((entryT x).size : Int)) ++ entryT x
def logRaw (l : List S27) : ByteArray := l.foldl logStep ⟨#[]⟩
theorem logRaw_step (l : List S27) (i : Nat) (hi : i < l.length) : logRaw (l.take (i + 1)) = (logRaw (l.take i) ++ varS ((entryT l[i]).size : Int)) ++ entryT l[i] := by
 unfold logRaw
 rw [takeSnoc l i hi, List.foldl_append]
 rfl
theorem logRaw_snoc (l : List S27) (x : S27) : logRaw (l ++ [x]) = (logRaw l ++ varS ((entryT x).size : Int)) ++ entryT x := by
 unfold logRaw
 rw [List.foldl_append]
 rfl
theorem logRaw_size (l : List S27) : (logRaw l).size ≤ 30 * l.length := by
 have key : ∀ (l : List S27) (s : ByteArray), (l.foldl logStep s).size ≤ s.size + 30 * l.length := by
  intro l
  induction l with
  | nil => intro s; simp
  | cons x l ih =>
   intro s
   have h1 := ih (logStep s x)
   have h2 := entryT_size x
   have h3 := varS_size ((entryT x).size : Int) (by omega)
   rw [List.foldl_cons, List.length_cons]
   have h4 : (logStep s x).size ≤ s.size + 30 := by unfold logStep; rw [sizeApp, sizeApp]; omega
   omega
 have h := key l ⟨#[]⟩
 have h0 : (⟨#[]⟩ : ByteArray).size = 0 := rfl
 unfold logRaw
 omega
def logB (l : List S27) : ByteArray × Bool := if l.length ≤ 200 ∧ l.all okE = true then (logRaw l, true) else (⟨#[]⟩, false)
theorem allSnoc (l : List S27) (i : Nat) (hi : i < l.length) : (l.take (i + 1)).all okE = ((l.take i).all okE && okE l[i]) := by
 rw [takeSnoc l i hi, List.all_append]
 simp
theorem notAll (l : List S27) (i : Nat) (hi : i < l.length) (ho : okE l[i] = false) : ¬ l.all okE = true := fun z => by
 rw [List.all_eq_true] at z
 have := z _ (List.getElem_mem hi)
 rw [ho] at this
 cases this
def segB (a : Int) (b : ByteArray) (l : List S27) (d : ByteArray) : Bool :=
 if 0 ≤ a ∧ a ≤ 200 ∧ b.size = 32 ∧ 1 ≤ l.length ∧ l.length ≤ 200 ∧ l.all okE = true then d.toList == (headS b l).toList else false
theorem ev_spec_SegmentOk (a : Int) (b : ByteArray) (l : List S27) (d : ByteArray) : Ev (fun k => spec_SegmentOk.f k a b l d) (segB a b l d) := by
 have no : ∀ x, x = false → Ev (fun k => spec_SegmentOk.j0 k true a b l d) x := fun x hx => by
  subst hx
  refine evSucc ?_
  simp only [spec_SegmentOk.j0]
  exact evPos (by simp) (Ev.now _)
 simp only [spec_SegmentOk.f, spec_in, Option.bind_some]
 by_cases h1 : 0 ≤ a ∧ a ≤ 200
 ·rw [show rng a 0 200 = true by unfold rng; simp [h1]]
  refine evPos rfl ?_
  by_cases h2 : b.size = 32
  ·refine evPos (by omega) ?_
   by_cases h3 : 1 ≤ l.length ∧ l.length ≤ 200
   ·rw [show rng (l.length : Int) 1 200 = true by unfold rng; simp; omega]
    refine evSucc ?_
    simp only [spec_SegmentOk.j0]
    refine evNeg (by simp) ?_
    refine evUpP l.length (fun i => (l.take i).all okE = true) (fun i k => spec_SegmentOk.l0 k (i : Int) a b l d) rfl ?_ ?_
    ·intro i hi hp ih
     refine evSucc ?_
     simp only [spec_SegmentOk.l0]
     rw [rdE l i hi, w64 (by omega) (by omega), ci]
     refine evPos (by omega) (evPos (by omega) (Ev.bind (ev_spec_EntryText _ _ _ _ _ _) ?_))
     show Ev (fun k => if (entryT l[i]).toList = ([] : List UInt8) then _ else _) _
     cases ho : okE l[i]
     ·refine evPos ((entryT_nil _).2 ho) (evEq (Ev.now _) ?_)
      unfold segB
      rw [if_neg (fun z => notAll l i hi ho z.2.2.2.2.2)]
     ·exact evNeg (fun z => by rw [(entryT_nil _).1 z] at ho; cases ho) (ih (by rw [allSnoc l i hi, hp, ho]; rfl))
    ·intro hp
     refine evSucc ?_
     simp only [spec_SegmentOk.l0]
     rw [List.take_length] at hp
     unfold segB
     rw [if_pos ⟨h1.1, h1.2, h2, h3.1, h3.2, hp⟩]
     exact evNeg (by omega) (Ev.bind (ev_spec_HeadFrom b l (by omega) (by omega)) (Ev.now _))
   ·rw [show rng (l.length : Int) 1 200 = false by unfold rng; simp; omega]
    exact no _ (by unfold segB; rw [if_neg (by omega)])
  ·exact evNeg (by omega) (no _ (by unfold segB; rw [if_neg (fun z => h2 z.2.2.1)]))
 ·rw [show rng a 0 200 = false by unfold rng; simp; omega]
  exact evNeg (by simp) (no _ (by unfold segB; rw [if_neg (fun z => h1 ⟨z.1, z.2.1⟩)]))
theorem ev_impl_SegmentOk (a : Int) (b : ByteArray) (l : List S27) (d : ByteArray) : Ev (fun k => impl_SegmentOk.f k a b l d) (segB a b l d) := by
 have no : ∀ x, x = false → Ev (fun k => impl_SegmentOk.j0 k true a b l d) x := fun x hx => by
  subst hx
  refine evSucc ?_
  simp only [impl_SegmentOk.j0]
  exact evPos (by simp) (Ev.now _)
 simp only [impl_SegmentOk.f, impl_in, Option.bind_some]
 by_cases h1 : 0 ≤ a ∧ a ≤ 200
 ·rw [show rng a 0 200 = true by unfold rng; simp [h1]]
  refine evPos rfl ?_
  by_cases h2 : b.size = 32
  ·refine evPos (by omega) ?_
   by_cases h3 : 1 ≤ l.length ∧ l.length ≤ 200
   ·rw [show rng (l.length : Int) 1 200 = true by unfold rng; simp; omega]
    refine evSucc ?_
    simp only [impl_SegmentOk.j0]
    refine evNeg (by simp) ?_
    refine evUpP l.length (fun i => (l.take i).all okE = true) (fun i k => impl_SegmentOk.l0 k l (l.length : Int) (i : Int) a b l d) rfl ?_ ?_
    ·intro i hi hp ih
     refine evSucc ?_
     simp only [impl_SegmentOk.l0]
     rw [rdE l i hi, w64 (by omega) (by omega), ci]
     refine evPos (by omega) (evPos (by omega) (evPos (by omega) (Ev.bind (ev_impl_EntryText _ _ _ _ _ _) ?_)))
     show Ev (fun k => if (entryT l[i]).toList = ([] : List UInt8) then _ else _) _
     cases ho : okE l[i]
     ·refine evPos ((entryT_nil _).2 ho) (evEq (Ev.now _) ?_)
      unfold segB
      rw [if_neg (fun z => notAll l i hi ho z.2.2.2.2.2)]
     ·exact evNeg (fun z => by rw [(entryT_nil _).1 z] at ho; cases ho) (ih (by rw [allSnoc l i hi, hp, ho]; rfl))
    ·intro hp
     refine evSucc ?_
     simp only [impl_SegmentOk.l0]
     rw [List.take_length] at hp
     unfold segB
     rw [if_pos ⟨h1.1, h1.2, h2, h3.1, h3.2, hp⟩]
     exact evNeg (by omega) (Ev.bind (ev_impl_HeadFrom b l (by omega) (by omega)) (Ev.now _))
   ·rw [show rng (l.length : Int) 1 200 = false by unfold rng; simp; omega]
    exact no _ (by unfold segB; rw [if_neg (by omega)])
  ·exact evNeg (by omega) (no _ (by unfold segB; rw [if_neg (fun z => h2 z.2.2.1)]))
 ·rw [show rng a 0 200 = false by unfold rng; simp; omega]
  exact evNeg (by simp) (no _ (by unfold segB; rw [if_neg (fun z => h1 ⟨z.1, z.2.1⟩)]))
theorem ev_spec_LogText (l : List S27) : Ev (fun k => spec_LogText.f k l) (logB l) := by
 simp only [spec_LogText.f]
 unfold logB
 by_cases h : l.length ≤ 200
 ·refine evNeg (by omega) ?_
  refine evUpP l.length (fun i => (l.take i).all okE = true) (fun i k => spec_LogText.l0 k l (logRaw (l.take i)) (i : Int)) rfl ?_ ?_
  ·intro i hi hp ih
   refine evSucc ?_
   simp only [spec_LogText.l0]
   have hs := logRaw_size (l.take i)
   have hln : (l.take i).length ≤ i := by simp; omega
   have he := entryT_size l[i]
   have hv := varS_size ((entryT l[i]).size : Int) (by omega)
   rw [rdE l i hi, w64 (by omega) (by omega), ci]
   refine evPos (by omega) (evPos (by omega) (Ev.bind (ev_spec_EntryText _ _ _ _ _ _) ?_))
   show Ev (fun k => if (entryT l[i]).toList = ([] : List UInt8) then _ else _) _
   cases ho : okE l[i]
   ·refine evPos ((entryT_nil _).2 ho) (evEq (Ev.now _) ?_)
    rw [if_neg (fun z => notAll l i hi ho z.2)]
   ·refine evNeg (fun z => by rw [(entryT_nil _).1 z] at ho; cases ho) (Ev.bind (ev_spec_l01Var ((entryT l[i]).size : Int) (by omega) (by omega)) (evPos ?_ (evPos ?_ ?_)))
    ·omega
    ·show (_ ++ varS _).size + (entryT l[i]).size ≤ _
     rw [sizeApp]; omega
    ·have := ih (by rw [allSnoc l i hi, hp, ho]; rfl)
     rw [logRaw_step l i hi] at this
     exact this
  ·intro hp
   refine evSucc ?_
   simp only [spec_LogText.l0]
   rw [List.take_length] at hp ⊢
   rw [if_pos ⟨h, hp⟩]
   exact evNeg (by omega) (Ev.now _)
 ·rw [if_neg (fun z => h z.1)]
  exact evPos (by omega) (Ev.now _)
theorem ev_impl_ShortText (s : ByteArray) (h : s.size ≤ 20000) : Ev (fun k => impl_ShortText.f k s) (varS (s.size : Int) ++ s, true) := by
 have hv := varS_size (s.size : Int) (by omega)
 simp only [impl_ShortText.f]
 refine evNeg (by omega) (Ev.bind (ev_impl_VarText_ok (s.size : Int) (by omega) (by omega)) (evPos ?_ (Ev.now _)))
 show (varS _).size + _ ≤ _
 omega
theorem ev_impl_LogText (l : List S27) : Ev (fun k => impl_LogText.f k l) (logB l) := by
 simp only [impl_LogText.f]
 unfold logB
 by_cases h : l.length ≤ 200
 ·refine evNeg (by omega) ?_
  refine evUpP l.length (fun i => (l.take i).all okE = true) (fun i k => impl_LogText.l0 k (logRaw (l.take i)) l (l.length : Int) (i : Int)) rfl ?_ ?_
  ·intro i hi hp ih
   refine evSucc ?_
   simp only [impl_LogText.l0]
   have hs := logRaw_size (l.take i)
   have hln : (l.take i).length ≤ i := by simp; omega
   have he := entryT_size l[i]
   have hv := varS_size ((entryT l[i]).size : Int) (by omega)
   rw [rdE l i hi, w64 (by omega) (by omega), ci]
   refine evPos (by omega) (evPos (by omega) (evPos (by omega) (Ev.bind (ev_impl_EntryText _ _ _ _ _ _) ?_)))
   show Ev (fun k => if (entryT l[i]).toList = ([] : List UInt8) then _ else _) _
   cases ho : okE l[i]
   ·refine evPos ((entryT_nil _).2 ho) (evEq (Ev.now _) ?_)
    rw [if_neg (fun z => notAll l i hi ho z.2)]
   ·refine evNeg (fun z => by rw [(entryT_nil _).1 z] at ho; cases ho) (Ev.bind (ev_impl_ShortText (entryT l[i]) (by omega)) (evPos ?_ ?_))
    ·show _ + (varS _ ++ entryT l[i]).size ≤ _
     rw [sizeApp]; omega
    ·rw [← ByteArray.append_assoc]
     have := ih (by rw [allSnoc l i hi, hp, ho]; rfl)
     rw [logRaw_step l i hi] at this
     exact this
  ·intro hp
   refine evSucc ?_
   simp only [impl_LogText.l0]
   rw [List.take_length] at hp ⊢
   rw [if_pos ⟨h, hp⟩]
   exact evNeg (by omega) (Ev.now _)
 ·rw [if_neg (fun z => h z.1)]
  exact evPos (by omega) (Ev.now _)
def segTextS (a : Int) (b : ByteArray) (l : List S27) (d : ByteArray) : ByteArray × Bool :=
 if segB a b l d = true ∧ (logRaw l).size ≤ 15000 then sealB (((varS a ++ b) ++ varS ((logRaw l).size : Int)) ++ logRaw l) else (⟨#[]⟩, false)
theorem segB_facts {a : Int} {b : ByteArray} {l : List S27} {d : ByteArray} (h : segB a b l d = true) : 0 ≤ a ∧ a ≤ 200 ∧ b.size = 32 ∧ 1 ≤ l.length ∧ l.length ≤ 200 ∧ l.all okE = true ∧ d = headS b l := by
 unfold segB at h
 split at h
 ·rename_i hc
  exact ⟨hc.1, hc.2.1, hc.2.2.1, hc.2.2.2.1, hc.2.2.2.2.1, hc.2.2.2.2.2, toList_inj (by simpa using h)⟩
 ·simp at h
theorem ev_spec_SegmentText (a : Int) (b : ByteArray) (l : List S27) (d : ByteArray) : Ev (fun k => spec_SegmentText.f k a b l d) (segTextS a b l d) := by
 have no : ∀ s x, x = (⟨#[]⟩, false) → Ev (fun k => spec_SegmentText.j0 k s true a b l d) x := fun s x hx => by
  subst hx
  refine evSucc ?_
  simp only [spec_SegmentText.j0]
  exact evPos (by simp) (Ev.now _)
 simp only [spec_SegmentText.f]
 refine Ev.bind (ev_spec_LogText l) (Ev.bind (ev_spec_SegmentOk a b l d) ?_)
 unfold segTextS
 cases hs : segB a b l d
 ·exact evNeg (by simp) (no _ _ (if_neg (fun z => by cases z.1)))
 ·obtain ⟨a0, a1, hb, l0, l1, ha, _⟩ := segB_facts hs
  have hl := logRaw_size l
  have hv := varS_size a (by omega)
  refine evPos rfl ?_
  rw [show logB l = (logRaw l, true) from if_pos ⟨l1, ha⟩]
  refine evPos rfl ?_
  by_cases h2 : (logRaw l).size ≤ 15000
  ·have hv2 := varS_size ((logRaw l).size : Int) (by omega)
   rw [if_pos (⟨rfl, h2⟩ : true = true ∧ (logRaw l).size ≤ 15000), show decide (((logRaw l, true) : ByteArray × Bool).1.size > (15000 : Int)) = false by simp; omega]
   refine evSucc ?_
   simp only [spec_SegmentText.j0]
   refine evNeg (by simp) (Ev.bind (ev_spec_l01Var a a0 (by omega)) (evPos (by omega) (Ev.bind (ev_spec_l01Var _ (by omega) (by omega)) (evPos (by rw [sizeApp]; omega) (evPos (by rw [sizeApp, sizeApp]; omega) ?_)))))
   exact Ev.bind (ev_spec_Sealed _ (by rw [sizeApp, sizeApp, sizeApp]; omega)) (Ev.now _)
  ·rw [show decide (((logRaw l, true) : ByteArray × Bool).1.size > (15000 : Int)) = true by simp; omega]
   exact no _ _ (if_neg (fun z => h2 z.2))
theorem ev_impl_SegmentText (a : Int) (b : ByteArray) (l : List S27) (d : ByteArray) : Ev (fun k => impl_SegmentText.f k a b l d) (segTextS a b l d) := by
 have no : ∀ s x, x = (⟨#[]⟩, false) → Ev (fun k => impl_SegmentText.j0 k s true a b l d) x := fun s x hx => by
  subst hx
  refine evSucc ?_
  simp only [impl_SegmentText.j0]
  exact evPos (by simp) (Ev.now _)
 simp only [impl_SegmentText.f]
 refine Ev.bind (ev_impl_LogText l) (Ev.bind (ev_impl_SegmentOk a b l d) ?_)
 unfold segTextS
 cases hs : segB a b l d
 ·exact evNeg (by simp) (no _ _ (if_neg (fun z => by cases z.1)))
 ·obtain ⟨a0, a1, hb, l0, l1, ha, _⟩ := segB_facts hs
  have hl := logRaw_size l
  have hv := varS_size a (by omega)
  refine evPos rfl ?_
  rw [show logB l = (logRaw l, true) from if_pos ⟨l1, ha⟩]
  refine evPos rfl ?_
  by_cases h2 : (logRaw l).size ≤ 15000
  ·have hv2 := varS_size ((logRaw l).size : Int) (by omega)
   rw [if_pos (⟨rfl, h2⟩ : true = true ∧ (logRaw l).size ≤ 15000), show decide (((logRaw l, true) : ByteArray × Bool).1.size > (15000 : Int)) = false by simp; omega]
   refine evSucc ?_
   simp only [impl_SegmentText.j0]
   refine evNeg (by simp) (Ev.bind (ev_impl_VarText_ok a a0 (by omega)) (Ev.bind (ev_impl_ShortText _ (by omega)) (evPos ?_ (evPos ?_ ?_))))
   ·show (varS a).size + _ ≤ _
    omega
   ·show (varS a ++ b).size + (varS _ ++ logRaw l).size ≤ _
    rw [sizeApp, sizeApp]; omega
   ·have e : ((varS a ++ b) ++ varS ((logRaw l).size : Int)) ++ logRaw l = (varS a ++ b) ++ (varS ((logRaw l).size : Int) ++ logRaw l) := ByteArray.append_assoc
    rw [e]
    exact Ev.bind (ev_impl_Sealed ((varS a ++ b) ++ (varS ((logRaw l).size : Int) ++ logRaw l)) (by rw [sizeApp, sizeApp, sizeApp]; omega)) (Ev.now _)
  ·rw [show decide (((logRaw l, true) : ByteArray × Bool).1.size > (15000 : Int)) = true by simp; omega]
   exact no _ _ (if_neg (fun z => h2 z.2))
theorem bt_byte (t : ByteArray) (i : Nat) (h : i < t.size) : bt t (i : Int) = ((t[i]'h).toNat : Int) := by
 unfold bt
 rw [dif_pos (by simpa using h)]
 simp
theorem ext1 (t : ByteArray) (i : Nat) (h : i < t.size) : t.extract i (i + 1) = strOfNums [bt t (i : Int)] := by
 apply ByteArray.ext
 apply Array.ext'
 have hi : i < t.data.toList.length := by rw [← sizeData]; exact h
 rw [ByteArray.data_extract, Array.toList_extract, List.extract_eq_take_drop, List.drop_eq_getElem_cons hi, bt_byte t i h]
 simp [strOfNums]
 rfl
theorem extCat (t : ByteArray) (i j k : Nat) (h1 : i ≤ j) (h2 : j ≤ k) : t.extract i j ++ t.extract j k = t.extract i k := by
 rw [ByteArray.extract_append_extract, Nat.min_eq_left h1, Nat.max_eq_right h2]
theorem numsCat (a b : List Int) : strOfNums a ++ strOfNums b = strOfNums (a ++ b) := by
 apply ByteArray.ext
 simp [strOfNums]
theorem ext2 (t : ByteArray) (i : Nat) (h : i + 2 ≤ t.size) : t.extract i (i + 2) = strOfNums [bt t (i : Int), bt t ((i + 1 : Nat) : Int)] := by
 rw [← extCat t i (i + 1) (i + 2) (by omega) (by omega), ext1 t i (by omega), ext1 t (i + 1) (by omega), numsCat]
 rfl
theorem ext4 (t : ByteArray) (i : Nat) (h : i + 4 ≤ t.size) : t.extract i (i + 4) = strOfNums [bt t (i : Int), bt t ((i + 1 : Nat) : Int), bt t ((i + 2 : Nat) : Int), bt t ((i + 3 : Nat) : Int)] := by
 rw [← extCat t i (i + 2) (i + 4) (by omega) (by omega), ext2 t i (by omega), ext2 t (i + 2) (by omega), numsCat]
 rfl
theorem extAll (t : ByteArray) : t.extract 0 t.size = t := ByteArray.extract_zero_size
theorem catInj {a b c d : ByteArray} (h : a ++ b = c ++ d) (hs : a.size = c.size) : a = c ∧ b = d := by
 have h1 : a.data.toList ++ b.data.toList = c.data.toList ++ d.data.toList := by
  have := congrArg (fun s : ByteArray => s.data.toList) h
  simpa using this
 have hl : a.data.toList.length = c.data.toList.length := by rw [← sizeData, ← sizeData]; exact hs
 obtain ⟨h2, h3⟩ := List.append_inj h1 hl
 exact ⟨ByteArray.ext (Array.ext' h2), ByteArray.ext (Array.ext' h3)⟩
theorem or_add (n m i : Nat) (hn : n < 2 ^ i) (hm : 2 ^ i * m + n < 9223372036854775808) : Go.bits .or .i64 (n : Int) ((m * 2 ^ i : Nat) : Int) = ((2 ^ i * m + n : Nat) : Int) := by
 have hm' : m * 2 ^ i < 18446744073709551616 := by rw [Nat.mul_comm]; omega
 rw [bits_nat]
 show IntKind.wrap .i64 ((BitVec.ofInt 64 (n : Int) ||| BitVec.ofInt 64 ((m * 2 ^ i : Nat) : Int)).toNat : Int) = _
 rw [BitVec.toNat_or, ofInt_nat64 n (by omega), ofInt_nat64 _ hm', wrap_i64, Nat.or_comm, Nat.mul_comm m, ← Nat.two_pow_add_eq_or_of_lt hn, w64 (by omega) (by omega)]
theorem or_comm64 (x y : Int) : Go.bits .or .i64 x y = Go.bits .or .i64 y x := by
 rw [bits_nat, bits_nat]
 show IntKind.wrap .i64 _ = IntKind.wrap .i64 _
 rw [BitVec.or_comm]
theorem or_hi (n m i : Nat) (hn : n < 2 ^ i) (hm : 2 ^ i * m + n < 9223372036854775808) : Go.bits .or .i64 ((m * 2 ^ i : Nat) : Int) (n : Int) = ((2 ^ i * m + n : Nat) : Int) := by
 rw [or_comm64]; exact or_add n m i hn hm
def fourV (t : ByteArray) (i : Int) : Int := (Go.bits .or .i64 (Go.bits .or .i64 (Go.bits .or .i64 (wrap64 ((wrap64 (bt t i)) * 16777216)) (wrap64 ((wrap64 (bt t (i + 1))) * 65536))) (wrap64 ((wrap64 (bt t (i + 2))) * 256))) (wrap64 (bt t (i + 3))))
theorem fourV_eq (t : ByteArray) (i : Int) : fourV t i = bt t i * 16777216 + bt t (i + 1) * 65536 + bt t (i + 2) * 256 + bt t (i + 3) := by
 have h0 := bt_range t i
 have h1 := bt_range t (i + 1)
 have h2 := bt_range t (i + 2)
 have h3 := bt_range t (i + 3)
 unfold fourV
 rw [w64 (x := bt t i) (by omega) (by omega), w64 (x := bt t (i + 1)) (by omega) (by omega), w64 (x := bt t (i + 2)) (by omega) (by omega), w64 (x := bt t (i + 3)) (by omega) (by omega),
  w64 (by omega) (by omega), w64 (by omega) (by omega), w64 (by omega) (by omega)]
 obtain ⟨a, ha⟩ := Int.eq_ofNat_of_zero_le h0.1
 obtain ⟨b, hb⟩ := Int.eq_ofNat_of_zero_le h1.1
 obtain ⟨c, hc⟩ := Int.eq_ofNat_of_zero_le h2.1
 obtain ⟨d, hd⟩ := Int.eq_ofNat_of_zero_le h3.1
 rw [ha, hb, hc, hd]
 have s1 : Go.bits .or .i64 ((a : Int) * 16777216) ((b : Int) * 65536) = (((a * 256 + b) * 2 ^ 16 : Nat) : Int) := by
  have h := or_hi (b * 65536) a 24 (by omega) (by omega)
  rw [show ((a : Int) * 16777216) = ((a * 2 ^ 24 : Nat) : Int) by omega, show ((b : Int) * 65536) = ((b * 65536 : Nat) : Int) by omega, h]
  omega
 have s2 : Go.bits .or .i64 (((a * 256 + b) * 2 ^ 16 : Nat) : Int) ((c : Int) * 256) = (((a * 65536 + b * 256 + c) * 2 ^ 8 : Nat) : Int) := by
  have h := or_hi (c * 256) (a * 256 + b) 16 (by omega) (by omega)
  rw [show ((c : Int) * 256) = ((c * 256 : Nat) : Int) by omega, h]
  omega
 have s3 : Go.bits .or .i64 (((a * 65536 + b * 256 + c) * 2 ^ 8 : Nat) : Int) (d : Int) = ((a * 16777216 + b * 65536 + c * 256 + d : Nat) : Int) := by
  have h := or_hi d (a * 65536 + b * 256 + c) 8 (by omega) (by omega)
  rw [h]
  omega
 rw [s1, s2, s3]
 omega
theorem fourV_rng (t : ByteArray) (i : Int) : 0 ≤ fourV t i ∧ fourV t i < 4294967296 := by
 have h0 := bt_range t i
 have h1 := bt_range t (i + 1)
 have h2 := bt_range t (i + 2)
 have h3 := bt_range t (i + 3)
 rw [fourV_eq]
 omega
theorem four4_fourV (t : ByteArray) (i : Nat) (h : i + 4 ≤ t.size) : four4 (fourV t (i : Int)) = t.extract i (i + 4) := by
 have h0 := bt_range t (i : Int)
 have h1 := bt_range t ((i : Int) + 1)
 have h2 := bt_range t ((i : Int) + 2)
 have h3 := bt_range t ((i : Int) + 3)
 rw [ext4 t i h, fourV_eq]
 unfold four4
 rw [show ((i + 1 : Nat) : Int) = (i : Int) + 1 by omega, show ((i + 2 : Nat) : Int) = (i : Int) + 2 by omega, show ((i + 3 : Nat) : Int) = (i : Int) + 3 by omega]
 rw [show (bt t (i : Int) * 16777216 + bt t ((i : Int) + 1) * 65536 + bt t ((i : Int) + 2) * 256 + bt t ((i : Int) + 3)) / 16777216 % 256 = bt t (i : Int) by omega,
  show (bt t (i : Int) * 16777216 + bt t ((i : Int) + 1) * 65536 + bt t ((i : Int) + 2) * 256 + bt t ((i : Int) + 3)) / 65536 % 256 = bt t ((i : Int) + 1) by omega,
  show (bt t (i : Int) * 16777216 + bt t ((i : Int) + 1) * 65536 + bt t ((i : Int) + 2) * 256 + bt t ((i : Int) + 3)) / 256 % 256 = bt t ((i : Int) + 2) by omega,
  show (bt t (i : Int) * 16777216 + bt t ((i : Int) + 1) * 65536 + bt t ((i : Int) + 2) * 256 + bt t ((i : Int) + 3)) % 256 = bt t ((i : Int) + 3) by omega]
theorem four4_inj {x y : Int} (hx : 0 ≤ x ∧ x < 4294967296) (hy : 0 ≤ y ∧ y < 4294967296) (h : four4 x = four4 y) : x = y := by
 unfold four4 at h
 have key : ∀ (a b : List Int), (∀ z ∈ a, 0 ≤ z ∧ z < 256) → (∀ z ∈ b, 0 ≤ z ∧ z < 256) → strOfNums a = strOfNums b → a = b := by
  intro a b ha hb hab
  have h1 : a.map (fun z => UInt8.ofNat z.toNat) = b.map (fun z => UInt8.ofNat z.toNat) := by
   have := congrArg (fun s : ByteArray => s.data.toList) hab
   simpa [strOfNums] using this
  have h2 : ∀ (l : List Int), (∀ z ∈ l, 0 ≤ z ∧ z < 256) → (l.map (fun z => UInt8.ofNat z.toNat)).map (fun b => (b.toNat : Int)) = l := by
   intro l hl
   rw [List.map_map]
   conv => rhs; rw [← List.map_id l]
   apply List.map_congr_left
   intro z hz
   have := hl z hz
   simp
   omega
  rw [← h2 a ha, ← h2 b hb, h1]
 have := key _ _ (by intro z hz; simp at hz; rcases hz with rfl | rfl | rfl | rfl <;> omega) (by intro z hz; simp at hz; rcases hz with rfl | rfl | rfl | rfl <;> omega) h
 simp at this
 omega
theorem fourAt_impl (t : ByteArray) (i : Int) (h0 : 0 ≤ i) (h1 : i + 4 ≤ (t.size : Int)) (hb : t.size ≤ 140737488351232) : impl_fourAt.f t i = some (fourV t i) := by
 unfold impl_fourAt.f
 rw [w64 (x := i + 1) (by omega) (by omega), w64 (x := i + 2) (by omega) (by omega), w64 (x := i + 3) (by omega) (by omega),
  if_pos (by omega), if_pos (by omega), if_pos (by omega), if_pos (by omega), if_pos (by omega), if_pos (by omega), if_pos (by omega), if_pos (by omega)]
 rfl
theorem fourAt_spec (t : ByteArray) (i : Int) (h0 : 0 ≤ i) (h1 : i + 4 ≤ (t.size : Int)) (hb : t.size ≤ 140737488351232) : spec_l17Four.f t i = some (fourV t i) := by
 unfold spec_l17Four.f
 rw [w64 (x := i + 1) (by omega) (by omega), w64 (x := i + 2) (by omega) (by omega), w64 (x := i + 3) (by omega) (by omega),
  if_pos (by omega), if_pos (by omega), if_pos (by omega), if_pos (by omega), if_pos (by omega), if_pos (by omega), if_pos (by omega), if_pos (by omega)]
 rfl
def unsealS (t : ByteArray) : ByteArray × Bool :=
 if 4 ≤ t.size ∧ t.size ≤ 20004 ∧ t.extract (t.size - 4) t.size = four4 (sumS (t.extract 0 (t.size - 4))) then (t.extract 0 (t.size - 4), true) else (⟨#[]⟩, false)
theorem unsealS_ok {t s : ByteArray} (h : unsealS t = (s, true)) : t = s ++ four4 (sumS s) ∧ s.size ≤ 20000 := by
 unfold unsealS at h
 split at h
 ·rename_i hc
  simp only [Prod.mk.injEq, and_true] at h
  subst h
  refine ⟨?_, by rw [ByteArray.size_extract]; omega⟩
  rw [← hc.2.2, extCat t 0 _ _ (by omega) (by omega), extAll]
 ·simp at h
theorem ev_spec_Unsealed (t : ByteArray) (ht : t.size ≤ 140737488351232) : Ev (fun k => spec_Unsealed.f k t) (unsealS t) := by
 simp only [spec_Unsealed.f]
 unfold unsealS
 rw [w64 (by omega) (by omega)]
 by_cases h1 : t.size < 4
 ·rw [if_neg (by omega)]
  exact evPos (by omega) (Ev.now _)
 by_cases h2 : 20004 < t.size
 ·rw [if_neg (by omega)]
  exact evNeg (by omega) (evPos (by omega) (Ev.now _))
 have e : ((t.size : Int) - 4).toNat = t.size - 4 := by omega
 refine evNeg (by omega) (evNeg (by omega) (evPos (by omega) (evPos (by omega) ?_)))
 rw [e]
 simp only [spec_SumOf.f]
 refine Ev.bind (Ev.bind (ev_spec_SumMore _ _ (by omega) (by rw [ByteArray.size_extract]; omega)) (Ev.now _)) ?_
 simp only [spec_four2, Option.bind_some]
 by_cases h3 : t.extract (t.size - 4) t.size = four4 (sumS (t.extract 0 (t.size - 4)))
 ·exact evEq (evPos (toList_iff.2 h3) (Ev.now _)) (if_pos (show 4 ≤ t.size ∧ t.size ≤ 20004 ∧ _ from ⟨by omega, by omega, h3⟩)).symm
 ·exact evEq (evNeg (fun z => h3 (toList_iff.1 z)) (Ev.now _)) (if_neg (fun z => h3 z.2.2)).symm
theorem ev_impl_Unsealed (t : ByteArray) (ht : t.size ≤ 140737488351232) : Ev (fun k => impl_Unsealed.f k t) (unsealS t) := by
 simp only [impl_Unsealed.f, impl_in, Option.bind_some]
 unfold unsealS
 rw [w64 (by omega) (by omega)]
 by_cases h1 : t.size < 4
 ·rw [if_neg (by omega), show rng ((t.size : Int) - 4) 0 20000 = false by unfold rng; simp; omega]
  exact evNeg (by simp) (Ev.now _)
 by_cases h2 : 20004 < t.size
 ·rw [if_neg (by omega), show rng ((t.size : Int) - 4) 0 20000 = false by unfold rng; simp; omega]
  exact evNeg (by simp) (Ev.now _)
 have e : ((t.size : Int) - 4).toNat = t.size - 4 := by omega
 have e2 : ((t.size : Int) - 4) = ((t.size - 4 : Nat) : Int) := by omega
 rw [show rng ((t.size : Int) - 4) 0 20000 = true by unfold rng; simp; omega]
 refine evPos rfl (evPos (by omega) (evPos (by omega) ?_))
 rw [e]
 simp only [impl_SumOf.f]
 refine Ev.bind (Ev.bind (ev_impl_SumMore _ _ (by omega) (by rw [ByteArray.size_extract]; omega)) (Ev.now _)) ?_
 rw [fourAt_impl t _ (by omega) (by omega) ht, show sumAll 4294967295 (t.extract 0 (t.size - 4)) (t.extract 0 (t.size - 4)).size = sumS (t.extract 0 (t.size - 4)) from rfl]
 simp only [Option.bind_some]
 have hr := sumS_rng (t.extract 0 (t.size - 4))
 have h4 := four4_fourV t (t.size - 4) (by omega)
 rw [show t.size - 4 + 4 = t.size by omega] at h4
 rw [w64 (by omega) (by omega), e2]
 by_cases h3 : t.extract (t.size - 4) t.size = four4 (sumS (t.extract 0 (t.size - 4)))
 ·refine evEq (evPos ?_ (Ev.now _)) (if_pos (show 4 ≤ t.size ∧ t.size ≤ 20004 ∧ _ from ⟨by omega, by omega, h3⟩)).symm
  exact four4_inj hr (fourV_rng _ _) (by rw [h4, h3])
 ·exact evEq (evNeg (fun z => h3 (by rw [← h4, ← z])) (Ev.now _)) (if_neg (fun z => h3 z.2.2)).symm
def rvGo (t : ByteArray) (a : Int) : Nat → Int → Nat → Int × Int × Bool
 | 0, _, _ => (0, 0, false)
 | d + 1, n, i =>
  if a + i < t.size then
   (if bt t (a + i) < 128 then
    (if n + bt t (a + i) * (128 ^ i : Nat) ≤ 1000000000 ∧ varS (n + bt t (a + i) * (128 ^ i : Nat)) = t.extract a.toNat (a.toNat + i + 1) then (n + bt t (a + i) * (128 ^ i : Nat), a + i + 1, true) else (0, 0, false))
   else rvGo t a d (n + (bt t (a + i) - 128) * (128 ^ i : Nat)) (i + 1))
  else (0, 0, false)
def readVarS (t : ByteArray) (a : Int) : Int × Int × Bool := if 0 ≤ a ∧ a ≤ t.size then rvGo t a 5 0 0 else (0, 0, false)
theorem rvGo_ok (t : ByteArray) (a : Int) (ha : 0 ≤ a) {x e : Int} : ∀ d n i, 0 ≤ n → rvGo t a d n i = (x, e, true) → 0 ≤ x ∧ x ≤ 1000000000 ∧ a < e ∧ e ≤ t.size ∧ e ≤ a + i + d ∧ varS x = t.extract a.toNat e.toNat := by
 intro d
 induction d with
 | zero => intro n i _ h; simp [rvGo] at h
 | succ d ih =>
  intro n i hn h
  have hb := bt_range t (a + i)
  unfold rvGo at h
  split at h
  ·split at h
   ·split at h
    ·rename_i h1 _ h2
     simp only [Prod.mk.injEq, and_true] at h
     obtain ⟨rfl, rfl⟩ := h
     refine ⟨?_, h2.1, by omega, by omega, by omega, ?_⟩
     ·have := Int.mul_nonneg hb.1 (Int.natCast_nonneg (128 ^ i))
      omega
     ·rw [h2.2]
      congr 1
      omega
    ·simp at h
   ·obtain ⟨y1, y2, y3, y4, y5, y6⟩ := ih _ _ (by have := Int.mul_nonneg (show (0 : Int) ≤ bt t (a + i) - 128 by omega) (Int.natCast_nonneg (128 ^ i)); omega) h
    exact ⟨y1, y2, y3, y4, by omega, y6⟩
  ·simp at h
theorem readVarS_ok {t : ByteArray} {a x e : Int} (h : readVarS t a = (x, e, true)) : 0 ≤ a ∧ 0 ≤ x ∧ x ≤ 1000000000 ∧ a < e ∧ e ≤ t.size ∧ e ≤ a + 5 ∧ varS x = t.extract a.toNat e.toNat := by
 unfold readVarS at h
 split at h
 ·rename_i hc
  have := rvGo_ok t a hc.1 5 0 0 (Int.le_refl _) h
  exact ⟨hc.1, this.1, this.2.1, this.2.2.1, this.2.2.2.1, by omega, this.2.2.2.2.2⟩
 ·simp at h
theorem pow128 (i : Nat) (h : i ≤ 4) : 1 ≤ 128 ^ i ∧ 128 ^ i ≤ 268435456 ∧ 2 ^ (7 * i) = 128 ^ i := by
 refine ⟨Nat.pow_pos (by omega), ?_, by rw [Nat.pow_mul]⟩
 exact Nat.pow_le_pow_right (by omega) h
theorem and_u8_127 (x : Int) (h0 : 0 ≤ x) (h1 : x ≤ 255) : Go.bits .and .u8 x 127 = x % 128 := by
 obtain ⟨n, rfl⟩ := Int.eq_ofNat_of_zero_le h0
 rw [bits_nat]
 show IntKind.wrap .u8 ((BitVec.ofInt 8 (n : Int) &&& BitVec.ofInt 8 ((127 : Nat) : Int)).toNat : Int) = _
 rw [BitVec.toNat_and, show (BitVec.ofInt 8 (n : Int)).toNat = n by rw [BitVec.toNat_ofInt]; omega, show (BitVec.ofInt 8 ((127 : Nat) : Int)).toNat = 127 by decide]
 have : n &&& 127 = n % 128 := Nat.and_two_pow_sub_one_eq_mod n 7
 rw [this]
 show ((n % 128 : Nat) : Int) % 256 = _
 omega
theorem or_var (n b : Int) (i : Nat) (hi : i ≤ 4) (hn : 0 ≤ n) (hn2 : n < (128 ^ i : Nat)) (h0 : 0 ≤ b) (h1 : b ≤ 255) :
 Go.bits .or .i64 n (shl .i64 (wrap64 (Go.bits .and .u8 b 127)) (wrap64 (7 * (i : Int)))) = n + (b % 128) * (128 ^ i : Nat) := by
 obtain ⟨p1, p2, p3⟩ := pow128 i hi
 rw [and_u8_127 b h0 h1, w64 (x := b % 128) (by omega) (by omega), w64 (x := 7 * (i : Int)) (by omega) (by omega)]
 obtain ⟨m, rfl⟩ := Int.eq_ofNat_of_zero_le hn
 obtain ⟨c, hc⟩ := Int.eq_ofNat_of_zero_le (show 0 ≤ b % 128 by omega)
 have hcb : c < 128 := by omega
 rw [hc]
 have hle : c * 128 ^ i ≤ 127 * 268435456 := Nat.mul_le_mul (by omega) p2
 unfold shl
 rw [show min (7 * (i : Int)).toNat (IntKind.bits .i64) = 7 * i by show min _ 64 = _; omega, i64_w]
 rw [show (c : Int) * 2 ^ (7 * i) = ((c * 2 ^ (7 * i) : Nat) : Int) by rw [Int.natCast_mul, Int.natCast_pow]; rfl, p3, w64 (by omega) (by omega)]
 have := or_add m c (7 * i) (by rw [p3]; omega) (by rw [p3, Nat.mul_comm]; omega)
 rw [p3] at this
 rw [this, Nat.mul_comm, Int.natCast_add, Int.natCast_mul]
 omega
theorem mulPow (c : Int) (i : Nat) (hi : i ≤ 4) (h0 : 0 ≤ c) (h1 : c ≤ 127) : 0 ≤ c * (128 ^ i : Nat) ∧ c * (128 ^ i : Nat) ≤ 127 * (128 ^ i : Nat) ∧ c * (128 ^ i : Nat) ≤ 34091302912 := by
 obtain ⟨p1, p2, _⟩ := pow128 i hi
 have h2 : c * (128 ^ i : Nat) ≤ 127 * (128 ^ i : Nat) := Int.mul_le_mul_of_nonneg_right h1 (by omega)
 exact ⟨Int.mul_nonneg h0 (by omega), h2, by omega⟩
theorem powSucc (i : Nat) : ((128 ^ (i + 1) : Nat) : Int) = 128 * ((128 ^ i : Nat) : Int) := by rw [Nat.pow_succ]; omega
theorem ev_impl_rv (t : ByteArray) (a : Int) (ht : t.size ≤ 140737488351232) (ha : 0 ≤ a) (hb : a ≤ t.size) :
 ∀ (d i : Nat) (n : Int), i + d = 5 → 0 ≤ n → n < (128 ^ i : Nat) → Ev (fun k => impl_ReadVar.l0 k t a n (i : Int)) (rvGo t a d n i) := by
 intro d
 induction d with
 | zero =>
  intro i n hi _ _
  refine evSucc ?_
  simp only [impl_ReadVar.l0]
  refine evNeg (by omega) (evSucc ?_)
  simp only [impl_ReadVar.j1]
  exact evNeg (by simp) (Ev.now _)
 | succ d ih =>
  intro i n hi hn hn2
  have hr := bt_range t (a + i)
  obtain ⟨p1, p2, p3⟩ := pow128 i (by omega)
  refine evSucc ?_
  simp only [impl_ReadVar.l0]
  refine evPos (by omega) (evSucc ?_)
  simp only [impl_ReadVar.j1]
  rw [w64 (x := a + (i : Int)) (by omega) (by omega)]
  unfold rvGo
  by_cases h1 : a + i < t.size
  ·rw [if_pos h1]
   refine evPos (by simpa using h1) (evPos (by omega) (evPos h1 (evPos (by rw [w64 (by omega) (by omega)]; omega) ?_)))
   rw [or_var n (bt t (a + i)) i (by omega) hn hn2 hr.1 hr.2]
   by_cases h2 : bt t (a + i) < 128
   ·rw [if_pos h2, show bt t (a + i) % 128 = bt t (a + i) by omega]
    have hm := mulPow (bt t (a + i)) i (by omega) hr.1 (by omega)
    have hx : 0 ≤ n + bt t (a + i) * (128 ^ i : Nat) ∧ n + bt t (a + i) * (128 ^ i : Nat) ≤ 40000000000 := by omega
    generalize n + bt t (a + i) * (128 ^ i : Nat) = x at hx ⊢
    refine evNeg (by omega) ?_
    rw [w64 (x := a + (i : Int) + 1) (by omega) (by omega)]
    by_cases hc : x ≤ 1000000000
    ·refine Ev.bind (ev_impl_VarText_ok x hx.1 hc) (evPos rfl (evPos ha (evPos (by omega) (evPos (by omega) ?_))))
     rw [show (a + (i : Int) + 1).toNat = a.toNat + i + 1 by omega]
     show Ev (fun k => if (varS x).toList = _ then _ else _) _
     by_cases hv : varS x = t.extract a.toNat (a.toNat + i + 1)
     ·exact evEq (evPos (toList_iff.2 hv) (Ev.now _)) (if_pos ⟨hc, hv⟩).symm
     ·exact evEq (evNeg (fun z => hv (toList_iff.1 z)) (Ev.now _)) (if_neg (fun z => hv z.2)).symm
    ·rw [if_neg (fun z => hc z.1)]
     refine Ev.bind (evEq (ev_impl_VarText x) (if_neg (by unfold rng; simp; omega))) ?_
     exact evNeg (by simp) (Ev.now _)
   ·rw [if_neg h2, show bt t (a + i) % 128 = bt t (a + i) - 128 by omega, w64 (x := (i : Int) + 1) (by omega) (by omega), ci]
    refine evPos (by omega) ?_
    have hm := mulPow (bt t (a + i) - 128) i (by omega) (by omega) (by omega)
    exact ih (i + 1) _ (by omega) (by omega) (by rw [powSucc]; omega)
  ·rw [if_neg h1]
   exact evNeg (by simpa using h1) (Ev.now _)
theorem ev_impl_ReadVar (t : ByteArray) (a : Int) (ht : t.size ≤ 140737488351232) : Ev (fun k => impl_ReadVar.f k t a) (readVarS t a) := by
 simp only [impl_ReadVar.f, impl_in, Option.bind_some]
 unfold readVarS
 by_cases h : 0 ≤ a ∧ a ≤ t.size
 ·rw [if_pos h, show rng a 0 (t.size : Int) = true by unfold rng; simp; omega]
  refine evPos rfl ?_
  exact ev_impl_rv t a ht h.1 h.2 5 0 0 (by omega) (by omega) (by decide)
 ·rw [if_neg h, show rng a 0 (t.size : Int) = false by unfold rng; simp; omega]
  exact evNeg (by simp) (Ev.now _)
theorem ev_spec_rv (t : ByteArray) (a : Int) (ht : t.size ≤ 140737488351232) (ha : 0 ≤ a) (hb : a ≤ t.size) :
 ∀ (d i : Nat) (n : Int), i + d = 5 → 0 ≤ n → n < (128 ^ i : Nat) → Ev (fun k => spec_ReadVar.l0 k t a n ((128 ^ i : Nat) : Int) (a + (i : Int))) (rvGo t a d n i) := by
 intro d
 induction d with
 | zero =>
  intro i n hi _ _
  refine evSucc ?_
  simp only [spec_ReadVar.l0]
  have no : Ev (fun k => spec_ReadVar.j1 k t a n ((128 ^ i : Nat) : Int) (a + (i : Int)) false) (rvGo t a 0 n i) := by
   refine evSucc ?_
   simp only [spec_ReadVar.j1]
   exact evNeg (by simp) (Ev.now _)
  rw [show decide (a + (i : Int) < wrap64 (a + 5)) = false by rw [w64 (by omega) (by omega)]; simp; omega]
  by_cases h : a + (i : Int) < t.size
  ·exact evPos h no
  ·exact evNeg h no
 | succ d ih =>
  intro i n hi hn hn2
  have hr := bt_range t (a + i)
  obtain ⟨p1, p2, p3⟩ := pow128 i (by omega)
  refine evSucc ?_
  simp only [spec_ReadVar.l0]
  rw [show decide (a + (i : Int) < wrap64 (a + 5)) = true by rw [w64 (by omega) (by omega)]; simp; omega]
  unfold rvGo
  by_cases h1 : a + i < t.size
  ·rw [if_pos h1]
   refine evPos h1 (evSucc ?_)
   simp only [spec_ReadVar.j1]
   refine evPos (by simp) (evPos (by omega) (evPos h1 ?_))
   rw [w64 (x := bt t (a + i)) (by omega) (by omega), Int.tmod_eq_emod_of_nonneg hr.1]
   have hm := mulPow (bt t (a + i) % 128) i (by omega) (by omega) (by omega)
   rw [w64 (x := bt t (a + i) % 128 * (128 ^ i : Nat)) (by omega) (by omega), w64 (x := n + bt t (a + i) % 128 * (128 ^ i : Nat)) (by omega) (by omega)]
   by_cases h2 : bt t (a + i) < 128
   ·rw [if_pos h2]
    rw [show bt t (a + i) % 128 = bt t (a + i) by omega] at hm ⊢
    have hx : 0 ≤ n + bt t (a + i) * (128 ^ i : Nat) ∧ n + bt t (a + i) * (128 ^ i : Nat) ≤ 40000000000 := by omega
    generalize n + bt t (a + i) * (128 ^ i : Nat) = x at hx ⊢
    refine evPos h2 ?_
    rw [w64 (x := a + (i : Int) + 1) (by omega) (by omega)]
    by_cases hc : x ≤ 1000000000
    ·refine evNeg (by omega) (Ev.bind (ev_spec_l01Var x hx.1 hc) (evPos ha (evPos (by omega) (evPos (by omega) ?_))))
     rw [show (a + (i : Int) + 1).toNat = a.toNat + i + 1 by omega]
     by_cases hv : varS x = t.extract a.toNat (a.toNat + i + 1)
     ·exact evEq (evPos (toList_iff.2 hv) (Ev.now _)) (if_pos ⟨hc, hv⟩).symm
     ·exact evEq (evNeg (fun z => hv (toList_iff.1 z)) (Ev.now _)) (if_neg (fun z => hv z.2)).symm
    ·rw [if_neg (fun z => hc z.1)]
     exact evPos (by omega) (Ev.now _)
   ·rw [if_neg h2]
    rw [show bt t (a + i) % 128 = bt t (a + i) - 128 by omega] at hm ⊢
    rw [w64 (x := a + (i : Int) + 1) (by omega) (by omega), w64 (x := ((128 ^ i : Nat) : Int) * 128) (by omega) (by omega)]
    refine evNeg h2 ?_
    have := ih (i + 1) (n + (bt t (a + i) - 128) * (128 ^ i : Nat)) (by omega) (by omega) (by rw [powSucc]; omega)
    rw [powSucc, show a + ((i + 1 : Nat) : Int) = a + (i : Int) + 1 by omega, Int.mul_comm 128] at this
    exact this
  ·rw [if_neg h1]
   refine evNeg h1 (evSucc ?_)
   simp only [spec_ReadVar.j1]
   exact evNeg (by simp) (Ev.now _)
theorem ev_spec_ReadVar (t : ByteArray) (a : Int) (ht : t.size ≤ 140737488351232) : Ev (fun k => spec_ReadVar.f k t a) (readVarS t a) := by
 simp only [spec_ReadVar.f, spec_in, Option.bind_some]
 unfold readVarS
 by_cases h : 0 ≤ a ∧ a ≤ t.size
 ·rw [if_pos h, show rng a 0 (t.size : Int) = true by unfold rng; simp; omega]
  refine evPos rfl ?_
  have := ev_spec_rv t a ht h.1 h.2 5 0 0 (by omega) (by omega) (by decide)
  rw [show a + ((0 : Nat) : Int) = a by omega] at this
  exact this
 ·rw [if_neg h, show rng a 0 (t.size : Int) = false by unfold rng; simp; omega]
  exact evNeg (by simp) (Ev.now _)
def noFrame : Int × Int × Int × Int × Int × Int × Int × Bool := (0, 0, 0, 0, 0, 0, 0, false)
def rfIn (s : ByteArray) : Int × Int × Int × Int × Int × Int × Int × Bool :=
 if 2 ≤ s.size then
  if (readVarS s 2).2.2 = true ∧ (readVarS s 2).2.1 + 9 ≤ s.size then
   if (readVarS s ((readVarS s 2).2.1 + 9)).2.2 = true ∧ (readVarS s ((readVarS s 2).2.1 + 9)).2.1 = s.size ∧
    frameB (bt s 0) (bt s 1) (readVarS s 2).1 (bt s (readVarS s 2).2.1) (fourV s ((readVarS s 2).2.1 + 1)) (fourV s ((readVarS s 2).2.1 + 5)) (readVarS s ((readVarS s 2).2.1 + 9)).1 = true then
    (bt s 0, bt s 1, (readVarS s 2).1, bt s (readVarS s 2).2.1, fourV s ((readVarS s 2).2.1 + 1), fourV s ((readVarS s 2).2.1 + 5), (readVarS s ((readVarS s 2).2.1 + 9)).1, true)
   else noFrame
  else noFrame
 else noFrame
def readFrameS (t : ByteArray) : Int × Int × Int × Int × Int × Int × Int × Bool := if (unsealS t).2 = true then rfIn (unsealS t).1 else noFrame
theorem raw_read (s : ByteArray) (seq at_ count e : Int) (h2 : 2 ≤ s.size) (hv : readVarS s 2 = (seq, at_, true)) (h9 : at_ + 9 ≤ s.size) (hc : readVarS s (at_ + 9) = (count, e, true)) :
 frameRaw (bt s 0) (bt s 1) seq (bt s at_) (fourV s (at_ + 1)) (fourV s (at_ + 5)) count = s.extract 0 e.toNat := by
 obtain ⟨_, _, _, q1, q2, _, q3⟩ := readVarS_ok hv
 obtain ⟨_, _, _, r1, r2, _, r3⟩ := readVarS_ok hc
 have b0 := bt_range s 0
 have b1 := bt_range s 1
 have ba := bt_range s at_
 obtain ⟨m, rfl⟩ := Int.eq_ofNat_of_zero_le (show 0 ≤ at_ by omega)
 unfold frameRaw
 rw [show bt s 0 % 256 = bt s 0 by omega, show bt s 1 % 256 = bt s 1 by omega, show bt s (m : Int) % 256 = bt s (m : Int) by omega]
 have e2 := ext2 s 0 (by omega)
 rw [show ((0 : Nat) : Int) = 0 from rfl, show ((0 + 1 : Nat) : Int) = 1 from rfl] at e2
 rw [← e2, ← ext1 s m (by omega), q3, r3]
 have f1 := four4_fourV s (m + 1) (by omega)
 have f2 := four4_fourV s (m + 5) (by omega)
 rw [show ((m + 1 : Nat) : Int) = (m : Int) + 1 by omega] at f1
 rw [show ((m + 5 : Nat) : Int) = (m : Int) + 5 by omega] at f2
 rw [f1, f2, show ((2 : Int)).toNat = 2 from rfl, show ((m : Int) + 9).toNat = m + 9 by omega, show ((m : Int)).toNat = m by omega]
 rw [extCat s 0 2 m (by omega) (by omega), extCat s 0 m (m + 1) (by omega) (by omega), extCat s 0 (m + 1) (m + 1 + 4) (by omega) (by omega), extCat s 0 (m + 5) (m + 5 + 4) (by omega) (by omega), extCat s 0 (m + 9) e.toNat (by omega) (by omega)]
theorem readFrameS_ok {t : ByteArray} {a b c d e f g : Int} (h : readFrameS t = (a, b, c, d, e, f, g, true)) : frameS a b c d e f g = (t, true) := by
 unfold readFrameS at h
 split at h
 ·rename_i hu
  obtain ⟨s, hs⟩ : ∃ s, unsealS t = (s, true) := ⟨_, Prod.ext rfl hu⟩
  rw [hs] at h
  unfold rfIn at h
  split at h
  ·rename_i h2
   split at h
   ·rename_i h3
    split at h
    ·rename_i h4
     obtain ⟨seq, at_, hv⟩ : ∃ x y, readVarS s 2 = (x, y, true) := ⟨_, _, Prod.ext rfl (Prod.ext rfl h3.1)⟩
     simp only [hv] at h h3 h4
     obtain ⟨count, e', hc⟩ : ∃ x y, readVarS s (at_ + 9) = (x, y, true) := ⟨_, _, Prod.ext rfl (Prod.ext rfl h4.1)⟩
     simp only [hc] at h h4
     have hraw := raw_read s seq at_ count e' h2 hv h3.2 hc
     simp only [Prod.mk.injEq, and_true] at h
     obtain ⟨rfl, rfl, rfl, rfl, rfl, rfl, rfl⟩ := h
     unfold frameS
     rw [if_pos h4.2.2, hraw, h4.2.1, Int.toNat_natCast, extAll, ← (unsealS_ok hs).1]
    ·simp [noFrame] at h
   ·simp [noFrame] at h
  ·simp [noFrame] at h
 ·simp [noFrame] at h
theorem ev_impl_ReadFrame (t : ByteArray) (ht : t.size ≤ 140737488351232) : Ev (fun k => impl_ReadFrame.f k t) (readFrameS t) := by
 have no : ∀ s, Ev (fun k => impl_ReadFrame.j0 k s true) noFrame := fun s => by
  refine evSucc ?_
  simp only [impl_ReadFrame.j0]
  exact evPos (by simp) (Ev.now _)
 simp only [impl_ReadFrame.f]
 refine Ev.bind (ev_impl_Unsealed t ht) ?_
 unfold readFrameS
 cases hu : (unsealS t).2
 ·exact evNeg (by simp) (evEq (no _) (if_neg (by simp)).symm)
 ·rw [if_pos rfl]
  refine evPos rfl ?_
  have hs : (unsealS t).1.size ≤ 20000 := (unsealS_ok (t := t) (s := (unsealS t).1) (Prod.ext rfl hu)).2
  generalize (unsealS t).1 = s at hs ⊢
  unfold rfIn
  by_cases h2 : 2 ≤ s.size
  ·rw [if_pos h2, show decide ((s.size : Int) < 2) = false by simp; omega]
   refine evSucc ?_
   simp only [impl_ReadFrame.j0]
   refine evNeg (by simp) (Ev.bind (ev_impl_ReadVar s 2 (by omega)) ?_)
   have no1 : ∀ x y, Ev (fun k => impl_ReadFrame.j1 k s x y true) noFrame := fun x y => by
    refine evSucc ?_
    simp only [impl_ReadFrame.j1]
    exact evPos (by simp) (Ev.now _)
   cases hv : (readVarS s 2).2.2
   ·rw [if_neg (by simp)]
    exact evNeg (by simp) (no1 _ _)
   ·obtain ⟨seq, at_, hv'⟩ : ∃ x y, readVarS s 2 = (x, y, true) := ⟨_, _, Prod.ext rfl (Prod.ext rfl hv)⟩
    obtain ⟨_, _, _, q1, q2, _, q3⟩ := readVarS_ok hv'
    rw [hv']
    refine evPos rfl ?_
    simp only [true_and]
    rw [w64 (x := (s.size : Int) - at_) (by omega) (by omega)]
    by_cases h9 : at_ + 9 ≤ s.size
    ·rw [if_pos h9, show decide ((s.size : Int) - at_ < 9) = false by simp; omega]
     refine evSucc ?_
     simp only [impl_ReadFrame.j1]
     rw [w64 (x := at_ + 9) (by omega) (by omega), w64 (x := at_ + 1) (by omega) (by omega), w64 (x := at_ + 5) (by omega) (by omega)]
     refine evNeg (by simp) (Ev.bind (ev_impl_ReadVar s (at_ + 9) (by omega)) (evPos (by omega) (evPos (by omega) (evPos (by omega) (evPos (by omega) ?_)))))
     have b0 := bt_range s 0
     have b1 := bt_range s 1
     have ba := bt_range s at_
     rw [fourAt_impl s (at_ + 1) (by omega) (by omega) (by omega), fourAt_impl s (at_ + 5) (by omega) (by omega) (by omega), w64 (x := bt s 0) (by omega) (by omega), w64 (x := bt s 1) (by omega) (by omega), w64 (x := bt s at_) (by omega) (by omega)]
     simp only [Option.bind_some]
     cases hc : (readVarS s (at_ + 9)).2.2
     ·exact evEq (evNeg (by simp) (Ev.now _)) (if_neg (fun z => by cases z.1)).symm
     ·refine evPos rfl ?_
      by_cases he : (readVarS s (at_ + 9)).2.1 = s.size
      ·refine evPos he (Ev.bind (ev_impl_FrameOk _ _ _ _ _ _ _) ?_)
       cases hf : frameB (bt s 0) (bt s 1) seq (bt s at_) (fourV s (at_ + 1)) (fourV s (at_ + 5)) (readVarS s (at_ + 9)).1
       ·exact evEq (evNeg (by simp) (Ev.now _)) (if_neg (fun z => by cases z.2.2)).symm
       ·exact evEq (evPos rfl (Ev.now _)) (if_pos ⟨rfl, he, rfl⟩).symm
      ·rw [if_neg (fun z => he z.2.1)]
       exact evNeg he (Ev.now _)
    ·rw [if_neg h9, show decide ((s.size : Int) - at_ < 9) = true by simp; omega]
     exact no1 _ _
  ·rw [if_neg h2, show decide ((s.size : Int) < 2) = true by simp; omega]
   exact no _
theorem ev_spec_ReadFrame (t : ByteArray) (ht : t.size ≤ 140737488351232) : Ev (fun k => spec_ReadFrame.f k t) (readFrameS t) := by
 have no : ∀ s, Ev (fun k => spec_ReadFrame.j0 k t s true) noFrame := fun s => by
  refine evSucc ?_
  simp only [spec_ReadFrame.j0]
  exact evPos (by simp) (Ev.now _)
 simp only [spec_ReadFrame.f]
 refine Ev.bind (ev_spec_Unsealed t ht) ?_
 unfold readFrameS
 cases hu : (unsealS t).2
 ·exact evNeg (by simp) (evEq (no _) (if_neg (by simp)).symm)
 ·rw [if_pos rfl]
  refine evPos rfl ?_
  obtain ⟨hts, hs⟩ := unsealS_ok (t := t) (s := (unsealS t).1) (Prod.ext rfl hu)
  generalize (unsealS t).1 = s at hts hs ⊢
  unfold rfIn
  by_cases h2 : 2 ≤ s.size
  ·rw [if_pos h2, show decide ((s.size : Int) < 2) = false by simp; omega]
   refine evSucc ?_
   simp only [spec_ReadFrame.j0]
   refine evNeg (by simp) (Ev.bind (ev_spec_ReadVar s 2 (by omega)) ?_)
   have no1 : ∀ x y, Ev (fun k => spec_ReadFrame.j1 k t s x y true) noFrame := fun x y => by
    refine evSucc ?_
    simp only [spec_ReadFrame.j1]
    exact evPos (by simp) (Ev.now _)
   cases hv : (readVarS s 2).2.2
   ·rw [if_neg (by simp)]
    exact evNeg (by simp) (no1 _ _)
   ·obtain ⟨seq, at_, hv'⟩ : ∃ x y, readVarS s 2 = (x, y, true) := ⟨_, _, Prod.ext rfl (Prod.ext rfl hv)⟩
    obtain ⟨_, _, _, q1, q2, _, q3⟩ := readVarS_ok hv'
    rw [hv']
    refine evPos rfl ?_
    simp only [true_and]
    rw [w64 (x := (s.size : Int) - at_) (by omega) (by omega)]
    by_cases h9 : at_ + 9 ≤ s.size
    ·rw [if_pos h9, show decide ((s.size : Int) - at_ < 9) = false by simp; omega]
     refine evSucc ?_
     simp only [spec_ReadFrame.j1]
     rw [w64 (x := at_ + 9) (by omega) (by omega), w64 (x := at_ + 1) (by omega) (by omega), w64 (x := at_ + 5) (by omega) (by omega)]
     refine evNeg (by simp) (Ev.bind (ev_spec_ReadVar s (at_ + 9) (by omega)) (evPos (by omega) (evPos (by omega) (evPos (by omega) (evPos (by omega) ?_)))))
     have b0 := bt_range s 0
     have b1 := bt_range s 1
     have ba := bt_range s at_
     rw [fourAt_spec s (at_ + 1) (by omega) (by omega) (by omega), fourAt_spec s (at_ + 5) (by omega) (by omega) (by omega), w64 (x := bt s 0) (by omega) (by omega), w64 (x := bt s 1) (by omega) (by omega), w64 (x := bt s at_) (by omega) (by omega)]
     simp only [Option.bind_some]
     refine Ev.bind (ev_spec_FrameText _ _ _ _ _ _ _) ?_
     cases hc : (readVarS s (at_ + 9)).2.2
     ·exact evEq (evNeg (by simp) (Ev.now _)) (if_neg (fun z => by cases z.1)).symm
     ·obtain ⟨count, e', hc'⟩ : ∃ x y, readVarS s (at_ + 9) = (x, y, true) := ⟨_, _, Prod.ext rfl (Prod.ext rfl hc)⟩
      obtain ⟨_, _, _, r1, r2, _, r3⟩ := readVarS_ok hc'
      have hraw := raw_read s seq at_ count e' h2 hv' h9 hc'
      rw [hc']
      refine evPos rfl ?_
      unfold frameS
      cases hf : frameB (bt s 0) (bt s 1) seq (bt s at_) (fourV s (at_ + 1)) (fourV s (at_ + 5)) count
      ·exact evEq (evNeg (by simp) (Ev.now _)) (if_neg (fun z => by cases z.2.2)).symm
      ·refine evPos rfl ?_
       by_cases he : e' = s.size
       ·refine evEq (evPos ?_ (Ev.now _)) (if_pos ⟨rfl, he, rfl⟩).symm
        rw [if_pos rfl, hraw, he, Int.toNat_natCast, extAll, hts]
       ·refine evEq (evNeg (fun z => ?_) (Ev.now _)) (if_neg (fun z => he z.2.1)).symm
        rw [if_pos rfl, hraw] at z
        have hz := congrArg ByteArray.size (toList_inj z)
        rw [hts, sizeApp, sizeApp, four4_size, four4_size, ByteArray.size_extract] at hz
        omega
    ·rw [if_neg h9, show decide ((s.size : Int) - at_ < 9) = true by simp; omega]
     exact no1 _ _
  ·rw [if_neg h2, show decide ((s.size : Int) < 2) = true by simp; omega]
   exact no _
theorem dataApp (a b : ByteArray) : (a ++ b).data.toList = a.data.toList ++ b.data.toList := by simp
theorem ext_mid (p s q : ByteArray) : ((p ++ s) ++ q).extract p.size (p.size + s.size) = s := by
 apply ByteArray.ext
 apply Array.ext'
 rw [ByteArray.data_extract, Array.toList_extract, List.extract_eq_take_drop, dataApp, dataApp, List.append_assoc, sizeData p, sizeData s, List.drop_left, Nat.add_sub_cancel_left, List.take_left]
theorem bt_list (s : ByteArray) (i : Nat) : bt s (i : Int) = ((s.data.toList[i]?).map (fun b => (b.toNat : Int))).getD 0 := by
 by_cases h : i < s.size
 ·rw [bt_byte s i h]
  have hl : i < s.data.toList.length := by rw [← sizeData]; exact h
  rw [List.getElem?_eq_getElem hl]
  rfl
 ·unfold bt
  rw [dif_neg (by simpa using h), List.getElem?_eq_none (by rw [← sizeData]; omega)]
  rfl
theorem bt_left (p q : ByteArray) (i : Nat) (h : i < p.size) : bt (p ++ q) (i : Int) = bt p (i : Int) := by
 rw [bt_list, bt_list, dataApp, List.getElem?_append_left (by rw [← sizeData]; exact h)]
theorem bt_right (p q : ByteArray) (i : Nat) : bt (p ++ q) ((p.size + i : Nat) : Int) = bt q (i : Int) := by
 rw [bt_list, bt_list, dataApp, List.getElem?_append_right (by rw [← sizeData]; omega), sizeData p, Nat.add_sub_cancel_left]
theorem bt_nums (l : List Int) (i : Nat) (hi : i < l.length) (h : ∀ x ∈ l, 0 ≤ x ∧ x < 256) : bt (strOfNums l) (i : Int) = l[i] := by
 have e : (strOfNums l).data.toList = l.map (fun z => UInt8.ofNat z.toNat) := by simp [strOfNums]
 have hx := h _ (List.getElem_mem hi)
 rw [bt_list, e, List.getElem?_map, List.getElem?_eq_getElem hi]
 simp
 omega
theorem varL_rng (n : Nat) : ∀ x ∈ varL n, 0 ≤ x ∧ x < 256 := by
 induction n using Nat.strongRecOn with
 | ind n ih =>
  intro x hx
  by_cases h : n ≤ 127
  ·rw [varL_small n h] at hx
   rw [List.mem_singleton.1 hx]; omega
  ·rw [varL_big n (by omega)] at hx
   rcases List.mem_cons.1 hx with rfl | hx
   ·omega
   ·exact ih _ (by omega) x hx
theorem readVar_back (p q : ByteArray) (N : Nat) (hN : N ≤ 1000000000) : readVarS ((p ++ varS (N : Int)) ++ q) (p.size : Int) = ((N : Int), ((p.size + (varS (N : Int)).size : Nat) : Int), true) := by
 have hv : varS (N : Int) = strOfNums (varL N) := by unfold varS; rw [Int.toNat_natCast]
 have hsz : (varS (N : Int)).size = (varL N).length := by rw [hv, strOfNums_size]
 have key : ∀ (m : Nat) (i d : Nat) (n : Nat) (pre : List Int), varL N = pre ++ varL m → pre.length = i → n + m * 128 ^ i = N → i + d = 5 → (varL m).length ≤ d →
  rvGo ((p ++ varS (N : Int)) ++ q) (p.size : Int) d (n : Int) i = ((N : Int), ((p.size + (varS (N : Int)).size : Nat) : Int), true) := by
  intro m
  induction m using Nat.strongRecOn with
  | ind m ih =>
   intro i d n pre h1 h2 h3 h4 h5
   have hbyte : ∀ (x : Int) (tl : List Int), varL m = x :: tl → bt ((p ++ varS (N : Int)) ++ q) ((p.size : Int) + (i : Int)) = x ∧ i < (varS (N : Int)).size := by
    intro x tl hx
    have hlen : i < (varL N).length := by rw [h1, hx, List.length_append, List.length_cons]; omega
    have hi : i < (varS (N : Int)).size := by rw [hsz]; exact hlen
    refine ⟨?_, hi⟩
    rw [ByteArray.append_assoc, show (p.size : Int) + (i : Int) = ((p.size + i : Nat) : Int) by omega, bt_right, bt_left _ _ _ hi, hv, bt_nums _ _ hlen (varL_rng N)]
    have : (varL N)[i]? = some x := by
     rw [h1, hx, List.getElem?_append_right (by omega), h2, Nat.sub_self]
     rfl
    rw [List.getElem?_eq_getElem hlen] at this
    exact Option.some.inj this
   have htot : (((p ++ varS (N : Int)) ++ q).size : Int) = p.size + (varS (N : Int)).size + q.size := by rw [sizeApp, sizeApp]; omega
   obtain ⟨d, rfl⟩ : ∃ d', d = d' + 1 := ⟨d - 1, by
    have : 0 < (varL m).length := by
     by_cases h : m ≤ 127
     ·rw [varL_small m h]; simp
     ·rw [varL_big m (by omega)]; simp
    omega⟩
   unfold rvGo
   by_cases hm : m ≤ 127
   ·obtain ⟨hb, hi⟩ := hbyte (m : Int) [] (varL_small m hm)
    rw [if_pos (by omega), hb, if_pos (by omega)]
    have hx : (n : Int) + (m : Int) * ((128 ^ i : Nat) : Int) = (N : Int) := by
     have h3' : ((n + m * 128 ^ i : Nat) : Int) = (N : Int) := congrArg Int.ofNat h3
     rw [Int.natCast_add, Int.natCast_mul] at h3'
     exact h3'
    have hlast : (varS (N : Int)).size = i + 1 := by rw [hsz, h1, varL_small m hm, List.length_append, h2, List.length_singleton]
    rw [hx, if_pos ⟨by omega, by
     rw [Int.toNat_natCast, Nat.add_assoc, ← hlast]
     exact (ext_mid p _ q).symm⟩, hlast]
    rw [show (p.size : Int) + (i : Int) + 1 = ((p.size + (i + 1) : Nat) : Int) by omega]
   ·obtain ⟨hb, hi⟩ := hbyte _ _ (varL_big m (by omega))
    rw [if_pos (by omega), hb, if_neg (by omega)]
    have hlen5 := h5
    rw [varL_big m (by omega), List.length_cons] at hlen5
    have hn' : (n : Int) + (((m % 128 + 128 : Nat) : Int) - 128) * ((128 ^ i : Nat) : Int) = ((n + (m % 128) * 128 ^ i : Nat) : Int) := by
     have q1 : ((m % 128 + 128 : Nat) : Int) - 128 = ((m % 128 : Nat) : Int) := by omega
     rw [q1, Int.natCast_add n, Int.natCast_mul (m % 128)]
    rw [hn']
    refine ih (m / 128) (by omega) (i + 1) d _ (pre ++ [((m % 128 + 128 : Nat) : Int)]) ?_ ?_ ?_ (by omega) (by omega)
    ·rw [h1, varL_big m (by omega), List.append_assoc]
     rfl
    ·rw [List.length_append, List.length_singleton, h2]
    ·rw [Nat.pow_succ, ← h3]
     have : m * 128 ^ i = (128 * (m / 128) + m % 128) * 128 ^ i := by rw [Nat.div_add_mod]
     rw [this, Nat.add_mul, Nat.mul_comm (128 ^ i) 128, ← Nat.mul_assoc, Nat.mul_comm (m / 128) 128]
     omega
 have h5 := varL_len N hN
 have := key N 0 5 0 [] rfl rfl (by simp) rfl h5
 unfold readVarS
 rw [if_pos ⟨by omega, by rw [sizeApp, sizeApp]; omega⟩]
 exact this
def rsS (t : ByteArray) (a : Int) : ByteArray × Int × Bool :=
 if (readVarS t a).2.2 = true ∧ (readVarS t a).1 ≤ 20000 ∧ (readVarS t a).2.1 + (readVarS t a).1 ≤ t.size then
  (t.extract (readVarS t a).2.1.toNat ((readVarS t a).2.1.toNat + (readVarS t a).1.toNat), (readVarS t a).2.1 + (readVarS t a).1, true)
 else (⟨#[]⟩, 0, false)
theorem rsS_ok {t s : ByteArray} {a e : Int} (h : rsS t a = (s, e, true)) : 0 ≤ a ∧ a < e ∧ e ≤ t.size ∧ s.size ≤ 20000 ∧ t.extract a.toNat e.toNat = varS (s.size : Int) ++ s := by
 unfold rsS at h
 split at h
 ·rename_i hc
  obtain ⟨n, f, hv⟩ : ∃ x y, readVarS t a = (x, y, true) := ⟨_, _, Prod.ext rfl (Prod.ext rfl hc.1)⟩
  obtain ⟨q1, q2, q3, q4, q5, q6, q7⟩ := readVarS_ok hv
  simp only [hv, Prod.mk.injEq, and_true] at h hc
  obtain ⟨rfl, rfl⟩ := h
  have hsz : (t.extract f.toNat (f.toNat + n.toNat)).size = n.toNat := by rw [ByteArray.size_extract]; omega
  refine ⟨q1, by omega, by omega, by omega, ?_⟩
  rw [hsz, Int.toNat_of_nonneg q2, q7, extCat t _ _ _ (by omega) (by omega)]
  congr 1
  omega
 ·simp at h
theorem rsS_no {t : ByteArray} {a : Int} (h : (rsS t a).2.2 = false) : rsS t a = (⟨#[]⟩, 0, false) := by
 unfold rsS at h ⊢
 split at h
 ·simp at h
 ·rename_i hc
  rw [if_neg hc]
theorem ev_spec_ReadShort (t : ByteArray) (a : Int) (ht : t.size ≤ 140737488351232) : Ev (fun k => spec_ReadShort.f k t a) (rsS t a) := by
 simp only [spec_ReadShort.f]
 refine Ev.bind (ev_spec_ReadVar t a ht) ?_
 unfold rsS
 cases hc : (readVarS t a).2.2
 ·exact evEq (evNeg (by simp) (Ev.now _)) (if_neg (fun z => by cases z.1)).symm
 ·obtain ⟨n, f, hv⟩ : ∃ x y, readVarS t a = (x, y, true) := ⟨_, _, Prod.ext rfl (Prod.ext rfl hc)⟩
  obtain ⟨q1, q2, q3, q4, q5, q6, q7⟩ := readVarS_ok hv
  simp only [hv]
  refine evPos (by simp) ?_
  by_cases h1 : n ≤ 20000
  ·refine evNeg (by omega) ?_
   rw [w64 (x := (t.size : Int) - f) (by omega) (by omega), w64 (x := f + n) (by omega) (by omega)]
   by_cases h2 : f + n ≤ t.size
   ·refine evEq (evNeg (by omega) (evPos (by omega) (evPos (by omega) (evPos (by omega) (Ev.now _))))) ?_
    rw [if_pos ⟨by simp, h1, h2⟩, show (f + n).toNat = f.toNat + n.toNat by omega]
   ·exact evEq (evPos (by omega) (Ev.now _)) (if_neg (fun z => h2 z.2.2)).symm
  ·exact evEq (evPos (by omega) (Ev.now _)) (if_neg (fun z => h1 z.2.1)).symm
theorem ev_impl_ReadShort (t : ByteArray) (a : Int) (ht : t.size ≤ 140737488351232) : Ev (fun k => impl_ReadShort.f k t a) (rsS t a) := by
 simp only [impl_ReadShort.f]
 refine Ev.bind (ev_impl_ReadVar t a ht) ?_
 unfold rsS
 cases hc : (readVarS t a).2.2
 ·exact evEq (evNeg (by simp) (Ev.now _)) (if_neg (fun z => by cases z.1)).symm
 ·obtain ⟨n, f, hv⟩ : ∃ x y, readVarS t a = (x, y, true) := ⟨_, _, Prod.ext rfl (Prod.ext rfl hc)⟩
  obtain ⟨q1, q2, q3, q4, q5, q6, q7⟩ := readVarS_ok hv
  simp only [hv]
  refine evPos (by simp) ?_
  by_cases h1 : n ≤ 20000
  ·refine evNeg (by omega) ?_
   rw [w64 (x := (t.size : Int) - f) (by omega) (by omega), w64 (x := f + n) (by omega) (by omega)]
   by_cases h2 : f + n ≤ t.size
   ·refine evEq (evNeg (by omega) (evPos (by omega) (evPos (by omega) (evPos (by omega) (Ev.now _))))) ?_
    rw [if_pos ⟨by simp, h1, h2⟩, show (f + n).toNat = f.toNat + n.toNat by omega]
   ·exact evEq (evPos (by omega) (Ev.now _)) (if_neg (fun z => h2 z.2.2)).symm
  ·exact evEq (evPos (by omega) (Ev.now _)) (if_neg (fun z => h1 z.2.1)).symm
def mkE (f : Int × Int × Int × Int × Int × Int × Int × Bool) : S27 := ⟨f.2.1, f.2.2.1, ⟨f.2.2.2.1, f.2.2.2.2.1, f.2.2.2.2.2.1, f.2.2.2.2.2.2.1⟩⟩
def rlGo (t : ByteArray) : Nat → List S27 → Int → List S27 × Bool
 | 0, _, _ => ([], false)
 | d + 1, out, a =>
  if a < t.size then
   (if (rsS t a).2.2 = true ∧ (readFrameS (rsS t a).1).2.2.2.2.2.2.2 = true ∧ (readFrameS (rsS t a).1).1 = 1 ∧ out.length ≠ 200 then rlGo t d (out ++ [mkE (readFrameS (rsS t a).1)]) (rsS t a).2.1 else ([], false))
  else (out, true)
def readLogS (t : ByteArray) : List S27 × Bool := rlGo t (t.size + 1) [] 0
theorem rlGo_len (t : ByteArray) : ∀ d out a, out.length ≤ 200 → (rlGo t d out a).1.length ≤ 200 := by
 intro d
 induction d with
 | zero => intro out a _; exact Nat.zero_le _
 | succ d ih =>
  intro out a h
  unfold rlGo
  split
  ·split
   ·rename_i hc
    exact ih _ _ (by have := hc.2.2.2; simp; omega)
   ·exact Nat.zero_le _
  ·exact h
theorem readLogS_len (t : ByteArray) : (readLogS t).1.length ≤ 200 := rlGo_len t _ _ _ (Nat.zero_le _)
theorem rsS_size (t : ByteArray) (a : Int) : (rsS t a).1.size ≤ 20000 := by
 cases hc : (rsS t a).2.2
 ·rw [rsS_no hc]; decide
 ·exact (rsS_ok (t := t) (a := a) (s := (rsS t a).1) (e := (rsS t a).2.1) (Prod.ext rfl (Prod.ext rfl hc))).2.2.2.1
theorem ev_impl_rl (t : ByteArray) (ht : t.size ≤ 2000000000) : ∀ (d : Nat) (out : List S27) (a : Int), 0 ≤ a → a ≤ t.size → out.length ≤ 200 → (t.size : Int) - a < d → Ev (fun k => impl_ReadLog.l0 k t out a) (rlGo t d out a) := by
 intro d
 induction d with
 | zero => intro out a h0 h1 h2 h3; omega
 | succ d ih =>
  intro out a h0 h1 h2 h3
  refine evSucc ?_
  simp only [impl_ReadLog.l0]
  unfold rlGo
  by_cases hlt : a < t.size
  ·rw [if_pos hlt]
   have hsz := rsS_size t a
   refine evPos hlt (Ev.bind (ev_impl_ReadShort t a (by omega)) (Ev.bind (ev_impl_ReadFrame _ (by omega)) ?_))
   cases hs : (rsS t a).2.2
   ·exact evEq (evNeg (by simp) (Ev.now _)) (if_neg (fun z => by cases z.1)).symm
   ·refine evPos rfl ?_
    cases hf : (readFrameS (rsS t a).1).2.2.2.2.2.2.2
    ·exact evEq (evNeg (by simp) (Ev.now _)) (if_neg (fun z => by cases z.2.1)).symm
    ·refine evPos rfl ?_
     by_cases hk : (readFrameS (rsS t a).1).1 = 1
     ·refine evPos hk ?_
      by_cases hl : out.length = 200
      ·exact evEq (evPos (by omega) (Ev.now _)) (if_neg (fun z => z.2.2.2 hl)).symm
      ·rw [if_pos (⟨rfl, rfl, hk, hl⟩ : true = true ∧ true = true ∧ _ ∧ _)]
       obtain ⟨_, r1, r2, _, _⟩ := rsS_ok (t := t) (a := a) (s := (rsS t a).1) (e := (rsS t a).2.1) (Prod.ext rfl (Prod.ext rfl hs))
       refine evNeg (by omega) (evPos (by omega) ?_)
       exact ih _ _ (by omega) (by omega) (by simp; omega) (by omega)
     ·exact evEq (evNeg hk (Ev.now _)) (if_neg (fun z => hk z.2.2.1)).symm
  ·rw [if_neg hlt]
   exact evNeg hlt (Ev.now _)
theorem ev_impl_ReadLog (t : ByteArray) (ht : t.size ≤ 2000000000) : Ev (fun k => impl_ReadLog.f k t) (readLogS t) := by
 simp only [impl_ReadLog.f]
 exact ev_impl_rl t ht _ _ _ (by omega) (by omega) (by simp) (by omega)
theorem frameS_snd (a b c d e f g : Int) : (frameS a b c d e f g).2 = frameB a b c d e f g := by
 unfold frameS
 cases frameB a b c d e f g <;> rfl
theorem mkE_read {t : ByteArray} (h1 : (readFrameS t).2.2.2.2.2.2.2 = true) (h2 : (readFrameS t).1 = 1) : okE (mkE (readFrameS t)) = true ∧ entryT (mkE (readFrameS t)) = t := by
 obtain ⟨a, b, c, d, e, f, g, h⟩ : ∃ a b c d e f g, readFrameS t = (a, b, c, d, e, f, g, true) := ⟨_, _, _, _, _, _, _, Prod.ext rfl (Prod.ext rfl (Prod.ext rfl (Prod.ext rfl (Prod.ext rfl (Prod.ext rfl (Prod.ext rfl h1))))))⟩
 rw [h] at h2 ⊢
 obtain rfl : a = 1 := h2
 have hf := readFrameS_ok h
 constructor
 ·have := frameS_snd 1 b c d e f g
  rw [hf] at this
  exact this.symm
 ·show (frameS 1 b c d e f g).1 = t
  rw [hf]
theorem spec_full (t : ByteArray) (out : List S27) (a : Int) (h : out.length = 201) : Ev (fun k => spec_ReadLog.l0 k t [] out a) ([], false) := by
 have no : Ev (fun k => spec_ReadLog.j1 k t [] out a false) ([], false) := by
  refine evSucc ?_
  simp only [spec_ReadLog.j1]
  refine evNeg (by simp) (Ev.bind (evEq (ev_spec_LogText out) (if_neg (fun z => by omega))) ?_)
  exact evNeg (by simp) (Ev.now _)
 refine evSucc ?_
 simp only [spec_ReadLog.l0]
 rw [show decide ((out.length : Int) ≤ 200) = false by simp; omega]
 by_cases hlt : a < t.size
 ·exact evPos hlt no
 ·exact evNeg hlt no
theorem ev_spec_rl (t : ByteArray) (ht : t.size ≤ 2000000000) : ∀ (d : Nat) (out : List S27) (a : Int), 0 ≤ a → a ≤ t.size → out.length ≤ 200 → (t.size : Int) - a < d → out.all okE = true → logRaw out = t.extract 0 a.toNat →
 Ev (fun k => spec_ReadLog.l0 k t [] out a) (rlGo t d out a) := by
 intro d
 induction d with
 | zero => intro out a h0 h1 h2 h3; omega
 | succ d ih =>
  intro out a h0 h1 h2 h3 h4 h5
  refine evSucc ?_
  simp only [spec_ReadLog.l0]
  rw [show decide ((out.length : Int) ≤ 200) = true by simp; omega]
  unfold rlGo
  by_cases hlt : a < t.size
  ·rw [if_pos hlt]
   have hsz := rsS_size t a
   refine evPos hlt (evSucc ?_)
   simp only [spec_ReadLog.j1]
   refine evPos (by simp) (Ev.bind (ev_spec_ReadShort t a (by omega)) (Ev.bind (ev_spec_ReadFrame _ (by omega)) ?_))
   cases hs : (rsS t a).2.2
   ·exact evEq (evNeg (by simp) (Ev.now _)) (if_neg (fun z => by cases z.1)).symm
   ·refine evPos rfl ?_
    cases hf : (readFrameS (rsS t a).1).2.2.2.2.2.2.2
    ·exact evEq (evNeg (by simp) (Ev.now _)) (if_neg (fun z => by cases z.2.1)).symm
    ·refine evPos rfl ?_
     by_cases hk : (readFrameS (rsS t a).1).1 = 1
     ·obtain ⟨_, r1, r2, _, r3⟩ := rsS_ok (t := t) (a := a) (s := (rsS t a).1) (e := (rsS t a).2.1) (Prod.ext rfl (Prod.ext rfl hs))
      obtain ⟨m1, m2⟩ := mkE_read hf hk
      refine evPos hk (evPos (by omega) ?_)
      by_cases hl : out.length = 200
      ·refine evEq (spec_full t _ _ ?_) (if_neg (fun z => z.2.2.2 hl)).symm
       simp; omega
      ·rw [if_pos (⟨rfl, rfl, hk, hl⟩ : true = true ∧ true = true ∧ _ ∧ _)]
       refine ih _ _ (by omega) (by omega) (by simp; omega) (by omega) ?_ ?_
       ·rw [List.all_append, h4]
        simp
        exact m1
       ·show logRaw (out ++ [mkE (readFrameS (rsS t a).1)]) = _
        rw [logRaw_snoc, h5, m2, ByteArray.append_assoc, ← r3, extCat t _ _ _ (by omega) (by omega)]
     ·exact evEq (evNeg hk (Ev.now _)) (if_neg (fun z => hk z.2.2.1)).symm
  ·rw [if_neg hlt]
   refine evNeg hlt (evSucc ?_)
   simp only [spec_ReadLog.j1]
   refine evNeg (by simp) (Ev.bind (evEq (ev_spec_LogText out) (if_pos ⟨h2, h4⟩)) ?_)
   refine evPos rfl (evPos ?_ (Ev.now _))
   rw [h5, show a.toNat = t.size by omega, extAll]
theorem ev_spec_ReadLog (t : ByteArray) (ht : t.size ≤ 2000000000) : Ev (fun k => spec_ReadLog.f k t) (readLogS t) := by
 simp only [spec_ReadLog.f]
 refine ev_spec_rl t ht _ _ _ (by omega) (by omega) (by simp) (by omega) rfl ?_
 show (⟨#[]⟩ : ByteArray) = _
 apply ByteArray.ext
 simp
theorem rsS_back (p s q : ByteArray) (hs : s.size ≤ 20000) : rsS (p ++ ((varS (s.size : Int) ++ s) ++ q)) (p.size : Int) = (s, ((p.size + ((varS (s.size : Int)).size + s.size) : Nat) : Int), true) := by
 have h := readVar_back p (s ++ q) s.size (by omega)
 have e : (p ++ varS (s.size : Int)) ++ (s ++ q) = p ++ ((varS (s.size : Int) ++ s) ++ q) := by simp only [ByteArray.append_assoc]
 rw [e] at h
 have htot : (p ++ ((varS (s.size : Int) ++ s) ++ q)).size = p.size + (varS (s.size : Int)).size + s.size + q.size := by simp only [sizeApp]; omega
 unfold rsS
 simp only [h]
 rw [if_pos ⟨trivial, by omega, by omega⟩]
 have hm := ext_mid (p ++ varS (s.size : Int)) s q
 have e2 : ((p ++ varS (s.size : Int)) ++ s) ++ q = p ++ ((varS (s.size : Int) ++ s) ++ q) := by simp only [ByteArray.append_assoc]
 rw [e2, sizeApp] at hm
 rw [Int.toNat_natCast, Int.toNat_natCast, hm]
 congr 2
 omega
def noSeg : Int × ByteArray × List S27 × ByteArray × Bool := (0, ⟨#[]⟩, [], ⟨#[]⟩, false)
def rsgIn (t x : ByteArray) (from_ at_ : Int) : Int × ByteArray × List S27 × ByteArray × Bool :=
 if (rsS x (at_ + 32)).2.2 = true ∧ (readLogS (rsS x (at_ + 32)).1).2 = true ∧ segTextS from_ (x.extract at_.toNat (at_ + 32).toNat) (readLogS (rsS x (at_ + 32)).1).1 (headS (x.extract at_.toNat (at_ + 32).toNat) (readLogS (rsS x (at_ + 32)).1).1) = (t, true) then
  (from_, x.extract at_.toNat (at_ + 32).toNat, (readLogS (rsS x (at_ + 32)).1).1, headS (x.extract at_.toNat (at_ + 32).toNat) (readLogS (rsS x (at_ + 32)).1).1, true)
 else noSeg
def readSegS (t : ByteArray) : Int × ByteArray × List S27 × ByteArray × Bool :=
 if (unsealS t).2 = true ∧ (readVarS (unsealS t).1 0).2.2 = true ∧ (readVarS (unsealS t).1 0).2.1 + 32 ≤ (unsealS t).1.size then rsgIn t (unsealS t).1 (readVarS (unsealS t).1 0).1 (readVarS (unsealS t).1 0).2.1 else noSeg
theorem rsgIn_len (t x : ByteArray) (f a : Int) : (rsgIn t x f a).2.2.1.length ≤ 200 := by
 unfold rsgIn
 split
 ·exact readLogS_len _
 ·exact Nat.zero_le _
theorem readSegS_len (t : ByteArray) : (readSegS t).2.2.1.length ≤ 200 := by
 unfold readSegS
 split
 ·exact rsgIn_len _ _ _ _
 ·exact Nat.zero_le _
theorem pairEq {a : ByteArray × Bool} {t : ByteArray} (h1 : a.2 = true) (h2 : a.1.toList = t.toList) : a = (t, true) := Prod.ext (toList_inj h2) h1
theorem segEnd {t x : ByteArray} {f a : Int} {l : List S27} {d : ByteArray} (hu : unsealS t = (x, true)) (hv : readVarS x 0 = (f, a, true)) (ha : a + 32 ≤ x.size) (hs : segTextS f (x.extract a.toNat (a + 32).toNat) l d = (t, true)) :
 (rsS x (a + 32)).2.1 = (x.size : Int) := by
 obtain ⟨ht, hx⟩ := unsealS_ok hu
 obtain ⟨v0, v1, v2, v3, v4, v5, v6⟩ := readVarS_ok hv
 unfold segTextS at hs
 split at hs
 ·rename_i hc
  have hbs : (x.extract a.toNat (a + 32).toNat).size = 32 := by rw [ByteArray.size_extract]; omega
  have hvs : (varS f).size = a.toNat := by rw [v6, ByteArray.size_extract]; omega
  have hp : (varS f ++ x.extract a.toNat (a + 32).toNat).size = (a + 32).toNat := by rw [sizeApp, hvs, hbs]; omega
  generalize hL : logRaw l = L at hs hc
  unfold sealB at hs
  split at hs
  ·simp only [Prod.mk.injEq, and_true] at hs
   have hss : (((varS f ++ x.extract a.toNat (a + 32).toNat) ++ varS (L.size : Int)) ++ L).size = x.size := by
    have := congrArg ByteArray.size (hs.trans ht)
    simp only [sizeApp, four4_size] at this ⊢
    omega
   have hxx := (catInj (hs.trans ht) hss).1
   have hb := rsS_back (varS f ++ x.extract a.toNat (a + 32).toNat) L ⟨#[]⟩ (by omega)
   have e : (varS f ++ x.extract a.toNat (a + 32).toNat) ++ ((varS (L.size : Int) ++ L) ++ ⟨#[]⟩) = x := by
    rw [ByteArray.append_assoc] at hxx
    rw [show ((varS (L.size : Int) ++ L) ++ (⟨#[]⟩ : ByteArray)) = varS (L.size : Int) ++ L from ByteArray.append_empty]
    exact hxx
   rw [e, hp, Int.toNat_of_nonneg (by omega)] at hb
   rw [hb]
   show (((a + 32).toNat + _ : Nat) : Int) = _
   have h5 := hss
   rw [sizeApp, sizeApp, hp] at h5
   omega
  ·simp at hs
 ·simp at hs
theorem ev_spec_ReadSegment (t : ByteArray) (ht : t.size ≤ 140737488351232) : Ev (fun k => spec_ReadSegment.f k t) (readSegS t) := by
 have no : ∀ (x : ByteArray) (a b : Int) (y : Bool), y = true → Ev (fun k => spec_ReadSegment.j0 k t x a b y 0 ⟨#[]⟩ ⟨#[]⟩) noSeg := by
  rintro x a b y rfl
  refine evSucc ?_
  simp only [spec_ReadSegment.j0]
  exact evPos trivial (Ev.now _)
 simp only [spec_ReadSegment.f]
 refine Ev.bind (ev_spec_Unsealed t ht) ?_
 unfold readSegS
 cases hu : (unsealS t).2
 ·exact evEq (evNeg (by simp) (Ev.now _)) (if_neg (fun z => by cases z.1)).symm
 have hx := (unsealS_ok (t := t) (s := (unsealS t).1) (Prod.ext rfl hu)).2
 generalize (unsealS t).1 = x at hx ⊢
 refine evPos rfl (Ev.bind (ev_spec_ReadVar x 0 (by omega)) ?_)
 cases hv : (readVarS x 0).2.2
 ·exact evEq (evNeg (by simp) (no _ _ _ _ rfl)) (if_neg (fun z => by cases z.2.1)).symm
 obtain ⟨v0, v1, v2, v3, v4, v5, v6⟩ := readVarS_ok (t := x) (a := 0) (x := (readVarS x 0).1) (e := (readVarS x 0).2.1) (Prod.ext rfl (Prod.ext rfl hv))
 generalize (readVarS x 0).1 = f at *
 generalize (readVarS x 0).2.1 = a at *
 refine evPos rfl ?_
 rw [w64 (x := a + 32) (by omega) (by omega)]
 by_cases h32 : a + 32 ≤ x.size
 ·rw [if_pos (show true = true ∧ true = true ∧ _ from ⟨rfl, rfl, h32⟩)]
  refine evSucc ?_
  simp only [spec_ReadSegment.j0]
  rw [w64 (x := a + 32) (by omega) (by omega)]
  refine evNeg (by simp; omega) (Ev.bind (ev_spec_ReadShort x _ (by omega)) ?_)
  unfold rsgIn
  have hrs := rsS_size x (a + 32)
  cases hr : (rsS x (a + 32)).2.2
  ·exact evEq (evNeg (by simp) (Ev.now _)) (if_neg (fun z => by cases z.1)).symm
  refine evPos rfl (Ev.bind (ev_spec_ReadLog _ (by omega)) ?_)
  have hll := readLogS_len (rsS x (a + 32)).1
  generalize (rsS x (a + 32)).1 = g at *
  cases hg : (readLogS g).2
  ·exact evEq (evNeg (by simp) (Ev.now _)) (if_neg (fun z => by cases z.2.1)).symm
  have hbs : (x.extract a.toNat (a + 32).toNat).size ≤ 32 := by rw [ByteArray.size_extract]; omega
  refine evPos rfl (evPos (by omega) (evPos (by omega) (evPos (by omega) (Ev.bind (ev_spec_HeadFrom _ _ (by omega) (by omega)) (Ev.bind (ev_spec_SegmentText _ _ _ _) ?_)))))
  generalize hq : segTextS f (x.extract a.toNat (a + 32).toNat) (readLogS g).1 (headS (x.extract a.toNat (a + 32).toNat) (readLogS g).1) = q
  by_cases h1 : q.2 = true
  ·by_cases h2 : q.1.toList = t.toList
   ·exact evEq (evPos h1 (evPos h2 (Ev.now _))) (if_pos (⟨rfl, rfl, pairEq h1 h2⟩ : true = true ∧ true = true ∧ q = (t, true))).symm
   ·exact evEq (evPos h1 (evNeg h2 (Ev.now _))) (if_neg (fun z => h2 (by rw [z.2.2]))).symm
  ·exact evEq (evNeg h1 (Ev.now _)) (if_neg (fun z => h1 (by rw [z.2.2]))).symm
 ·rw [if_neg (fun z => h32 z.2.2)]
  exact no _ _ _ _ (by simp; omega)
theorem ev_impl_ReadSegment (t : ByteArray) (ht : t.size ≤ 140737488351232) : Ev (fun k => impl_ReadSegment.f k t) (readSegS t) := by
 have no : ∀ (x : ByteArray) (a b : Int) (y : Bool), y = true → Ev (fun k => impl_ReadSegment.j0 k t x a b y) noSeg := by
  rintro x a b y rfl
  refine evSucc ?_
  simp only [impl_ReadSegment.j0]
  exact evPos trivial (Ev.now _)
 have no1 : ∀ (y : Bool) (a : Int) (b : ByteArray) (l : List S27) (d : ByteArray), y = true → Ev (fun k => impl_ReadSegment.j1 k t y a b l d) noSeg := by
  rintro y a b l d rfl
  refine evSucc ?_
  simp only [impl_ReadSegment.j1]
  exact evPos trivial (Ev.now _)
 simp only [impl_ReadSegment.f]
 refine Ev.bind (ev_impl_Unsealed t ht) ?_
 unfold readSegS
 cases hu : (unsealS t).2
 ·exact evEq (evNeg (by simp) (Ev.now _)) (if_neg (fun z => by cases z.1)).symm
 have hux : unsealS t = ((unsealS t).1, true) := Prod.ext rfl hu
 have hx := (unsealS_ok hux).2
 generalize (unsealS t).1 = x at hx hux ⊢
 refine evPos rfl (Ev.bind (ev_impl_ReadVar x 0 (by omega)) ?_)
 cases hv : (readVarS x 0).2.2
 ·exact evEq (evNeg (by simp) (no _ _ _ _ rfl)) (if_neg (fun z => by cases z.2.1)).symm
 have hvx : readVarS x 0 = ((readVarS x 0).1, (readVarS x 0).2.1, true) := Prod.ext rfl (Prod.ext rfl hv)
 obtain ⟨v0, v1, v2, v3, v4, v5, v6⟩ := readVarS_ok hvx
 generalize (readVarS x 0).1 = f at *
 generalize (readVarS x 0).2.1 = a at *
 refine evPos rfl ?_
 rw [w64 (x := (x.size : Int) - a) (by omega) (by omega)]
 by_cases h32 : a + 32 ≤ x.size
 ·rw [if_pos (show true = true ∧ true = true ∧ _ from ⟨rfl, rfl, h32⟩)]
  refine evSucc ?_
  simp only [impl_ReadSegment.j0]
  rw [w64 (x := a + 32) (by omega) (by omega)]
  have hrs := rsS_size x (a + 32)
  have hll := readLogS_len (rsS x (a + 32)).1
  have hbs : (x.extract a.toNat (a + 32).toNat).size ≤ 32 := by rw [ByteArray.size_extract]; omega
  have hse := fun l d => segEnd (l := l) (d := d) hux hvx h32
  refine evNeg (by simp; omega) (Ev.bind (ev_impl_ReadShort x _ (by omega)) (Ev.bind (ev_impl_ReadLog _ (by omega)) (evPos (by omega) (evPos (by omega) (evPos (by omega) (Ev.bind (ev_impl_HeadFrom _ _ (by omega) (by omega)) ?_))))))
  unfold rsgIn
  cases hr : (rsS x (a + 32)).2.2
  ·exact evEq (evNeg (by simp) (no1 _ _ _ _ _ rfl)) (if_neg (fun z => by cases z.1)).symm
  generalize (rsS x (a + 32)).1 = g at *
  cases hg : (readLogS g).2
  ·exact evEq (evPos rfl (evNeg (by simp) (no1 _ _ _ _ _ rfl))) (if_neg (fun z => by cases z.2.1)).symm
  refine evPos rfl (evPos rfl ?_)
  generalize hd : headS (x.extract a.toNat (a + 32).toNat) (readLogS g).1 = d
  generalize hq : segTextS f (x.extract a.toNat (a + 32).toNat) (readLogS g).1 d = q
  by_cases he : (rsS x (a + 32)).2.1 = (x.size : Int)
  ·refine evSucc ?_
   simp only [impl_ReadSegment.j1]
   refine evNeg (by rw [he]; simp) (Ev.bind (evEq (ev_impl_SegmentText _ _ _ _) hq) ?_)
   by_cases h1 : q.2 = true
   ·by_cases h2 : q.1.toList = t.toList
    ·exact evEq (evPos h1 (evPos h2 (Ev.now _))) (if_pos ⟨trivial, trivial, pairEq h1 h2⟩).symm
    ·exact evEq (evPos h1 (evNeg h2 (Ev.now _))) (if_neg (fun z => h2 (by rw [z.2.2]))).symm
   ·exact evEq (evNeg h1 (Ev.now _)) (if_neg (fun z => h1 (by rw [z.2.2]))).symm
  ·exact evEq (no1 _ _ _ _ _ (by simpa using he)) (if_neg (fun z => he (hse _ _ (hq.trans z.2.2)))).symm
 ·rw [if_neg (fun z => h32 z.2.2)]
  exact no _ _ _ _ (by simp; omega)
def cutGo (l : List S27) (n : Nat) : Nat → ByteArray → Nat → List S58
 | 0, _, _ => []
 | d + 1, h, a => if a < l.length then ⟨(a : Int), h, (l.drop a).take n, headS h ((l.drop a).take n)⟩ :: cutGo l n d (headS h ((l.drop a).take n)) (a + n) else []
theorem cutGo_len (l : List S27) (n : Nat) : ∀ d h a, (cutGo l n d h a).length ≤ d := by
 intro d
 induction d with
 | zero => intro h a; exact Nat.le_refl _
 | succ d ih =>
  intro h a
  unfold cutGo
  split
  ·have := ih (headS h ((l.drop a).take n)) (a + n)
   rw [List.length_cons]; omega
  ·exact Nat.zero_le _
theorem headS32 (h : ByteArray) (hh : h.size = 32) (l : List S27) : (headS h l).size = 32 := by
 rcases List.eq_nil_or_concat l with rfl | ⟨l', x, rfl⟩
 ·exact hh
 ·unfold headS
  rw [List.concat_eq_append, List.foldl_append]
  show (dig _).size = _
  exact dig_size _
theorem cutGo_facts (l : List S27) (n : Nat) : ∀ d h a, ∀ s ∈ cutGo l n d h a, s.f2.length ≤ l.length := by
 intro d
 induction d with
 | zero => intro h a s hs; simp [cutGo] at hs
 | succ d ih =>
  intro h a s hs
  unfold cutGo at hs
  split at hs
  ·rcases List.mem_cons.1 hs with rfl | hs
   ·show ((l.drop a).take n).length ≤ _
    rw [List.length_take, List.length_drop]; omega
   ·exact ih _ _ _ hs
  ·simp at hs
theorem midTake (l : List S27) (a n b : Nat) (hb : b = if a + n ≤ l.length then a + n else l.length) : (l.take b).drop a = (l.drop a).take n := by
 rw [List.drop_take, hb]
 split
 ·rw [Nat.add_sub_cancel_left]
 ·rw [List.take_of_length_le (by rw [List.length_drop]; omega), List.take_of_length_le (by rw [List.length_drop]; omega)]
theorem ev_impl_cut (l : List S27) (n : Nat) (hn : 1 ≤ n ∧ n ≤ 200) (hl : l.length ≤ 200) : ∀ (d : Nat) (out : List S58) (h : ByteArray) (a : Nat), l.length ≤ a + d → a ≤ 400 → out.length + d ≤ 1000 → h.size = 32 → Ev (fun k => impl_CutLog.l0 k l (n : Int) out h (a : Int)) (out ++ cutGo l n d h a, true) := by
 intro d
 induction d with
 | zero =>
  intro out h a h1 h2 h3 h4
  refine evSucc ?_
  simp only [impl_CutLog.l0]
  exact evNeg (by omega) (evEq (Ev.now _) (by simp [cutGo]))
 | succ d ih =>
  intro out h a h1 h2 h3 h4
  refine evSucc ?_
  simp only [impl_CutLog.l0]
  unfold cutGo
  by_cases hc : a < l.length
  ·rw [if_pos hc]
   have hw : wrap64 ((a : Int) + (n : Int)) = ((a + n : Nat) : Int) := by rw [w64 (by omega) (by omega)]; omega
   have hm : mn ((a + n : Nat) : Int) (l.length : Int) = (((if a + n ≤ l.length then a + n else l.length : Nat)) : Int) := by unfold mn; split <;> split <;> omega
   have hlo : a ≤ (if a + n ≤ l.length then a + n else l.length) := by split <;> omega
   have hhi : (if a + n ≤ l.length then a + n else l.length) ≤ l.length := by split <;> omega
   have hp : ((l.drop a).take n).length ≤ 200 := by rw [List.length_take]; omega
   have hpart : some ((l.take (mn (wrap64 ((a : Int) + (n : Int))) (l.length : Int)).toNat).drop (a : Int).toNat) = some ((l.drop a).take n) := by
    rw [hw, hm, Int.toNat_natCast, Int.toNat_natCast, midTake l a n _ rfl]
   refine evPos (by omega) (evBindS rfl (evPos (by omega) (evPos (by rw [hw, hm]; omega) (evPos (by rw [hw, hm]; omega) (evBindS hpart (evPos (by show 0 + _ < _; omega) (evBindS (congrArg some (List.nil_append _)) (Ev.bind (ev_impl_HeadFrom h _ (by omega) (by omega)) (evPos (by omega) ?_)))))))))
   rw [hw]
   have := ih (out ++ [⟨(a : Int), h, (l.drop a).take n, headS h ((l.drop a).take n)⟩]) (headS h ((l.drop a).take n)) (a + n) (by omega) (by omega) (by rw [List.length_append, List.length_singleton]; omega) (headS32 h h4 _)
   rw [List.append_assoc] at this
   exact this
  ·rw [if_neg hc]
   exact evNeg (by omega) (evEq (Ev.now _) (by simp))
theorem ev_l28Entries (l : List S27) (hl : l.length ≤ 16777216) : spec_l28Entries.f l = some l := by
 unfold spec_l28Entries.f
 simp only [Option.bind_some]
 rw [if_pos (by show 0 + _ < _; omega), List.nil_append]
theorem ev_spec_cut (l : List S27) (n : Nat) (hn : 1 ≤ n ∧ n ≤ 200) (hl : l.length ≤ 200) : ∀ (d : Nat) (out : List S58) (h : ByteArray) (a : Nat), l.length ≤ a + d → a ≤ 400 → out.length + d ≤ 1000 → h.size = 32 → Ev (fun k => spec_CutLog.l0 k l (n : Int) out h (a : Int)) (out ++ cutGo l n d h a, true) := by
 intro d
 induction d with
 | zero =>
  intro out h a h1 h2 h3 h4
  refine evSucc ?_
  simp only [spec_CutLog.l0]
  exact evNeg (by omega) (evEq (Ev.now _) (by simp [cutGo]))
 | succ d ih =>
  intro out h a h1 h2 h3 h4
  refine evSucc ?_
  simp only [spec_CutLog.l0]
  unfold cutGo
  by_cases hc : a < l.length
  ·rw [if_pos hc]
   have hw : wrap64 ((a : Int) + (n : Int)) = ((a + n : Nat) : Int) := by rw [w64 (by omega) (by omega)]; omega
   rw [hw]
   have hp : ((l.drop a).take n).length ≤ 200 := by rw [List.length_take]; omega
   have next := ih (out ++ [⟨(a : Int), h, (l.drop a).take n, headS h ((l.drop a).take n)⟩]) (headS h ((l.drop a).take n)) (a + n) (by omega) (by omega) (by rw [List.length_append, List.length_singleton]; omega) (headS32 h h4 _)
   rw [List.append_assoc] at next
   refine evPos (by omega) ?_
   by_cases hg : l.length < a + n
   ·refine evPos (by omega) (evPos (by omega) (evPos (by omega) (evPos (by omega) ?_)))
    rw [Int.toNat_natCast, Int.toNat_natCast, midTake l a n l.length (by rw [if_neg (by omega)])]
    exact evBindS (ev_l28Entries _ (by omega)) (Ev.bind (ev_spec_HeadFrom h _ (by omega) (by omega)) (evPos (by omega) next))
   ·refine evNeg (by omega) (evPos (by omega) (evPos (by omega) (evPos (by omega) ?_)))
    rw [Int.toNat_natCast, Int.toNat_natCast, midTake l a n (a + n) (by rw [if_pos (by omega)])]
    exact evBindS (ev_l28Entries _ (by omega)) (Ev.bind (ev_spec_HeadFrom h _ (by omega) (by omega)) (evPos (by omega) next))
  ·rw [if_neg hc]
   exact evNeg (by omega) (evEq (Ev.now _) (by simp))
def cutS (l : List S27) (n : Int) : List S58 × Bool := if 1 ≤ n ∧ n ≤ 200 ∧ l.length ≤ 200 then (cutGo l n.toNat 200 (dig ⟨#[]⟩) 0, true) else ([], false)
theorem cutS_facts (l : List S27) (n : Int) : (cutS l n).1.length ≤ 200 ∧ ∀ s ∈ (cutS l n).1, s.f2.length ≤ 200 := by
 unfold cutS
 split
 ·rename_i hc
  refine ⟨cutGo_len _ _ _ _ _, fun s hs => ?_⟩
  have := cutGo_facts _ _ _ _ _ s hs
  omega
 ·exact ⟨Nat.zero_le _, fun s hs => by simp at hs⟩
theorem ev_impl_CutLog (l : List S27) (n : Int) : Ev (fun k => impl_CutLog.f k l n) (cutS l n) := by
 simp only [impl_CutLog.f, impl_in, Option.bind_some]
 unfold cutS
 by_cases h1 : 1 ≤ n ∧ n ≤ 200
 ·rw [show rng n 1 200 = true by unfold rng; simp [h1]]
  refine evPos rfl (evSucc ?_)
  simp only [impl_CutLog.j0]
  by_cases h2 : l.length ≤ 200
  ·rw [if_pos ⟨h1.1, h1.2, h2⟩]
   refine evNeg (by simp; omega) (Ev.bind (dig_impl _ (by show (⟨#[]⟩ : ByteArray).size ≤ _; decide)) ?_)
   have := ev_impl_cut l n.toNat (by omega) h2 200 [] (dig ⟨#[]⟩) 0 (by omega) (by omega) (by simp) (dig_size _)
   rw [Int.toNat_of_nonneg (by omega)] at this
   exact this
  ·rw [if_neg (fun z => h2 z.2.2)]
   exact evPos (by simp; omega) (Ev.now _)
 ·rw [if_neg (fun z => h1 ⟨z.1, z.2.1⟩), show rng n 1 200 = false by unfold rng; simp; omega]
  refine evNeg (by simp) (evSucc ?_)
  simp only [impl_CutLog.j0]
  exact evPos (by simp) (Ev.now _)
theorem ev_spec_CutLog (l : List S27) (n : Int) : Ev (fun k => spec_CutLog.f k l n) (cutS l n) := by
 simp only [spec_CutLog.f, spec_in, Option.bind_some]
 unfold cutS
 by_cases h1 : 1 ≤ n ∧ n ≤ 200
 ·rw [show rng n 1 200 = true by unfold rng; simp [h1]]
  refine evPos rfl (evSucc ?_)
  simp only [spec_CutLog.j0]
  by_cases h2 : l.length ≤ 200
  ·rw [if_pos ⟨h1.1, h1.2, h2⟩]
   refine evNeg (by simp; omega) (evBindS (dig_spec _ (by show (⟨#[]⟩ : ByteArray).size ≤ _; decide)) ?_)
   have := ev_spec_cut l n.toNat (by omega) h2 200 [] (dig ⟨#[]⟩) 0 (by omega) (by omega) (by simp) (dig_size _)
   rw [Int.toNat_of_nonneg (by omega)] at this
   exact this
  ·rw [if_neg (fun z => h2 z.2.2)]
   exact evPos (by simp; omega) (Ev.now _)
 ·rw [if_neg (fun z => h1 ⟨z.1, z.2.1⟩), show rng n 1 200 = false by unfold rng; simp; omega]
  refine evNeg (by simp) (evSucc ?_)
  simp only [spec_CutLog.j0]
  exact evPos (by simp) (Ev.now _)
theorem and255 (x : Int) : 0 ≤ Go.bits .and .i64 x 255 ∧ Go.bits .and .i64 x 255 ≤ 255 := by
 have e : Go.bits .and .i64 x 255 = (((BitVec.ofInt 64 x).toNat % 256 : Nat) : Int) := by
  rw [bits_nat]
  show IntKind.wrap .i64 ((BitVec.ofInt 64 x &&& BitVec.ofInt 64 ((255 : Nat) : Int)).toNat : Int) = _
  rw [BitVec.toNat_and, ofInt_nat64 255 (by omega), wrap_i64]
  have : (BitVec.ofInt 64 x).toNat &&& 255 = (BitVec.ofInt 64 x).toNat % 256 := Nat.and_two_pow_sub_one_eq_mod _ 8
  rw [this, w64 (by omega) (by omega)]
 rw [e]
 omega
theorem drawByte (b : List Int) (i h : Int) (h0 : 0 ≤ i) (h1 : i ≤ b.length) (hb : b.length ≤ 16777216) : ∃ x i' h', spec_l01Byte.f b i h = some (x, i', h') ∧ 0 ≤ x ∧ x ≤ 255 ∧ 0 ≤ i' ∧ i' ≤ b.length := by
 unfold spec_l01Byte.f
 by_cases hc : i < (b.length : Int)
 ·rw [if_pos hc, if_pos h0, w64 (x := i + 1) (by omega) (by omega)]
  refine ⟨_, _, _, rfl, (and255 _).1, (and255 _).2, by omega, by omega⟩
 ·rw [if_neg hc]
  exact ⟨_, _, _, rfl, (and255 _).1, (and255 _).2, h0, h1⟩
theorem drawBelow (b : List Int) (i h n : Int) (h0 : 0 ≤ i) (h1 : i ≤ b.length) (hb : b.length ≤ 16777216) (hn : 0 < n) : ∃ x i' h', spec_l01Below.f b i h n = some (x, i', h') ∧ 0 ≤ x ∧ x < n ∧ 0 ≤ i' ∧ i' ≤ b.length := by
 unfold spec_l01Below.f
 rw [if_neg (by omega)]
 by_cases hc : n ≤ 256
 ·obtain ⟨x, i', h', e, x0, x1, i0, i1⟩ := drawByte b i h h0 h1 hb
  rw [if_pos hc, e]
  simp only [Option.bind_some]
  rw [if_neg (by omega), Int.tmod_eq_emod_of_nonneg x0]
  exact ⟨_, _, _, rfl, Int.emod_nonneg _ (by omega), Int.emod_lt_of_pos _ hn, i0, i1⟩
 ·obtain ⟨x, i1, h1', e1, x0, x1, j0, j1⟩ := drawByte b i h h0 h1 hb
  obtain ⟨y, i2, h2', e2, y0, y1, k0, k1⟩ := drawByte b i1 h1' j0 j1 hb
  obtain ⟨z, i3, h3', e3, z0, z1, l0, l1⟩ := drawByte b i2 h2' k0 k1 hb
  obtain ⟨v, i4, h4', e4, v0, v1, m0, m1⟩ := drawByte b i3 h3' l0 l1 hb
  rw [if_neg hc, e1]
  simp only [Option.bind_some, e2, e3, e4]
  rw [if_neg (by omega), w64 (x := x * 16777216) (by omega) (by omega), w64 (x := y * 65536) (by omega) (by omega), w64 (x := x * 16777216 + y * 65536) (by omega) (by omega), w64 (x := z * 256) (by omega) (by omega), w64 (x := x * 16777216 + y * 65536 + z * 256) (by omega) (by omega), w64 (x := x * 16777216 + y * 65536 + z * 256 + v) (by omega) (by omega), Int.tmod_eq_emod_of_nonneg (by omega)]
  exact ⟨_, _, _, rfl, Int.emod_nonneg _ (by omega), Int.emod_lt_of_pos _ hn, m0, m1⟩
theorem drawOnce (b : List Int) (i h n : Int) (h0 : 0 ≤ i) (h1 : i ≤ b.length) (hb : b.length ≤ 16777216) (hn : 0 < n) : ∃ (x : Bool) (i' h' : Int), spec_l01Once.f b i h n = some (x, i', h') ∧ 0 ≤ i' ∧ i' ≤ b.length := by
 unfold spec_l01Once.f
 obtain ⟨x, i', h', e, x0, x1, i0, i1⟩ := drawBelow b i h n h0 h1 hb hn
 rw [e]
 exact ⟨_, _, _, rfl, i0, i1⟩
theorem drawNew (b : List Int) (hb : b.length ≤ 16777216) : ∃ h : Int, Ev (fun k => spec_l01New.f k b) (b, 0, h) := by
 have key : ∀ d (i : Nat) (h : Int), i + d = b.length → ∃ h', Ev (fun k => spec_l01New.l0 k b h (i : Int)) (b, 0, h') := by
  intro d
  induction d with
  | zero =>
   intro i h hi
   refine ⟨h, evSucc ?_⟩
   simp only [spec_l01New.l0]
   exact evNeg (by omega) (Ev.now _)
  | succ d ih =>
   intro i h hi
   by_cases h4 : (i : Int) < 4000
   ·obtain ⟨h', hh⟩ := ih (i + 1) (Go.bits .and .i64 (wrap64 ((wrap64 ((wrap64 (h * 131)) + (wrap64 (rd b (i : Int))))) + 7)) 1073741823) (by omega)
    refine ⟨h', evSucc ?_⟩
    simp only [spec_l01New.l0]
    refine evPos (by omega) (evPos h4 (evPos (by omega) ?_))
    rw [w64 (x := (i : Int) + 1) (by omega) (by omega), ci]
    exact hh
   ·refine ⟨h, evSucc ?_⟩
    simp only [spec_l01New.l0]
    exact evPos (by omega) (evNeg h4 (Ev.now _))
 simp only [spec_l01New.f]
 exact key b.length 0 _ (by omega)
theorem drawHalf (b : List Int) (i h : Int) (h0 : 0 ≤ i) (h1 : i ≤ b.length) (hb : b.length ≤ 16777216) : ∃ x i' h', spec_l04Half.f b i h = some (x, i', h') ∧ 0 ≤ x ∧ x ≤ 4294967295 ∧ 0 ≤ i' ∧ i' ≤ b.length := by
 unfold spec_l04Half.f
 obtain ⟨x, i1, h1', e1, x0, x1, j0, j1⟩ := drawBelow b i h 12 h0 h1 hb (by omega)
 rw [e1]
 simp only [Option.bind_some]
 unfold spec_l01PickInt.f
 obtain ⟨y, i2, h2', e2, y0, y1, k0, k1⟩ := drawBelow b i1 h1' (([0, 1, 2, 3, 5, 7, 255, 4294967295, 2147483648, x] : List Int).length : Int) j0 j1 hb (by simp)
 rw [e2]
 simp only [Option.bind_some]
 rw [if_pos y0, if_pos y1]
 simp only [Option.bind_some]
 have hy : y < 10 := y1
 refine ⟨_, _, _, rfl, ?_, ?_, k0, k1⟩
 all_goals
  have hc : y = 0 ∨ y = 1 ∨ y = 2 ∨ y = 3 ∨ y = 4 ∨ y = 5 ∨ y = 6 ∨ y = 7 ∨ y = 8 ∨ y = 9 := by omega
  rcases hc with rfl | rfl | rfl | rfl | rfl | rfl | rfl | rfl | rfl | rfl <;> simp [rd] <;> omega
theorem drawItem (b : List Int) (i h : Int) (h0 : 0 ≤ i) (h1 : i ≤ b.length) (hb : b.length ≤ 16777216) : ∃ c d e f i' h', spec_l17Item.f b i h = some (c, d, e, f, i', h') ∧ itemB c d e f = true ∧ 0 ≤ i' ∧ i' ≤ b.length := by
 unfold spec_l17Item.f
 obtain ⟨x, i1, h1', e1, j0, j1⟩ := drawOnce b i h 3 h0 h1 hb (by omega)
 rw [e1]
 simp only [Option.bind_some]
 cases x
 ·rw [if_neg (by simp)]
  obtain ⟨y, i2, h2', e2, y0, y1, k0, k1⟩ := drawBelow b i1 h1' 9 j0 j1 hb (by omega)
  rw [e2]
  simp only [Option.bind_some]
  obtain ⟨z, i3, h3', e3, z0, z1, l0, l1⟩ := drawHalf b i2 h2' k0 k1 hb
  rw [e3]
  refine ⟨_, _, _, _, _, _, rfl, ?_, l0, l1⟩
  unfold itemB rng
  simp
  omega
 ·rw [if_pos rfl]
  obtain ⟨y, i2, h2', e2, y0, y1, k0, k1⟩ := drawBelow b i1 h1' 5 j0 j1 hb (by omega)
  rw [e2]
  simp only [Option.bind_some]
  rw [w64 (x := 1 + y) (by omega) (by omega)]
  refine ⟨_, _, _, _, _, _, rfl, ?_, k0, k1⟩
  unfold itemB rng
  simp
  omega
theorem drawEntriesGo (b : List Int) (hb : b.length ≤ 16777216) : ∀ (d : Nat) (i h : Int) (n : Nat) (out : List S27), 0 ≤ i → i ≤ b.length → n + d = 5 → out.length = n → out.all okE = true →
 ∃ l i' h', Ev (fun k => spec_l19Entries.l0 k out (n : Int) b i h) (l, i', h') ∧ l.length ≤ 5 ∧ l.all okE = true ∧ 0 ≤ i' ∧ i' ≤ b.length := by
 intro d
 induction d with
 | zero =>
  intro i h n out h0 h1 hn ho ha
  obtain ⟨x, i1, h1', e1, x0, x1, j0, j1⟩ := drawBelow b i h 6 h0 h1 hb (by omega)
  refine ⟨out, i1, h1', evSucc ?_, by omega, ha, j0, j1⟩
  simp only [spec_l19Entries.l0]
  exact evBindS e1 (evNeg (by omega) (Ev.now _))
 | succ d ih =>
  intro i h n out h0 h1 hn ho ha
  obtain ⟨x, i1, h1', e1, x0, x1, j0, j1⟩ := drawBelow b i h 6 h0 h1 hb (by omega)
  by_cases hx : (n : Int) < x
  ·obtain ⟨y, i2, h2', e2, y0, y1, k0, k1⟩ := drawBelow b i1 h1' 3 j0 j1 hb (by omega)
   obtain ⟨z, i3, h3', e3, z0, z1, l0, l1⟩ := drawBelow b i2 h2' 5 k0 k1 hb (by omega)
   obtain ⟨c, e, f, g, i4, h4', e4, hi, m0, m1⟩ := drawItem b i3 h3' l0 l1 hb
   obtain ⟨l, i', h', hev, hl, hall, q0, q1⟩ := ih i4 h4' (n + 1) (out ++ [⟨y, 1 + z, ⟨c, e, f, g⟩⟩]) m0 m1 (by omega) (by simp; omega) (by
    rw [List.all_append, ha]
    simp
    show frameB 1 y (1 + z) c e f g = true
    unfold frameB
    rw [if_pos rfl, hi]
    unfold rng
    simp
    omega)
   refine ⟨l, i', h', evSucc ?_, hl, hall, q0, q1⟩
   simp only [spec_l19Entries.l0]
   refine evBindS e1 (evPos hx (evBindS e2 (evBindS e3 (evBindS e4 (evPos (by omega) ?_)))))
   rw [w64 (x := (n : Int) + 1) (by omega) (by omega), w64 (x := 1 + z) (by omega) (by omega), ci]
   exact hev
  ·refine ⟨out, i1, h1', evSucc ?_, by omega, ha, j0, j1⟩
   simp only [spec_l19Entries.l0]
   exact evBindS e1 (evNeg hx (Ev.now _))
theorem drawEntriesAt (b : List Int) (hb : b.length ≤ 16777216) (i h : Int) (h0 : 0 ≤ i) (h1 : i ≤ b.length) :
 ∃ l i' h', Ev (fun k => spec_l19Entries.f k b i h) (l, i', h') ∧ l.length ≤ 5 ∧ l.all okE = true ∧ 0 ≤ i' ∧ i' ≤ b.length :=
 drawEntriesGo b hb 5 i h 0 [] h0 h1 (by omega) rfl rfl
theorem drawAny (b : List Int) (hb : b.length ≤ 16777216) (i h : Int) (h0 : 0 ≤ i) (h1 : i ≤ b.length) : ∃ l i' h', Ev (fun k => spec_l19Any.f k b i h) (l, i', h') ∧ l.length ≤ 6 ∧ 0 ≤ i' ∧ i' ≤ b.length := by
 simp only [spec_l19Any.f]
 obtain ⟨x, i1, h1', e1, x0, x1, j0, j1⟩ := drawBelow b i h 10 h0 h1 hb (by omega)
 obtain ⟨l, i2, h2', e2, hl, ha, k0, k1⟩ := drawEntriesAt b hb i1 h1' j0 j1
 by_cases hx : x = 0
 ·refine ⟨l ++ [⟨5, 1, ⟨0, 0, 0, 0⟩⟩], i2, h2', evBindS e1 ?_, ?_, k0, k1⟩
  ·simp only [Option.bind_some]
   refine Ev.bind e2 (evPos (show ([] : List S27).length + l.length < _ by simp; omega) ?_)
   rw [List.nil_append]
   exact evPos hx (evPos (show l.length < _ by omega) (Ev.now _))
  ·rw [List.length_append, List.length_singleton]; omega
 ·by_cases hy : x = 1
  ·refine ⟨l ++ [⟨0, 0, ⟨0, 0, 0, 0⟩⟩], i2, h2', evBindS e1 ?_, ?_, k0, k1⟩
   ·simp only [Option.bind_some]
    refine Ev.bind e2 (evPos (show ([] : List S27).length + l.length < _ by simp; omega) ?_)
    rw [List.nil_append]
    exact evNeg hx (evPos hy (evPos (show l.length < _ by omega) (Ev.now _)))
   ·rw [List.length_append, List.length_singleton]; omega
  ·refine ⟨l, i2, h2', evBindS e1 ?_, by omega, k0, k1⟩
   simp only [Option.bind_some]
   refine Ev.bind e2 (evPos (show ([] : List S27).length + l.length < _ by simp; omega) ?_)
   rw [List.nil_append]
   exact evNeg hx (evNeg hy (Ev.now _))
theorem drawTree (b : List Int) (hb : b.length ≤ 16777216) : ∃ l i, Ev (fun k => spec_l27Draw.f k b) (l, i) ∧ l.length ≤ 201 ∧ -1 ≤ i ∧ i ≤ 10 := by
 obtain ⟨h, e⟩ := drawNew b hb
 obtain ⟨x, i1, h1', e1, x0, x1, j0, j1⟩ := drawBelow b 0 h 12 (by omega) (by omega) hb (by omega)
 obtain ⟨l, i2, h2', e2, hl, k0, k1⟩ := drawAny b hb i1 h1' j0 j1
 obtain ⟨m, i3, h3', e3, hm, _, l0, l1⟩ := drawEntriesAt b hb i2 h2' k0 k1
 obtain ⟨c, i4, h4', e4, m0, m1⟩ := drawOnce b i3 h3' 20 l0 l1 hb (by omega)
 simp only [spec_l27Draw.f]
 have hw : wrap64 (x - 1) = x - 1 := w64 (by omega) (by omega)
 have hlim : (l, i2, h2').1.length + (m, i3, h3').1.length < 2932031007402 := by show l.length + m.length < _; omega
 cases c
 ·refine ⟨l ++ m, x - 1, Ev.bind e (evBindS e1 (Ev.bind e2 (Ev.bind e3 (evPos hlim (evBindS e4 (evNeg (by simp) ?_)))))), by rw [List.length_append]; omega, by omega, by omega⟩
  rw [hw]
  exact Ev.now _
 ·obtain ⟨y, i5, h5', e5, y0, y1, _, _⟩ := drawBelow b i4 h4' 2 m0 m1 hb (by omega)
  have hw2 : wrap64 (200 + y) = 200 + y := w64 (by omega) (by omega)
  refine ⟨List.replicate (200 + y).toNat z27, x - 1, Ev.bind e (evBindS e1 (Ev.bind e2 (Ev.bind e3 (evPos hlim (evBindS e4 (evPos rfl (evBindS e5 ?_))))))), by rw [List.length_replicate]; omega, by omega, by omega⟩
  rw [hw, hw2]
  exact evPos (by omega) (evPos (by omega) (Ev.now _))
theorem rdMem (l : List Int) (x : Int) (h0 : 0 ≤ x) (h1 : x < (l.length : Int)) : rd l x ∈ l := by
 unfold rd
 rw [List.getD_eq_getElem?_getD, List.getElem?_eq_getElem (by omega)]
 exact List.getElem_mem _
theorem rdOfMem (l : List ByteArray) (x : Int) (h0 : 0 ≤ x) (h1 : x < (l.length : Int)) : rdOf ByteArray.empty l x ∈ l := by
 unfold rdOf
 rw [List.getD_eq_getElem?_getD, List.getElem?_eq_getElem (by omega)]
 exact List.getElem_mem _
theorem drawPickInt (b : List Int) (i h : Int) (l : List Int) (hl : 0 < l.length) (h0 : 0 ≤ i) (h1 : i ≤ b.length) (hb : b.length ≤ 16777216) : ∃ x i' h', spec_l01PickInt.f b i h l = some (x, i', h') ∧ x ∈ l ∧ 0 ≤ i' ∧ i' ≤ b.length := by
 unfold spec_l01PickInt.f
 obtain ⟨y, i2, h2', e2, y0, y1, k0, k1⟩ := drawBelow b i h (l.length : Int) h0 h1 hb (by omega)
 rw [e2]
 simp only [Option.bind_some]
 rw [if_pos y0, if_pos y1]
 exact ⟨_, _, _, rfl, rdMem l y y0 y1, k0, k1⟩
theorem drawPick (b : List Int) (i h : Int) (l : List ByteArray) (hl : 0 < l.length) (h0 : 0 ≤ i) (h1 : i ≤ b.length) (hb : b.length ≤ 16777216) : ∃ x i' h', spec_l01Pick.f b i h l = some (x, i', h') ∧ x ∈ l ∧ 0 ≤ i' ∧ i' ≤ b.length := by
 unfold spec_l01Pick.f
 obtain ⟨y, i2, h2', e2, y0, y1, k0, k1⟩ := drawBelow b i h (l.length : Int) h0 h1 hb (by omega)
 rw [e2]
 simp only [Option.bind_some]
 rw [if_pos y0, if_pos y1]
 exact ⟨_, _, _, rfl, rdOfMem l y y0 y1, k0, k1⟩
theorem drawText1 (b : List Int) (hb : b.length ≤ 16777216) (i h : Int) (h0 : 0 ≤ i) (h1 : i ≤ b.length) : ∃ t i' h', Ev (fun k => spec_l01Text.f k b i h 1) (t, i', h') ∧ ByteArray.size t ≤ 1 ∧ 0 ≤ i' ∧ i' ≤ b.length := by
 obtain ⟨x, i1, h1', e1, x0, x1, j0, j1⟩ := drawByte b i h h0 h1 hb
 refine ⟨strOfNums [x % 256], i1, h1', ?_, by rw [strOfNums_size]; exact Nat.le_refl _, j0, j1⟩
 simp only [spec_l01Text.f]
 refine evNeg (by omega) (evSucc ?_)
 simp only [spec_l01Text.j0]
 refine evSucc ?_
 simp only [spec_l01Text.l0]
 refine evPos (by omega) (evBindS e1 (evPos (by show (0 : Nat) < _; omega) (evSucc ?_)))
 simp only [spec_l01Text.l0]
 exact evNeg (by unfold wrap64; omega) (Ev.now _)
theorem drawSpoiltG (b : List Int) (hb : b.length ≤ 16777216) (s : ByteArray) (hs : s.size ≤ 16777216) (i h : Int) (h0 : 0 ≤ i) (h1 : i ≤ b.length) : ∃ t i' h', Ev (fun k => spec_l02Spoilt.f k b i h s) (t, i', h') ∧ ByteArray.size t ≤ s.size + 1 ∧ 0 ≤ i' ∧ i' ≤ b.length := by
 obtain ⟨c, i1, h1', e1, c0, c1, j0, j1⟩ := drawBelow b i h 12 h0 h1 hb (by omega)
 simp only [spec_l02Spoilt.f]
 have stay : ∀ x : Bool, x = false → ∃ t i' h', Ev (fun k => spec_l02Spoilt.j0 k s x b i1 h1') (t, i', h') ∧ ByteArray.size t ≤ s.size + 1 ∧ 0 ≤ i' ∧ i' ≤ b.length := by
  rintro x rfl
  refine ⟨s, i1, h1', evSucc ?_, by omega, j0, j1⟩
  simp only [spec_l02Spoilt.j0]
  exact evNeg (by simp) (Ev.now _)
 have swap : ∀ x : Bool, x = true → ∃ t i' h', Ev (fun k => spec_l02Spoilt.j0 k s x b i1 h1') (t, i', h') ∧ ByteArray.size t ≤ s.size + 1 ∧ 0 ≤ i' ∧ i' ≤ b.length := by
  rintro x rfl
  by_cases hz : (s.size : Int) > 0
  ·obtain ⟨y, i2, h2', e2, y0, y1, k0, k1⟩ := drawBelow b i1 h1' (s.size : Int) j0 j1 hb hz
   obtain ⟨t, i3, h3', e3, ht, l0, l1⟩ := drawText1 b hb i2 h2' k0 k1
   have hw : wrap64 (y + 1) = y + 1 := w64 (by omega) (by omega)
   refine ⟨((s.extract 0 y.toNat) ++ t) ++ s.extract (y + 1).toNat s.size, i3, h3', evSucc ?_, ?_, l0, l1⟩
   ·simp only [spec_l02Spoilt.j0]
    refine evPos trivial (evPos hz (evBindS e2 (evPos y0 (evPos (by omega) (Ev.bind e3 (evPos (by show (s.extract 0 y.toNat).size + t.size ≤ _; rw [ByteArray.size_extract]; omega) ?_))))))
    rw [hw]
    exact evPos (by omega) (evPos (by omega) (evPos (by show ((s.extract 0 y.toNat) ++ t).size + _ ≤ _; rw [sizeApp, ByteArray.size_extract, ByteArray.size_extract]; omega) (Ev.now _)))
   ·rw [sizeApp, sizeApp, ByteArray.size_extract, ByteArray.size_extract]; omega
  ·refine ⟨s, i1, h1', evSucc ?_, by omega, j0, j1⟩
   simp only [spec_l02Spoilt.j0]
   exact evPos trivial (evNeg hz (Ev.now _))
 by_cases z0 : c = 0
 ·obtain ⟨t, i3, h3', e3, ht, l0, l1⟩ := drawText1 b hb i1 h1' j0 j1
  exact ⟨s ++ t, i3, h3', evBindS e1 (evPos z0 (Ev.bind e3 (evPos (by show s.size + t.size ≤ _; omega) (Ev.now _)))), by rw [sizeApp]; omega, l0, l1⟩
 ·by_cases z1 : c = 1
  ·obtain ⟨y, i2, h2', e2, y0, y1, k0, k1⟩ := drawBelow b i1 h1' (wrap64 ((s.size : Int) + 1)) j0 j1 hb (by rw [w64 (by omega) (by omega)]; omega)
   rw [w64 (x := (s.size : Int) + 1) (by omega) (by omega)] at y1
   exact ⟨s.extract 0 y.toNat, i2, h2', evBindS e1 (evNeg z0 (evPos z1 (evBindS e2 (evPos y0 (evPos (by omega) (Ev.now _)))))), by rw [ByteArray.size_extract]; omega, k0, k1⟩
  ·by_cases z2 : c = 2
   ·obtain ⟨t, i', h', e, r⟩ := swap (c == 2) (by rw [z2]; rfl)
    exact ⟨t, i', h', evBindS e1 (evNeg z0 (evNeg z1 (evPos z2 e))), r⟩
   ·by_cases z3 : c = 3
    ·obtain ⟨t, i', h', e, r⟩ := swap (c == 3) (by rw [z3]; rfl)
     exact ⟨t, i', h', evBindS e1 (evNeg z0 (evNeg z1 (evNeg z2 e))), r⟩
    ·obtain ⟨t, i', h', e, r⟩ := stay (c == 3) (beq_eq_false_iff_ne.2 z3)
     exact ⟨t, i', h', evBindS e1 (evNeg z0 (evNeg z1 (evNeg z2 e))), r⟩
theorem drawSegs (b : List Int) (hb : b.length ≤ 16777216) (i h : Int) (h0 : 0 ≤ i) (h1 : i ≤ b.length) : ∃ (l : List S58) (i' h' : Int), Ev (fun k => spec_l28Segments.f k b i h) (l, i', h') ∧ l.length ≤ 200 ∧ (∀ s ∈ l, s.f2.length ≤ 200) ∧ 0 ≤ i' ∧ i' ≤ b.length := by
 obtain ⟨l, i1, h1', e1, hl, _, j0, j1⟩ := drawEntriesAt b hb i h h0 h1
 obtain ⟨m, i2, h2', e2, hm, _, k0, k1⟩ := drawEntriesAt b hb i1 h1' j0 j1
 obtain ⟨x, i3, h3', e3, x0, x1, l0, l1⟩ := drawBelow b i2 h2' 4 k0 k1 hb (by omega)
 obtain ⟨f1, f2⟩ := cutS_facts (l ++ m) (wrap64 (1 + x))
 refine ⟨_, i3, h3', ?_, f1, f2, l0, l1⟩
 simp only [spec_l28Segments.f]
 exact Ev.bind e1 (Ev.bind e2 (evPos (by show l.length + m.length < _; omega) (evBindS e3 (Ev.bind (ev_spec_CutLog _ _) (Ev.now _)))))
theorem rdSegMem (l : List S58) (x : Int) (h0 : 0 ≤ x) (h1 : x < (l.length : Int)) : rd_T58 l x ∈ l := by
 unfold rd_T58
 rw [List.getD_eq_getElem?_getD, List.getElem?_eq_getElem (by omega)]
 exact List.getElem_mem _
def SegsOk (l : List S58) : Prop := l.length ≤ 201 ∧ ∀ s ∈ l, s.f2.length ≤ 201
theorem segsSet {l : List S58} (h : SegsOk l) (j : Nat) (s : S58) (hs : s.f2.length ≤ 201) : SegsOk (l.set j s) := by
 refine ⟨by rw [List.length_set]; exact h.1, fun z hz => ?_⟩
 rcases List.mem_or_eq_of_mem_set hz with hz | rfl
 ·exact h.2 z hz
 ·exact hs
theorem drawSegAny (b : List Int) (hb : b.length ≤ 16777216) (i h : Int) (h0 : 0 ≤ i) (h1 : i ≤ b.length) : ∃ l i' h', Ev (fun k => spec_l28Any.f k b i h) (l, i', h') ∧ SegsOk l ∧ 0 ≤ i' ∧ i' ≤ b.length := by
 obtain ⟨x, i1, h1', e1, x0, x1, j0, j1⟩ := drawBelow b i h 8 h0 h1 hb (by omega)
 obtain ⟨l, i2, h2', e2, hl, hs, k0, k1⟩ := drawSegs b hb i1 h1' j0 j1
 have hok : SegsOk l := ⟨by omega, fun s z => by have := hs s z; omega⟩
 simp only [spec_l28Any.f]
 by_cases hz : (l.length : Int) = 0
 ·exact ⟨l, i2, h2', evBindS e1 (Ev.bind e2 (evPos hz (Ev.now _))), hok, k0, k1⟩
 obtain ⟨y, i3, h3', e3, y0, y1, l0, l1⟩ := drawBelow b i2 h2' (l.length : Int) k0 k1 hb (by omega)
 have hy := hok.2 _ (rdSegMem l y y0 y1)
 have hy2 := hs _ (rdSegMem l y y0 y1)
 by_cases z0 : x = 0
 ·obtain ⟨p, i4, h4', e4, _, m0, m1⟩ := drawPickInt b i3 h3' [(-1), 201, 3] (by decide) l0 l1 hb
  exact ⟨_, i4, h4', evBindS e1 (Ev.bind e2 (evNeg hz (evBindS e3 (evPos z0 (evBindS e4 (evPos y0 (evPos y1 (Ev.now _)))))))), segsSet hok _ _ hy, m0, m1⟩
 by_cases z1 : x = 1
 ·exact ⟨_, i3, h3', evBindS e1 (Ev.bind e2 (evNeg hz (evBindS e3 (evNeg z0 (evPos z1 (evBindS (dig_spec _ (by show 1 ≤ _; omega)) (evPos y0 (evPos y1 (Ev.now _))))))))), segsSet hok _ _ hy, l0, l1⟩
 by_cases z2 : x = 2
 ·exact ⟨_, i3, h3', evBindS e1 (Ev.bind e2 (evNeg hz (evBindS e3 (evNeg z0 (evNeg z1 (evPos z2 (evPos y0 (evPos y1 (Ev.now _))))))))), segsSet hok _ _ hy, l0, l1⟩
 by_cases z3 : x = 3
 ·have hw : wrap64 (y + 1) = y + 1 := w64 (by omega) (by omega)
  have hl1 := hok.1
  refine ⟨l.eraseIdx y.toNat, i3, h3', evBindS e1 (Ev.bind e2 (evNeg hz (evBindS e3 (evNeg z0 (evNeg z1 (evNeg z2 (evPos z3 (evPos y0 (evPos (by show y ≤ (l.length : Int); omega) ?_))))))))), ⟨Nat.le_trans (List.length_eraseIdx_le l _) hl1, fun s z => hok.2 s (List.mem_of_mem_eraseIdx z)⟩, l0, l1⟩
  rw [hw]
  exact evPos (by omega) (evPos (by show y + 1 ≤ (l.length : Int); omega) (Ev.now _))
 by_cases z4 : x = 4
 ·exact ⟨_, i3, h3', evBindS e1 (Ev.bind e2 (evNeg hz (evBindS e3 (evNeg z0 (evNeg z1 (evNeg z2 (evNeg z3 (evPos z4 (evPos y0 (evPos y1 (evBindS (ev_l28Entries _ (show (rd_T58 l y).f2.length ≤ _ by omega)) (evPos (show (rd_T58 l y).f2.length < _ by omega) (Ev.now _))))))))))))), segsSet hok _ _ (by show ((rd_T58 l y).f2 ++ [_]).length ≤ _; rw [List.length_append, List.length_singleton]; omega), l0, l1⟩
 ·exact ⟨l, i3, h3', evBindS e1 (Ev.bind e2 (evNeg hz (evBindS e3 (evNeg z0 (evNeg z1 (evNeg z2 (evNeg z3 (evNeg z4 (Ev.now _))))))))), hok, l0, l1⟩
theorem drawSegOne (b : List Int) (hb : b.length ≤ 16777216) : ∃ x : Int × ByteArray × List S27 × ByteArray, Ev (fun k => spec_l28One.f k b) x ∧ x.2.2.1.length ≤ 201 := by
 obtain ⟨h, e⟩ := drawNew b hb
 obtain ⟨x, i1, h1', e1, x0, x1, j0, j1⟩ := drawBelow b 0 h 9 (by omega) (by omega) hb (by omega)
 obtain ⟨l, i2, h2', e2, hok, _, _⟩ := drawSegAny b hb i1 h1' j0 j1
 simp only [spec_l28One.f]
 by_cases hz : (l.length : Int) = 0
 ·exact ⟨_, Ev.bind e (evBindS e1 (Ev.bind e2 (evPos hz (Ev.now _)))), Nat.zero_le _⟩
 ·have t0 : 0 ≤ Int.tmod x (l.length : Int) := by rw [Int.tmod_eq_emod_of_nonneg x0]; exact Int.emod_nonneg _ hz
  have t1 : Int.tmod x (l.length : Int) < (l.length : Int) := by rw [Int.tmod_eq_emod_of_nonneg x0]; exact Int.emod_lt_of_pos _ (by omega)
  exact ⟨_, Ev.bind e (evBindS e1 (Ev.bind e2 (evNeg hz (evPos t0 (evPos t1 (Ev.now _)))))), hok.2 _ (rdSegMem l _ t0 t1)⟩
theorem segTextS_size (a : Int) (b : ByteArray) (l : List S27) (d : ByteArray) : (segTextS a b l d).1.size ≤ 20004 := by
 unfold segTextS
 split
 ·unfold sealB
  split
  ·show (_ ++ four4 _).size ≤ _
   rw [sizeApp, four4_size]; omega
  ·exact Nat.zero_le _
 ·exact Nat.zero_le _
theorem ev_sameEntries (l : List S27) (hl : l.length ≤ 1048576) : Ev (fun k => laws_sameEntries.f k l l) true := by
 have key := evUp (r := true) l.length (fun i k => laws_sameEntries.l0 k l l (i : Int)) ?_ ?_
 ·refine Ev.congr (fun k => ?_) key
  unfold laws_sameEntries.f
  rw [if_pos rfl]
  rfl
 ·intro i hi ih
  refine evSucc ?_
  simp only [laws_sameEntries.l0]
  refine evPos (by omega) (evPos (by omega) (evPos (by omega) (evNeg (by simp) ?_)))
  rw [w64 (by omega) (by omega), ci]
  exact ih
 ·refine evSucc ?_
  simp only [laws_sameEntries.l0]
  exact evNeg (by omega) (Ev.now _)
def joinGo : List S58 → List S27 → ByteArray → List S27 × Bool
 | [], out, _ => (out, true)
 | s :: r, out, h => if segB s.f0 s.f1 s.f2 s.f3 = true ∧ s.f0 = (out.length : Int) ∧ s.f1 = h then joinGo r (out ++ s.f2) s.f3 else ([], false)
theorem segB_lens {a : Int} {b : ByteArray} {l : List S27} {d : ByteArray} (h : segB a b l d = true) : a ≤ 200 ∧ l.length ≤ 200 := by
 unfold segB at h
 split at h
 ·rename_i hc
  exact ⟨hc.2.1, hc.2.2.2.2.1⟩
 ·simp at h
theorem joinGo_len : ∀ (r : List S58) (out : List S27) (h : ByteArray), out.length ≤ 400 → (joinGo r out h).1.length ≤ 400 := by
 intro r
 induction r with
 | nil => intro out h ho; exact ho
 | cons s r ih =>
  intro out h ho
  unfold joinGo
  split
  ·rename_i hc
   have := segB_lens hc.1
   refine ih _ _ ?_
   rw [List.length_append]; omega
  ·exact Nat.zero_le _
theorem rdSeg (l : List S58) (i : Nat) (hi : i < l.length) : rd_T58 l (i : Int) = l[i] := by simp [rd_T58, hi]
theorem ev_impl_join (l : List S58) (hl : l.length ≤ 9223372036854775807) : ∀ (d i : Nat) (out : List S27) (h : ByteArray), i + d = l.length → Ev (fun k => impl_JoinSegments.l0 k out h l (l.length : Int) (i : Int)) (joinGo (l.drop i) out h) := by
 intro d
 induction d with
 | zero =>
  intro i out h hi
  refine evSucc ?_
  simp only [impl_JoinSegments.l0]
  rw [List.drop_of_length_le (by omega)]
  exact evNeg (by omega) (Ev.now _)
 | succ d ih =>
  intro i out h hi
  have hlt : i < l.length := by omega
  refine evSucc ?_
  simp only [impl_JoinSegments.l0]
  rw [List.drop_eq_getElem_cons hlt, rdSeg l i hlt, w64 (x := (i : Int) + 1) (by omega) (by omega), ci]
  unfold joinGo
  refine evPos (by omega) (evPos (by omega) (evPos (by omega) (Ev.bind (ev_impl_SegmentOk _ _ _ _) ?_)))
  by_cases h1 : segB l[i].f0 l[i].f1 l[i].f2 l[i].f3 = true
  ·have hb := segB_lens h1
   refine evPos h1 ?_
   by_cases h2 : l[i].f0 = (out.length : Int)
   ·refine evPos h2 ?_
    by_cases h3 : l[i].f1 = h
    ·rw [if_pos ⟨h1, h2, h3⟩]
     exact evPos (toList_iff.2 h3) (evPos (by omega) (ih (i + 1) _ _ (by omega)))
    ·rw [if_neg (fun z => h3 z.2.2)]
     exact evNeg (fun z => h3 (toList_inj z)) (Ev.now _)
   ·rw [if_neg (fun z => h2 z.2.1)]
    exact evNeg h2 (Ev.now _)
  ·rw [if_neg (fun z => h1 z.1)]
   exact evNeg h1 (Ev.now _)
theorem ev_spec_join (l : List S58) (hl : l.length ≤ 9223372036854775807) : ∀ (d i : Nat) (out : List S27) (h : ByteArray), i + d = l.length → Ev (fun k => spec_JoinSegments.l0 k l out h (i : Int)) (joinGo (l.drop i) out h) := by
 intro d
 induction d with
 | zero =>
  intro i out h hi
  refine evSucc ?_
  simp only [spec_JoinSegments.l0]
  rw [List.drop_of_length_le (by omega)]
  exact evNeg (by omega) (Ev.now _)
 | succ d ih =>
  intro i out h hi
  have hlt : i < l.length := by omega
  refine evSucc ?_
  simp only [spec_JoinSegments.l0]
  rw [List.drop_eq_getElem_cons hlt, rdSeg l i hlt, w64 (x := (i : Int) + 1) (by omega) (by omega), ci]
  unfold joinGo
  refine evPos (by omega) (evPos (by omega) (Ev.bind (ev_spec_SegmentOk _ _ _ _) ?_))
  by_cases h1 : segB l[i].f0 l[i].f1 l[i].f2 l[i].f3 = true
  ·have hb := segB_lens h1
   refine evPos h1 ?_
   by_cases h2 : l[i].f0 = (out.length : Int)
   ·refine evPos h2 ?_
    by_cases h3 : l[i].f1 = h
    ·rw [if_pos ⟨h1, h2, h3⟩]
     exact evPos (toList_iff.2 h3) (evPos (by omega) (ih (i + 1) _ _ (by omega)))
    ·rw [if_neg (fun z => h3 z.2.2)]
     exact evNeg (fun z => h3 (toList_inj z)) (Ev.now _)
   ·rw [if_neg (fun z => h2 z.2.1)]
    exact evNeg h2 (Ev.now _)
  ·rw [if_neg (fun z => h1 z.1)]
   exact evNeg h1 (Ev.now _)
def joinS (l : List S58) : List S27 × Bool := joinGo l [] (dig ⟨#[]⟩)
theorem joinS_len (l : List S58) : (joinS l).1.length ≤ 400 := joinGo_len l [] _ (Nat.zero_le _)
theorem ev_impl_JoinSegments (l : List S58) (hl : l.length ≤ 9223372036854775807) : Ev (fun k => impl_JoinSegments.f k l) (joinS l) := by
 simp only [impl_JoinSegments.f]
 exact Ev.bind (dig_impl _ (by show (⟨#[]⟩ : ByteArray).size ≤ _; decide)) (ev_impl_join l hl l.length 0 [] _ (by omega))
theorem ev_spec_JoinSegments (l : List S58) (hl : l.length ≤ 9223372036854775807) : Ev (fun k => spec_JoinSegments.f k l) (joinS l) := by
 simp only [spec_JoinSegments.f]
 exact evBindS (dig_spec _ (by show (⟨#[]⟩ : ByteArray).size ≤ _; decide)) (ev_spec_join l hl l.length 0 [] _ (by omega))
theorem ev_sameSegment (a : Int) (b : ByteArray) (l : List S27) (d : ByteArray) (hl : l.length ≤ 1048576) : Ev (fun k => laws_sameSegment.f k a b l d a b l d) true := by
 simp only [laws_sameSegment.f]
 exact evPos trivial (evPos trivial (evPos trivial (Ev.bind (ev_sameEntries l hl) (Ev.now _))))
theorem ev_sameSegments (l : List S58) (hl : l.length ≤ 1048576) (hs : ∀ s ∈ l, s.f2.length ≤ 1048576) : Ev (fun k => laws_sameSegments.f k l l) true := by
 have key := evUp (r := true) l.length (fun i k => laws_sameSegments.l0 k l l (i : Int)) ?_ ?_
 ·refine Ev.congr (fun k => ?_) key
  unfold laws_sameSegments.f
  rw [if_pos rfl]
  rfl
 ·intro i hi ih
  refine evSucc ?_
  simp only [laws_sameSegments.l0]
  rw [rdSeg l i hi, w64 (by omega) (by omega), ci]
  exact evPos (by omega) (evPos (by omega) (evPos (by omega) (Ev.bind (ev_sameSegment _ _ _ _ (hs _ (List.getElem_mem hi))) (evPos rfl ih))))
 ·refine evSucc ?_
  simp only [laws_sameSegments.l0]
  exact evNeg (by omega) (Ev.now _)
theorem drawHeadFrom (b : List Int) (hb : b.length ≤ 16777216) : ∃ (h : ByteArray) (l : List S27), Ev (fun k => spec_DrawHeadFrom.f k b) (h, l) ∧ h.size ≤ 16777216 ∧ l.length ≤ 16777216 := by
 obtain ⟨h, e⟩ := drawNew b hb
 obtain ⟨x, i1, h1', e1, hx, j0, j1⟩ := drawPick b 0 h [(⟨#[]⟩ : ByteArray), (⟨#[98, 101, 102, 111, 114, 101]⟩ : ByteArray)] (by decide) (by omega) (by omega) hb
 obtain ⟨l, i2, h2', e2, hl, _, _⟩ := drawAny b hb i1 h1' j0 j1
 refine ⟨x, l, ?_, ?_, by omega⟩
 ·simp only [spec_DrawHeadFrom.f]
  exact Ev.bind e (evBindS e1 (Ev.bind e2 (Ev.now _)))
 ·rcases List.mem_cons.1 hx with rfl | hx
  ·exact Nat.zero_le _
  rw [List.mem_singleton] at hx; subst hx
  show 6 ≤ _; omega
theorem drawCutLog (b : List Int) (hb : b.length ≤ 16777216) : ∃ (l : List S27) (n : Int), Ev (fun k => spec_DrawCutLog.f k b) (l, n) := by
 obtain ⟨h, e⟩ := drawNew b hb
 obtain ⟨x, i1, h1', e1, _, j0, j1⟩ := drawPickInt b 0 h [1, 2, 3, 200, 201, 0] (by decide) (by omega) (by omega) hb
 obtain ⟨l, i, et, _⟩ := drawTree b hb
 refine ⟨l, x, ?_⟩
 simp only [spec_DrawCutLog.f]
 exact Ev.bind e (evBindS e1 (Ev.bind et (Ev.now _)))
theorem drawReadSegment (b : List Int) (hb : b.length ≤ 16777216) : ∃ t : ByteArray, Ev (fun k => spec_DrawReadSegment.f k b) t ∧ t.size ≤ 30000 := by
 obtain ⟨h, e⟩ := drawNew b hb
 obtain ⟨⟨a, c, l, d⟩, e1, _⟩ := drawSegOne b hb
 obtain ⟨x, i2, h2', e2, k0, k1⟩ := drawOnce b 0 h 3 (by omega) (by omega) hb (by omega)
 have hs := segTextS_size a c l d
 simp only [spec_DrawReadSegment.f]
 cases x
 ·exact ⟨_, Ev.bind e (Ev.bind e1 (Ev.bind (ev_spec_SegmentText a c l d) (evBindS e2 (evNeg (by simp) (Ev.now _))))), by omega⟩
 ·obtain ⟨t, i3, h3', e3, ht, _, _⟩ := drawSpoiltG b hb (segTextS a c l d).1 (by omega) i2 h2' k0 k1
  exact ⟨t, Ev.bind e (Ev.bind e1 (Ev.bind (ev_spec_SegmentText a c l d) (evBindS e2 (evPos rfl (Ev.bind e3 (Ev.now _)))))), by omega⟩
theorem FnSegmentsTold : PureFnSegmentsTold.Stated := by
 intro code ⟨_, hb⟩
 refine Ev.rounds ?_
 simp only [laws_FnSegmentsTold.f, laws_big.f, Option.bind_some]
 by_cases hc : (code.length : Int) > 1048576
 ·exact evPos (by simpa using hc) (Ev.now _)
 refine evNeg (by simpa using hc) ?_
 obtain ⟨h, l, eh, lh, ll⟩ := drawHeadFrom code (by omega)
 obtain ⟨log, n, ec⟩ := drawCutLog code (by omega)
 obtain ⟨⟨a, b, m, d⟩, e1, _⟩ := drawSegOne code (by omega)
 have es : Ev (fun k => spec_DrawSegmentText.f k code) (a, b, m, d) := by
  simp only [spec_DrawSegmentText.f]
  exact Ev.bind e1 (Ev.now _)
 obtain ⟨t, et, lt⟩ := drawReadSegment code (by omega)
 obtain ⟨h', en⟩ := drawNew code (by omega)
 obtain ⟨parts, i2, h2', ep, hp, _, _⟩ := drawSegAny code (by omega) 0 h' (by omega) (by omega)
 have ej : Ev (fun k => spec_DrawJoinSegments.f k code) parts := by
  simp only [spec_DrawJoinSegments.f]
  exact Ev.bind en (Ev.bind ep (Ev.now _))
 have hpl := hp.1
 obtain ⟨c1, c2⟩ := cutS_facts log n
 refine Ev.bind eh (Ev.bind ec (Ev.bind (ev_impl_CutLog log n) (Ev.bind (ev_spec_CutLog log n) (Ev.bind es (Ev.bind (ev_impl_SegmentText a b m d) (Ev.bind (ev_spec_SegmentText a b m d) (Ev.bind et (Ev.bind (ev_impl_ReadSegment t (by omega)) (Ev.bind (ev_spec_ReadSegment t (by omega)) (Ev.bind ej (Ev.bind (ev_impl_JoinSegments parts (by omega)) (Ev.bind (ev_spec_JoinSegments parts (by omega)) ?_))))))))))))
 have hj := joinS_len parts
 have hr := readSegS_len t
 refine Ev.bind (ev_impl_HeadFrom h l lh ll) (Ev.bind (ev_spec_HeadFrom h l lh ll) (evPos rfl (evPos (by simp) (Ev.bind (ev_sameSegments _ (by omega) (fun s z => by have := c2 s z; omega)) (evPos rfl (evPos rfl (evPos (by simp) (evPos (by simp) ?_))))))))
 refine Ev.bind (ev_sameSegment _ _ _ _ (by omega)) (evPos rfl (evPos (by simp) (Ev.bind (ev_sameEntries _ (by omega)) (evPos rfl ?_))))
 exact Ev.bind (ev_impl_SegmentOk a b m d) (Ev.bind (ev_spec_SegmentOk a b m d) (evEq (Ev.now _) (by simp)))

end Go.Proofs.YtdlapahfmfhbjaaDoor.Pure

namespace Go.Proofs.YtdlapahfmfhbjaaDoor.fnSegmentsTold
open Go.ChangeShapes Go.WideShapes Go.ChangeAt Go.RowKit Go.Proofs.YtdlapahfmfhbjaaDoor.PA Go.Proofs.YtdlapahfmfhbjaaDoor.PureFnSegmentsTold Go.Proofs.YtdlapahfmfhbjaaDoorW.PrintWords
open Go.ChangeMaps (open_string shut_string)
set_option linter.unusedVariables false
set_option linter.unusedSimpArgs false
theorem own : ownKnob Tryd.prog.godebug = none := by kernel_rfl
theorem laidOut : laidOutB Tryd.prog = true := by kernel_rfl
def laidV : List (String × DataW Unit) := [("loop.example/g00397/impl.shaWords", Rows.laid_loop_example_g00397_impl_shaWords)]
theorem gTab : Tryd.prog.globalNamed "loop.example/g00397/impl.shaWords" = some 0 := by kernel_rfl
theorem gTabType : (Tryd.prog.globals[0]?).map (·.type) = some 105 := by kernel_rfl
theorem door_met (os : Os) (args : Array Value) : laidMetH Tryd.prog laidV ((World.doorLaid Tryd.prog 4000 os).forCall (fun _ _ => 0) ⟨#[], args, []⟩).memory :=
 laidMetH_of_parts3 (fuel := 8) (laidMet_of_run' 8 (by kernel_rfl) (by kernel_rfl)) (by kernel_rfl) (by kernel_rfl)
theorem vars_back {H : Type} {enc : TypeId × Value → H} {W W' : World} (hb : Below W.heap.size W W') {gs : List (DataW H)} {ps : List MemPlace} (h : DataW.TrodVars enc Tryd.prog W (fun _ => true) ["loop.example/g00397/impl.shaWords"] gs ps) :
 DataW.TrodVars enc Tryd.prog W' (fun b => decide (b < W.heap.size)) ["loop.example/g00397/impl.shaWords"] gs ps := by
 obtain ⟨g, t, cs, fu, d, p, rfl, hg, ht, hv, htr, rfl⟩ := trodVars_one h
 have hg2 := hg
 have ht2 := ht
 obtain rfl := Option.some.inj (gTab.symm.trans hg)
 obtain rfl := Option.some.inj (gTabType.symm.trans ht)
 have lt := DataW.trod_lt _ _ _ _ htr
 have hk : DataW.Trod enc Tryd.prog W' 0 (fun b => decide (b < W.heap.size)) true 105 (.agg cs) d p := Below.trod laidOut (by kernel_rfl) (of_decide_eq_true (by kernel_rfl)) (show DataW.Trod enc Tryd.prog W 0 (fun _ => true) true 105 (.agg cs) d p from ⟨fu, htr⟩) hb lt
 obtain ⟨m, hm⟩ := hk
 have hv2 : W'.var? Tryd.prog "loop.example/g00397/impl.shaWords" = some cs := by
  unfold World.var? at hv ⊢
  rw [gTab, Option.bind_some] at hv ⊢
  have hlt : 0 < W.heap.size := by
   rcases Nat.lt_or_ge 0 W.heap.size with h' | h'
   ·exact h'
   ·rw [Array.getElem?_eq_none h'] at hv; cases hv
  rw [hb.block 0 hlt]
  exact hv
 exact trodVars_mk1 hg2 ht2 hv2 hm
set_option maxRecDepth 100000 in
theorem lifted (os : Os) (started : os.Started) (H : Type) (enc : TypeId × Value → H) :
 ReturnsInHanded {} Tryd.checked os 5 .any (fun w args => (Rows.fnSegmentsToldSpec.pre enc Tryd.prog Tryd.f5 [] false w args ∧ laidMetH Tryd.prog laidV w) ∧ sizedMet enc Tryd.prog Tryd.f5 (OpenSpec.ofChange Rows.fnSegmentsToldSpec) false w args) (Rows.fnSegmentsToldSpec.post enc Tryd.prog Tryd.f5 false true false false) := by
 refine returnsInHanded_of_change_and (C := Tryd.checked) (X := fun w _ => laidMetH Tryd.prog laidV w) (fun _ _ _ hh h => h.of_heap hh) own started (by kernel_rfl) Tryd.func5
  (ChangeSpec.witness_shaped (enc := enc) (C := Tryd.checked) (os := os) (X := fun w _ => laidMetH Tryd.prog laidV w) false (World.doorLaid Tryd.prog 4000 os) #[.slice none 0 0] 8 rfl (World.shaped_of_RefB (by kernel_rfl) (by kernel_rfl)) (by kernel_rfl) (by kernel_rfl) (by kernel_rfl) (door_met os _)) ?_
 intro W base args ds gs before hval0 hW _ _ hL _
 have hT : PA.Tab W := by
  rw [MakeChecks.laidMetH_plain _ _ _ (by kernel_rfl)] at hL
  exact Lib.tabIs_of_head (rest := []) gTab gTabType (t := 105) (e := 102) (n := 64) (by kernel_rfl) (by kernel_rfl) (by kernel_rfl) (by kernel_rfl) hL
 have hval : ∀ (j : Nat) t v, Tryd.f5.params[j]? = some t → args[j]? = some v → Value.okWide Tryd.prog W .any base t v := hval0
 have hW' := hW
 obtain ⟨p, q, hA0, hV, rfl, hfz, hnd⟩ := hW
 have hA : DataW.TrodAll enc Tryd.prog W 0 (fun _ => true) true Tryd.f5.params.toList args.toList ds p := hA0
 rw [Tryd.params5] at hA hval
 obtain ⟨v0, vs0, d0, ds0, p0, q0, hargs, rfl, rfl, h0, r0⟩ := trodAll_cons hA
 obtain ⟨rfl, rfl, rfl⟩ := trodAll_nil r0
 obtain rfl : args = #[v0] := by cases args; simp_all
 obtain ⟨g1, t1, cs1, fu1, dv, pv1, rfl, _⟩ := trodVars_one hV
 have k0 := h0
 have lt0 : ∀ x ∈ p0, x.block < W.heap.size := by obtain ⟨m, hm⟩ := k0; exact DataW.trod_lt m _ _ _ hm
 obtain ⟨m0, hm0⟩ := h0
 obtain ⟨A0, n0, c0, rfl⟩ := okWide_slice Tryd.underlying22 (hval 0 22 v0 rfl rfl)
 obtain ⟨x0, ⟨A0', c0', hs0, hc0, hr0⟩, hG0⟩ := (Op.opSlice Tryd.underlying22 (by kernel_rfl) 5 (Op.opInt Tryd.underlying5 (by kernel_rfl))).op hm0
 obtain ⟨rfl, rfl, rfl⟩ : A0 = A0' ∧ n0 = x0.length ∧ c0 = c0' := by simpa [Value.cells] using hs0
 obtain ⟨k, h⟩ := Pure.FnSegmentsTold x0 hG0
 refine (laws_FnSegmentsTold.calls k A0 c0 x0 true W hr0 hc0 hT rfl h).mono fun e W' ⟨he, bel⟩ => ?_
 subst he
 exact ⟨_, rfl, _, _, _, [], _, _, hW', trodAll_mk1 (shut_bool Tryd.underlying4 _), (trodAll_cons_mk (Below.trod laidOut (by kernel_rfl) (of_decide_eq_true (by kernel_rfl)) k0 bel lt0) trodAll_mk0), vars_back bel hV, bel.frame _, fun h => by cases h⟩
theorem over : Rows.fnSegmentsToldRow.holds Tryd.pinned (OpenSpec.ofChange Rows.fnSegmentsToldSpec) :=
 OpenClaim.holds_of_wide 5 Tryd.f5 rfl rfl rfl rfl rfl rfl rfl ⟨rfl, rfl, rfl, rfl, rfl⟩ rfl rfl rfl rfl rfl (by kernel_rfl) Tryd.func5 (by kernel_rfl)
  (of_decide_eq_true (by kernel_rfl)) (by unfold Func.isWrapper; first | (rw [if_pos (by decide +kernel)]; kernel_rfl) | (rw [if_neg (by decide +kernel)]; exact ⟨rfl, rfl⟩))
  (fun os started H enc _ => lifted os started H enc)
theorem proved : Rows.FnSegmentsToldSaid := over
#print axioms proved
end Go.Proofs.YtdlapahfmfhbjaaDoor.fnSegmentsTold
namespace Go.Proofs.YtdlapahfmfhbjaaDoor
theorem fnSegmentsTold_holds : Rows.FnSegmentsToldCardSaid :=
 Claim7.holds_tied_plain_at .later [] [.data] true (true, "fa0b9099e42f3be315dc93dea7eeb6b616dfd6e0f51a4126b7a18e1012786f54") false
  fnSegmentsTold.proved (fun _ h => by cases h) (by kernel_rfl) (fun _ h => by cases h) fnSegmentsTold_row_tie rfl ⟨rfl, rfl⟩ (by kernel_rfl) rfl
  (fun f fn hf hfn => by
   obtain rfl : f = 5 := Option.some.inj ((show Tryd.prog.funcNamed "loop.example/g00397/laws.FnSegmentsTold" = some 5 by kernel_rfl).symm.trans hf) |>.symm
   obtain rfl : fn = Tryd.f5 := (Option.some.inj (Tryd.func5.symm.trans hfn)).symm
   exact ⟨by kernel_rfl, fun j t ht => by
    rw [Tryd.params5] at ht
    have h3 : t = 22 := by
     match j, ht with
     | 0, ht => simp at ht; subst ht; simp
     | _ + 1, ht => simp at ht
    rcases h3 with rfl
    ·exact (show Tryd.prog.wantsStandIn 22 = false by kernel_rfl)⟩)
  (by kernel_rfl)
end Go.Proofs.YtdlapahfmfhbjaaDoor

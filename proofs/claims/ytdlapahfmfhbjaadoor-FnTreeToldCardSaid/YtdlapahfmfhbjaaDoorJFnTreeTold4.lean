/- Contracts of functions of the program and of the reference, and plain lemmas on what they compute: a part of the proof of the law FnTreeTold. No condition. -/
import Derived.Test.YtdlapahfmfhbjaaDoorG523dfx1
import Derived.Test.YtdlapahfmfhbjaaDoorG523dfx0
import Derived.Test.YtdlapahfmfhbjaaDoorJFnTreeTold3
import Derived.Test.YtdlapahfmfhbjaaDoorRows
import Derived.WalkKit
import Derived.ProofKit
import Derived.OpenShut
import Derived.ShutString
import Derived.ChangeOld
import Derived.Below
import Derived.SizedLaws
import Derived.Carry
import Derived.LaidLaws
import Derived.LaidMore
import Derived.MakeChecks
import Derived.Stop.Joined
import Derived.ChangeVars
import Derived.Lib.LaidTab
import Derived.Test.YtdlapahfmfhbjaaDoorCards
import Derived.Test.YtdlapahfmfhbjaaDoorTie
import Derived.SevenTiedAt
import Derived.Test.YtdlapahfmfhbjaaDoorShortV
namespace Go.Proofs.YtdlapahfmfhbjaaDoor.DigestEq
open Go.RowKit Go.Proofs.YtdlapahfmfhbjaaDoorW.PrintWords Go.Proofs.YtdlapahfmfhbjaaDoorW.PrintLast Go.Proofs.YtdlapahfmfhbjaaDoorW.PrintMore Go.Proofs.YtdlapahfmfhbjaaDoor.Kit Go.Proofs.YtdlapahfmfhbjaaDoor.PA
open Go.Proofs.YtdlapahfmfhbjaaDoor.PH (hs hs_len padS padS_size blocks f4 f4_len padBytes padZ hFirst shaB shaB_len outs strOfNums_size)
set_option linter.unusedVariables false
theorem strApp (a b : List Int) : strOfNums (a ++ b) = strOfNums a ++ strOfNums b := by
 apply ByteArray.ext
 simp [strOfNums]
theorem strBytes (s : ByteArray) : strOfNums (bytesOf s) = s := by
 apply ByteArray.ext
 apply Array.ext'
 simp [strOfNums, bytesOf, Function.comp_def]
theorem hi8 (N : Int) : (List.range 8).map (fun q => N / 2 ^ (8 * (7 - q)) % 256) = f4 (N / 4294967296) ++ f4 N := by
 have h0 : N / 72057594037927936 % 256 = N / 4294967296 / 16777216 % 256 := by omega
 have h1 : N / 281474976710656 % 256 = N / 4294967296 / 65536 % 256 := by omega
 have h2 : N / 1099511627776 % 256 = N / 4294967296 / 256 % 256 := by omega
 simp [List.range, List.range.loop, f4, h0, h1, h2]
theorem padEq (a0 : ByteArray) (hb : a0.size ≤ 1073741824) : impl_PadText.f a0 = some (padS a0) := by
 have e : Int.tmod (wrap64 (64 - (Int.tmod (wrap64 ((a0.size : Int) + 9)) 64))) 64 = (padZ a0.size : Int) := by
  have c1 : Int.tmod ((a0.size : Int) + 9) 64 = ((a0.size : Int) + 9) % 64 := Int.tmod_eq_emod_of_nonneg (by omega)
  rw [w64 (x := (a0.size : Int) + 9) (by omega) (by omega), c1, w64 (by omega) (by omega)]
  have c2 : Int.tmod (64 - ((a0.size : Int) + 9) % 64) 64 = (64 - ((a0.size : Int) + 9) % 64) % 64 := Int.tmod_eq_emod_of_nonneg (by omega)
  rw [c2]
  unfold padZ
  omega
 have hz : padZ a0.size < 64 := by unfold padZ; omega
 have e8 : wrap64 (8 * (a0.size : Int)) = 8 * (a0.size : Int) := w64 (by omega) (by omega)
 unfold impl_PadText.f impl_four.f
 rw [e, e8, if_pos (by omega), if_pos (by omega), if_pos (by omega)]
 simp only [Option.bind_some, Int.toNat_natCast]
 have s1 : (a0 ++ (⟨#[128]⟩ : ByteArray)).size = a0.size + 1 := by rw [ByteArray.size_append]; rfl
 have s2 : (strOfNums (List.replicate (padZ a0.size) 0)).size = padZ a0.size := by rw [strOfNums_size, List.length_replicate]
 have s3 (x : Int) : (strOfNums [x / 16777216 % 256, x / 65536 % 256, x / 256 % 256, x % 256]).size = 4 := by rw [strOfNums_size]; rfl
 rw [if_pos (by rw [s1, s2]; omega), if_pos (by rw [ByteArray.size_append, s1, s2, s3]; omega), if_pos (by rw [ByteArray.size_append, ByteArray.size_append, s1, s2, s3, s3]; omega)]
 unfold padS padBytes
 have c (l : List Int) : strOfNums (128 :: l) = (⟨#[128]⟩ : ByteArray) ++ strOfNums l := strApp [128] l
 rw [hi8, strApp, c, strApp, strApp, strBytes]
 simp only [← ByteArray.append_assoc]
 rfl
theorem half_first : ∀ x ∈ hFirst, 0 ≤ x ∧ x ≤ 4294967295 := by decide
theorem half_sha (l : List Int) (t : ByteArray) (h : l.length = 8) : ∀ x ∈ shaB l t, 0 ≤ x ∧ x ≤ 4294967295 := by
 intro x hx
 unfold PH.shaB PH.outs at hx
 rw [List.drop_of_length_le (by omega), List.append_nil] at hx
 obtain ⟨i, _, rfl⟩ := List.mem_map.1 hx
 constructor <;> omega
theorem half_hs (p : ByteArray) : ∀ j, ∀ x ∈ hs p j, 0 ≤ x ∧ x ≤ 4294967295
 | 0 => half_first
 | j + 1 => half_sha _ _ (hs_len p j)
theorem rdS (l : List Int) (i : Nat) (hi : i < l.length) : rd l (i : Int) = l[i] := by simp [rd, hi]
theorem ev_out (s : List Int) (h : s.length = 8) : Ev (fun k => impl_Digest.l1 k (⟨#[]⟩ : ByteArray) s (s.length : Int) 0) (strOfNums (s.flatMap f4)) := by
 have key := evUp (r := strOfNums (s.flatMap f4)) 8 (fun i k => impl_Digest.l1 k (strOfNums ((s.take i).flatMap f4)) s (s.length : Int) (i : Int)) ?_ ?_
 ·exact key
 ·intro i hi ih
  refine evSucc ?_
  simp only [impl_Digest.l1]
  have hsz : (strOfNums ((s.take i).flatMap f4)).size = 4 * i := by rw [strOfNums_size, f4_len, List.length_take]; omega
  refine evPos (by omega) (evPos (by omega) (evPos (by omega) (evBindS (a := strOfNums (f4 s[i])) (by rw [rdS s i (by omega)]; rfl) (evPos (by rw [hsz, strOfNums_size]; simp [f4]; omega) ?_))))
  rw [w64 (by omega) (by omega), ci, ← strApp]
  have e : (s.take i).flatMap f4 ++ f4 s[i] = (s.take (i + 1)).flatMap f4 := by
   rw [List.take_succ_eq_append_getElem (by omega), List.flatMap_append]; simp
  rw [e]
  exact ih
 ·refine evSucc ?_
  simp only [impl_Digest.l1]
  refine evNeg (by omega) (evEq (Ev.now _) ?_)
  rw [List.take_of_length_le (by omega)]
def dig (a0 : ByteArray) : ByteArray := strOfNums ((hs (padS a0) (blocks a0.size)).flatMap f4)
theorem dig_spec (a0 : ByteArray) (hb : a0.size ≤ 1073741824) : spec_Digest.f a0 = some (dig a0) := by
 unfold spec_Digest.f; rw [if_pos hb]; rfl
theorem dig_impl (a0 : ByteArray) (hb : a0.size ≤ 1073741824) : Ev (fun k => impl_Digest.f k a0) (dig a0) := by
 simp only [impl_Digest.f]
 refine evBindS (padEq a0 hb) (evBindS (a := hFirst) rfl ?_)
 have hp := padS_size a0
 have hn : blocks a0.size ≤ 16777218 := by unfold PH.blocks; omega
 unfold dig
 generalize blocks a0.size = nb at hp hn ⊢
 generalize padS a0 = p at hp ⊢
 have key := evUp (r := strOfNums ((hs p nb).flatMap f4)) nb (fun i k => impl_Digest.l0 k p (hs p i) (64 * (i : Int))) ?_ ?_
 ·exact key
 ·intro i hi ih
  refine evSucc ?_
  simp only [impl_Digest.l0]
  have hw : wrap64 (64 * (i : Int) + 64) = 64 * (i : Int) + 64 := w64 (by omega) (by omega)
  rw [hw]
  refine evPos (by omega) (evPos (by omega) (evPos (by omega) (evPos (by omega) (evBindS (a := hs p (i + 1)) ?_ ?_))))
  ·rw [show (64 * (i : Int)).toNat = 64 * i by omega, show (64 * (i : Int) + 64).toNat = 64 * i + 64 by omega]
   unfold impl_ShaBlock.f
   rw [if_pos ⟨hs_len p i, by rw [ByteArray.size_extract]; omega, half_hs p i⟩]
   rfl
  ·rw [show 64 * (i : Int) + 64 = 64 * ((i + 1 : Nat) : Int) by omega]
   exact ih
 ·refine evSucc ?_
  simp only [impl_Digest.l0]
  exact evNeg (by omega) (ev_out _ (hs_len p nb))
end Go.Proofs.YtdlapahfmfhbjaaDoor.DigestEq

namespace Go.Proofs.YtdlapahfmfhbjaaDoor.Pure
open Go.RowKit Go.Proofs.YtdlapahfmfhbjaaDoor.PA Go.Proofs.YtdlapahfmfhbjaaDoorW.PrintWords Go.Proofs.YtdlapahfmfhbjaaDoorW.PrintLast Go.Proofs.YtdlapahfmfhbjaaDoorW.PrintMore Go.Proofs.YtdlapahfmfhbjaaDoor.Kit Go.Proofs.YtdlapahfmfhbjaaDoor.PureFnTreeTold
set_option linter.unusedVariables false
set_option linter.unusedSimpArgs false
def rng (x lo hi : Int) : Bool := decide (lo ≤ x) && decide (x ≤ hi)
theorem spec_in (x lo hi : Int) : spec_l01In.f x lo hi = some (rng x lo hi) := by
 unfold spec_l01In.f rng
 by_cases h : x ≥ lo
 ·simp [h]
 ·simp [h]
  try omega
theorem impl_in (x lo hi : Int) : impl_within.f x lo hi = some (rng x lo hi) := by
 unfold impl_within.f rng
 by_cases h : x ≥ lo
 ·simp [h]
 ·simp [h]
  try omega
theorem bits_nat (op : BinOp) (k : IntKind) (x y : Int) : Go.bits op k x y = match op with
 | .and => k.wrap ((BitVec.ofInt k.bits x &&& BitVec.ofInt k.bits y).toNat : Int)
 | .or => k.wrap ((BitVec.ofInt k.bits x ||| BitVec.ofInt k.bits y).toNat : Int)
 | .xor => k.wrap ((BitVec.ofInt k.bits x ^^^ BitVec.ofInt k.bits y).toNat : Int)
 | .andNot => k.wrap ((BitVec.ofInt k.bits x &&& ~~~BitVec.ofInt k.bits y).toNat : Int)
 | _ => Go.bits op k x y := by
 cases op <;> rfl
theorem ofInt_nat32 (n : Nat) (h : n < 4294967296) : (BitVec.ofInt 32 (n : Int)).toNat = n := by
 rw [BitVec.toNat_ofInt]; omega
theorem ofInt_nat64 (n : Nat) (h : n < 18446744073709551616) : (BitVec.ofInt 64 (n : Int)).toNat = n := by
 rw [BitVec.toNat_ofInt]; omega
theorem wrap_u32 (x : Int) : IntKind.wrap .u32 x = x % 4294967296 := rfl
theorem wrap_i64 (x : Int) : IntKind.wrap .i64 x = wrap64 x := i64_w x
theorem xor_u32_rng (x y : Int) : 0 ≤ Go.bits .xor .u32 x y ∧ Go.bits .xor .u32 x y < 4294967296 := by
 rw [bits_nat]
 show 0 ≤ IntKind.wrap .u32 _ ∧ IntKind.wrap .u32 _ < _
 rw [wrap_u32]
 omega
theorem and_u32_one (x : Int) (h0 : 0 ≤ x) (h1 : x < 4294967296) : Go.bits .and .u32 x 1 = x % 2 := by
 rw [bits_nat]
 show IntKind.wrap .u32 ((BitVec.ofInt 32 x &&& BitVec.ofInt 32 ((1 : Nat) : Int)).toNat : Int) = _
 obtain ⟨n, rfl⟩ := Int.eq_ofNat_of_zero_le h0
 rw [BitVec.toNat_and, ofInt_nat32 n (by omega), ofInt_nat32 1 (by omega), Nat.and_one_is_mod, wrap_u32]
 omega
theorem var_byte (x : Int) (h0 : 0 ≤ x) (h1 : x ≤ 1000000000) : (Go.bits .or .i64 (Go.bits .and .i64 x 127) 128) % 256 = x % 128 + 128 := by
 obtain ⟨n, rfl⟩ := Int.eq_ofNat_of_zero_le h0
 have e1 : Go.bits .and .i64 (n : Int) 127 = ((n % 128 : Nat) : Int) := by
  rw [bits_nat]
  show IntKind.wrap .i64 ((BitVec.ofInt 64 (n : Int) &&& BitVec.ofInt 64 ((127 : Nat) : Int)).toNat : Int) = _
  rw [BitVec.toNat_and, ofInt_nat64 n (by omega), ofInt_nat64 127 (by omega), wrap_i64]
  have : n &&& 127 = n % 128 := Nat.and_two_pow_sub_one_eq_mod n 7
  rw [this, w64 (by omega) (by omega)]
 rw [e1, bits_nat]
 show IntKind.wrap .i64 ((BitVec.ofInt 64 ((n % 128 : Nat) : Int) ||| BitVec.ofInt 64 ((128 : Nat) : Int)).toNat : Int) % 256 = _
 rw [BitVec.toNat_or, ofInt_nat64 (n % 128) (by omega), ofInt_nat64 128 (by omega), wrap_i64]
 have h : ∀ m : Fin 128, (m.val ||| 128) = m.val + 128 := by decide
 have hm := h ⟨n % 128, by omega⟩
 have e2 : (n % 128 ||| 128) = n % 128 + 128 := hm
 rw [e2, w64 (by omega) (by omega)]
 omega
def varL (n : Nat) : List Int := if h : n ≤ 127 then [(n : Int)] else ((n % 128 + 128 : Nat) : Int) :: varL (n / 128)
 termination_by n
 decreasing_by omega
theorem varL_small (n : Nat) (h : n ≤ 127) : varL n = [(n : Int)] := by rw [varL, dif_pos h]
theorem varL_big (n : Nat) (h : 127 < n) : varL n = ((n % 128 + 128 : Nat) : Int) :: varL (n / 128) := by rw [varL, dif_neg (by omega)]
theorem varL_len (n : Nat) (h : n ≤ 1000000000) : (varL n).length ≤ 5 := by
 have key : ∀ (j n : Nat), n < 128 ^ (j + 1) → (varL n).length ≤ j + 1 := by
  intro j
  induction j with
  | zero => intro n h; rw [varL_small n (by omega)]; simp
  | succ j ih =>
   intro n h
   by_cases hn : n ≤ 127
   ·rw [varL_small n hn]; simp
   ·rw [varL_big n (by omega), List.length_cons]
    have := ih (n / 128) (by rw [Nat.pow_succ] at h; omega)
    omega
 exact key 4 n (by omega)
def varS (n : Int) : ByteArray := strOfNums (varL n.toNat)
theorem varS_size (n : Int) (h : n ≤ 1000000000) : (varS n).size ≤ 5 := by
 unfold varS; rw [strOfNums_size]; exact varL_len _ (by omega)
theorem ev_spec_l01Var (n : Int) (h0 : 0 ≤ n) (h1 : n ≤ 1000000000) : Ev (fun k => spec_l01Var.f k n) (varS n) := by
 have key : ∀ (m : Nat) (acc : List Int), m ≤ 1000000000 → acc.length + m ≤ 2000000000 → Ev (fun k => spec_l01Var.l0 k (m : Int) acc) (strOfNums (acc ++ varL m)) := by
  intro m
  induction m using Nat.strongRecOn with
  | ind m ih =>
   intro acc hm ha
   refine evSucc ?_
   simp only [spec_l01Var.l0]
   have e : Int.tdiv (m : Int) 128 = ((m / 128 : Nat) : Int) := by rw [Int.tdiv_eq_ediv_of_nonneg (by omega)]; omega
   have e2 : Int.tmod (m : Int) 128 = ((m % 128 : Nat) : Int) := by rw [Int.tmod_eq_emod_of_nonneg (by omega)]; omega
   by_cases hb : m ≤ 127
   ·refine evNeg (by omega) (evPos (by omega) ?_)
    rw [varL_small m hb, show (m : Int) % 256 = m by omega]
    exact Ev.now _
   ·refine evPos (by omega) (evPos (by omega) ?_)
    rw [e, e2, w64 (by omega) (by omega), w64 (by omega) (by omega), varL_big m (by omega)]
    have := ih (m / 128) (by omega) (acc ++ [((m % 128 + 128 : Nat) : Int)]) (by omega) (by simp; omega)
    rw [List.append_assoc] at this
    rw [show (((m % 128 : Nat) : Int) + 128) % 256 = ((m % 128 + 128 : Nat) : Int) by omega]
    exact this
 have := key n.toNat [] (by omega) (by simp; omega)
 rw [Int.toNat_of_nonneg h0] at this
 exact this
theorem ev_impl_VarText (n : Int) : Ev (fun k => impl_VarText.f k n) (if rng n 0 1000000000 = true then (varS n, true) else (⟨#[]⟩, false)) := by
 simp only [impl_VarText.f, impl_in, Option.bind_some]
 refine evIte (fun h => ?_) (fun h => Ev.now _)
 have hr : 0 ≤ n ∧ n ≤ 1000000000 := by unfold rng at h; simpa using h
 have key : ∀ (m : Nat) (acc : List Int), m ≤ 1000000000 → acc.length + m ≤ 2000000000 → Ev (fun k => impl_VarText.l0 k (m : Int) acc) (strOfNums (acc ++ varL m), true) := by
  intro m
  induction m using Nat.strongRecOn with
  | ind m ih =>
   intro acc hm ha
   refine evSucc ?_
   simp only [impl_VarText.l0]
   by_cases hb : m ≤ 127
   ·refine evNeg (by omega) (evPos (by omega) ?_)
    rw [varL_small m hb, show (m : Int) % 256 = m by omega]
    exact Ev.now _
   ·refine evPos (by omega) (evPos (by omega) ?_)
    rw [var_byte m (by omega) (by omega), varL_big m (by omega)]
    have := ih (m / 128) (by omega) (acc ++ [((m % 128 + 128 : Nat) : Int)]) (by omega) (by simp; omega)
    rw [List.append_assoc] at this
    rw [show (m : Int) / 128 = ((m / 128 : Nat) : Int) by omega, show (m : Int) % 128 + 128 = ((m % 128 + 128 : Nat) : Int) by omega]
    exact this
 have := key n.toNat [] (by omega) (by simp; omega)
 rw [Int.toNat_of_nonneg hr.1] at this
 exact this
theorem ev_impl_VarText_ok (n : Int) (h0 : 0 ≤ n) (h1 : n ≤ 1000000000) : Ev (fun k => impl_VarText.f k n) (varS n, true) :=
 evEq (ev_impl_VarText n) (if_pos (by unfold rng; simp [h0, h1]))
def itemB (a b c d : Int) : Bool := if a = 1 then rng b 0 4294967295 && (rng c 0 4294967295 && d == 0) else if a = 2 then rng d 1 1000000000 && (b == 0 && c == 0) else false
theorem spec_itemB (a b c d : Int) : spec_ItemOk.f a b c d = some (itemB a b c d) := by
 unfold spec_ItemOk.f itemB
 simp only [spec_HalfOk.f, spec_in, Option.bind_some]
 by_cases h1 : a = 1
 ·rw [if_pos h1, if_pos h1]
  cases rng b 0 4294967295 <;> cases rng c 0 4294967295 <;> simp
 ·rw [if_neg h1, if_neg h1]
  by_cases h2 : a = 2
  ·rw [if_pos h2, if_pos h2]
   by_cases hb : b = 0
   ·cases rng d 1 1000000000 <;> simp [hb]
   ·cases rng d 1 1000000000 <;> simp [hb]
  ·rw [if_neg h2, if_neg h2]
theorem impl_itemB (a b c d : Int) : impl_ItemOk.f a b c d = some (itemB a b c d) := by
 unfold impl_ItemOk.f itemB
 simp only [impl_HalfOk.f, impl_in, Option.bind_some]
 by_cases h1 : a = 1
 ·rw [if_pos h1, if_pos h1]
  cases rng b 0 4294967295 <;> cases rng c 0 4294967295 <;> simp
 ·rw [if_neg h1, if_neg h1]
  by_cases h2 : a = 2
  ·rw [if_pos h2, if_pos h2]
   by_cases hb : b = 0
   ·cases rng d 1 1000000000 <;> simp [hb]
   ·cases rng d 1 1000000000 <;> simp [hb]
  ·rw [if_neg h2, if_neg h2]
def frameB (a b c d e f g : Int) : Bool := rng b 0 2 && (rng c 1 1000000000 && (if a = 1 then itemB d e f g else if a = 2 then (d == 0 && (e == 0 && (f == 0 && (g == 0)))) else false))
theorem ev_spec_FrameOk (a b c d e f g : Int) : Ev (fun k => spec_FrameOk.f k a b c d e f g) (frameB a b c d e f g) := by
 simp only [spec_FrameOk.f, spec_in, Option.bind_some]
 unfold frameB
 cases rng b 0 2
 ·refine evNeg (by simp) (evSucc ?_)
  simp only [spec_FrameOk.j0, Bool.false_and]
  exact evPos (by simp) (Ev.now _)
 ·refine evPos rfl (evSucc ?_)
  simp only [spec_FrameOk.j0, spec_itemB, Option.bind_some, Bool.true_and]
  cases rng c 1 1000000000
  ·exact evPos (by decide) (Ev.now _)
  ·refine evNeg (by simp) ?_
   simp only [Bool.true_and]
   exact evIte (fun _ => Ev.now _) (fun _ => evIte (fun _ => Ev.now _) (fun _ => Ev.now _))
theorem ev_impl_FrameOk (a b c d e f g : Int) : Ev (fun k => impl_FrameOk.f k a b c d e f g) (frameB a b c d e f g) := by
 simp only [impl_FrameOk.f, impl_isPid.f, impl_in, Option.bind_some]
 unfold frameB
 cases rng b 0 2
 ·refine evNeg (by simp) (evSucc ?_)
  simp only [impl_FrameOk.j0, Bool.false_and]
  exact evPos (by simp) (Ev.now _)
 ·refine evPos rfl (evSucc ?_)
  simp only [impl_FrameOk.j0, impl_itemB, Option.bind_some, Bool.true_and]
  cases rng c 1 1000000000
  ·exact evPos (by decide) (Ev.now _)
  ·refine evNeg (by simp) ?_
   simp only [Bool.true_and]
   exact evIte (fun _ => Ev.now _) (fun _ => evIte (fun _ => Ev.now _) (fun _ => Ev.now _))
theorem itemB_count {a b c d : Int} (h : itemB a b c d = true) : 0 ≤ d ∧ d ≤ 1000000000 := by
 unfold itemB rng at h
 split at h
 ·simp at h; omega
 ·split at h
  ·simp at h; omega
  ·simp at h
theorem frameB_facts {a b c d e f g : Int} (h : frameB a b c d e f g = true) : (0 ≤ b ∧ b ≤ 2) ∧ (1 ≤ c ∧ c ≤ 1000000000) ∧ (0 ≤ g ∧ g ≤ 1000000000) ∧ (a = 1 ∨ a = 2) := by
 unfold frameB at h
 simp only [Bool.and_eq_true] at h
 obtain ⟨h1, h2, h3⟩ := h
 unfold rng at h1 h2
 simp at h1 h2
 refine ⟨h1, h2, ?_⟩
 split at h3
 ·rename_i ha
  exact ⟨itemB_count h3, Or.inl ha⟩
 ·split at h3
  ·rename_i ha
   simp at h3
   exact ⟨by omega, Or.inr ha⟩
  ·simp at h3
def sumBit (x : Int) : Int := if x % 2 = 1 then Go.bits .xor .u32 (x / 2) 3558460437 else x / 2
def sumByte (x b : Int) : Int := sumBit (sumBit (sumBit (sumBit (sumBit (sumBit (sumBit (sumBit (Go.bits .xor .u32 x b))))))))
def sumAll (x : Int) (s : ByteArray) : Nat → Int
 | 0 => x
 | i + 1 => sumByte (sumAll x s i) (bt s i)
theorem sumBit_rng (x : Int) (h : 0 ≤ x ∧ x < 4294967296) : 0 ≤ sumBit x ∧ sumBit x < 4294967296 := by
 unfold sumBit
 split
 ·exact xor_u32_rng _ _
 ·omega
theorem sumByte_rng (x b : Int) : 0 ≤ sumByte x b ∧ sumByte x b < 4294967296 := by
 unfold sumByte
 repeat (first | exact xor_u32_rng _ _ | apply sumBit_rng)
theorem sumAll_rng (x : Int) (s : ByteArray) (h : 0 ≤ x ∧ x < 4294967296) : ∀ i, 0 ≤ sumAll x s i ∧ sumAll x s i < 4294967296
 | 0 => h
 | _ + 1 => sumByte_rng _ _
theorem sum_impl_step (x : Int) (s : ByteArray) (i j r : Int) (h : 0 ≤ x ∧ x < 4294967296) (hj : j < 8 ∧ 0 ≤ j) (next : Ev (fun k => impl_SumMore.l1 k (sumBit x) s i (j + 1)) r) : Ev (fun k => impl_SumMore.l1 k x s i j) r := by
 refine evSucc ?_
 simp only [impl_SumMore.l1]
 refine evPos hj.1 ?_
 rw [and_u32_one x h.1 h.2, w64 (by omega) (by omega)]
 unfold sumBit at next
 by_cases hx : x % 2 = 1
 ·rw [if_pos hx] at next; exact evPos hx next
 ·rw [if_neg hx] at next; exact evNeg hx next
theorem sum_spec_step (x : Int) (s : ByteArray) (i j r : Int) (h : 0 ≤ x ∧ x < 4294967296) (hj : j < 8 ∧ 0 ≤ j) (next : Ev (fun k => spec_SumMore.l1 k (sumBit x) s i (j + 1)) r) : Ev (fun k => spec_SumMore.l1 k x s i j) r := by
 refine evSucc ?_
 simp only [spec_SumMore.l1]
 refine evPos hj.1 ?_
 rw [Int.tmod_eq_emod_of_nonneg h.1, Int.tdiv_eq_ediv_of_nonneg h.1, w64 (by omega) (by omega), show x / 2 % 4294967296 = x / 2 by omega]
 unfold sumBit at next
 by_cases hx : x % 2 = 1
 ·rw [if_pos hx] at next; exact evPos hx next
 ·rw [if_neg hx] at next; exact evNeg hx next
theorem ev_impl_SumMore (x : Int) (s : ByteArray) (h : 0 ≤ x ∧ x < 4294967296) (hs : s.size ≤ 140737488351232) : Ev (fun k => impl_SumMore.f k x s) (sumAll x s s.size) := by
 have key := evUp (r := sumAll x s s.size) s.size (fun i k => impl_SumMore.l0 k (sumAll x s i) s (i : Int)) ?_ ?_
 ·exact key
 ·intro i hi ih
  refine evSucc ?_
  simp only [impl_SumMore.l0]
  have hb := bt_range s (i : Int)
  refine evPos (by omega) (evPos (by omega) ?_)
  rw [show bt s (i : Int) % 4294967296 = bt s (i : Int) by omega]
  iterate 8 (refine sum_impl_step _ _ _ _ _ (by repeat (first | exact xor_u32_rng _ _ | apply sumBit_rng)) (by decide) ?_)
  refine evSucc ?_
  simp only [impl_SumMore.l1]
  refine evNeg (by decide) ?_
  rw [w64 (by omega) (by omega), ci]
  exact ih
 ·refine evSucc ?_
  simp only [impl_SumMore.l0]
  exact evNeg (by omega) (Ev.now _)
theorem ev_spec_SumMore (x : Int) (s : ByteArray) (h : 0 ≤ x ∧ x < 4294967296) (hs : s.size ≤ 140737488351232) : Ev (fun k => spec_SumMore.f k x s) (sumAll x s s.size) := by
 have key := evUp (r := sumAll x s s.size) s.size (fun i k => spec_SumMore.l0 k (sumAll x s i) s (i : Int)) ?_ ?_
 ·exact key
 ·intro i hi ih
  refine evSucc ?_
  simp only [spec_SumMore.l0]
  have hb := bt_range s (i : Int)
  refine evPos (by omega) (evPos (by omega) ?_)
  rw [show bt s (i : Int) % 4294967296 = bt s (i : Int) by omega]
  iterate 8 (refine sum_spec_step _ _ _ _ _ (by repeat (first | exact xor_u32_rng _ _ | apply sumBit_rng)) (by decide) ?_)
  refine evSucc ?_
  simp only [spec_SumMore.l1]
  refine evNeg (by decide) ?_
  rw [w64 (by omega) (by omega), ci]
  exact ih
 ·refine evSucc ?_
  simp only [spec_SumMore.l0]
  exact evNeg (by omega) (Ev.now _)
def sumS (s : ByteArray) : Int := sumAll 4294967295 s s.size
theorem sumS_rng (s : ByteArray) : 0 ≤ sumS s ∧ sumS s < 4294967296 := sumAll_rng _ _ (by omega) _
def four4 (n : Int) : ByteArray := strOfNums [(n / 16777216) % 256, (n / 65536) % 256, (n / 256) % 256, n % 256]
theorem four4_size (n : Int) : (four4 n).size = 4 := by simp [four4, strOfNums_size]
theorem impl_four4 (n : Int) : impl_four.f n = some (four4 n) := rfl
theorem spec_four4 (n : Int) : spec_l06Four.f n = some (four4 n) := rfl
theorem spec_four2 (n : Int) : spec_l02Four.f n = some (four4 n) := rfl
def sealB (s : ByteArray) : ByteArray × Bool := if s.size ≤ 20000 then (s ++ four4 (sumS s), true) else (⟨#[]⟩, false)
theorem ev_impl_Sealed (s : ByteArray) (hs : s.size ≤ 140737488351232) : Ev (fun k => impl_Sealed.f k s) (sealB s) := by
 simp only [impl_Sealed.f, impl_SumOf.f]
 unfold sealB
 by_cases h : s.size ≤ 20000
 ·have hr := sumS_rng s
  rw [if_pos h]
  refine evNeg (by omega) (Ev.bind (Ev.bind (ev_impl_SumMore _ s (by omega) hs) (Ev.now _)) ?_)
  rw [show sumAll 4294967295 s s.size = sumS s from rfl, w64 (by omega) (by omega)]
  simp only [impl_four4, Option.bind_some]
  exact evPos (by rw [four4_size]; omega) (Ev.now _)
 ·rw [if_neg h]
  exact evPos (by omega) (Ev.now _)
theorem ev_spec_Sealed (s : ByteArray) (hs : s.size ≤ 140737488351232) : Ev (fun k => spec_Sealed.f k s) (sealB s) := by
 simp only [spec_Sealed.f, spec_SumOf.f]
 unfold sealB
 by_cases h : s.size ≤ 20000
 ·rw [if_pos h]
  refine evNeg (by omega) (Ev.bind (Ev.bind (ev_spec_SumMore _ s (by omega) hs) (Ev.now _)) ?_)
  rw [show sumAll 4294967295 s s.size = sumS s from rfl]
  simp only [spec_four2, Option.bind_some]
  exact evPos (by rw [four4_size]; omega) (Ev.now _)
 ·rw [if_neg h]
  exact evPos (by omega) (Ev.now _)
def frameRaw (a b c d e f g : Int) : ByteArray := ((((strOfNums [a % 256, b % 256] ++ varS c) ++ strOfNums [d % 256]) ++ four4 e) ++ four4 f) ++ varS g
theorem frameRaw_size {a b c d e f g : Int} (hc : c ≤ 1000000000) (hg : g ≤ 1000000000) : (frameRaw a b c d e f g).size ≤ 21 := by
 have h1 := varS_size c hc
 have h2 := varS_size g hg
 unfold frameRaw
 simp only [sizeApp, strOfNums_size, four4_size, List.length_cons, List.length_nil]
 omega
def frameS (a b c d e f g : Int) : ByteArray × Bool := if frameB a b c d e f g = true then (frameRaw a b c d e f g ++ four4 (sumS (frameRaw a b c d e f g)), true) else (⟨#[]⟩, false)
theorem frameS_size (a b c d e f g : Int) : (frameS a b c d e f g).1.size ≤ 25 := by
 unfold frameS
 split
 ·rename_i h
  obtain ⟨_, ⟨_, h2⟩, ⟨_, h3⟩, _⟩ := frameB_facts h
  have := frameRaw_size (a := a) (b := b) (d := d) (e := e) (f := f) h2 h3
  rw [sizeApp, four4_size]
  omega
 ·decide
theorem ev_spec_FrameText (a b c d e f g : Int) : Ev (fun k => spec_FrameText.f k a b c d e f g) (frameS a b c d e f g) := by
 simp only [spec_FrameText.f]
 refine Ev.bind (ev_spec_FrameOk a b c d e f g) ?_
 unfold frameS
 by_cases h : frameB a b c d e f g = true
 ·obtain ⟨_, hc, hg, _⟩ := frameB_facts h
  have s1 := varS_size c hc.2
  have s2 := varS_size g hg.2
  have hr := frameRaw_size (a := a) (b := b) (d := d) (e := e) (f := f) hc.2 hg.2
  have hsz2 (x y : Int) : (strOfNums [x, y]).size = 2 := by rw [strOfNums_size]; rfl
  have hsz1 (x : Int) : (strOfNums [x]).size = 1 := by rw [strOfNums_size]; rfl
  rw [if_pos h]
  refine evPos h ?_
  simp only [Option.bind_some, spec_four4]
  refine Ev.bind (ev_spec_l01Var c (by omega) hc.2) (evPos (by rw [hsz2]; omega) (evPos (by simp only [sizeApp, hsz2, hsz1]; omega) (evPos (by simp only [sizeApp, hsz2, hsz1, four4_size]; omega) (evPos (by simp only [sizeApp, hsz2, hsz1, four4_size]; omega) ?_))))
  refine Ev.bind (ev_spec_l01Var g (by omega) hg.2) (evPos (by simp only [sizeApp, hsz2, hsz1, four4_size]; omega) ?_)
  refine Ev.bind (ev_spec_Sealed (frameRaw a b c d e f g) (by omega)) (evEq (Ev.now _) ?_)
  unfold sealB
  rw [if_pos (by omega)]
 ·rw [if_neg h]
  exact evNeg h (Ev.now _)
theorem ev_impl_FrameText (a b c d e f g : Int) : Ev (fun k => impl_FrameText.f k a b c d e f g) (frameS a b c d e f g) := by
 simp only [impl_FrameText.f]
 refine Ev.bind (ev_impl_FrameOk a b c d e f g) ?_
 unfold frameS
 by_cases h : frameB a b c d e f g = true
 ·obtain ⟨_, hc, hg, _⟩ := frameB_facts h
  have s1 := varS_size c hc.2
  have s2 := varS_size g hg.2
  have hr := frameRaw_size (a := a) (b := b) (d := d) (e := e) (f := f) hc.2 hg.2
  have hsz2 (x y : Int) : (strOfNums [x, y]).size = 2 := by rw [strOfNums_size]; rfl
  have hsz1 (x : Int) : (strOfNums [x]).size = 1 := by rw [strOfNums_size]; rfl
  rw [if_pos h]
  refine evPos h ?_
  refine Ev.bind (ev_impl_VarText_ok c (by omega) hc.2) (Ev.bind (ev_impl_VarText_ok g (by omega) hg.2) ?_)
  simp only [Option.bind_some, impl_four4]
  refine evPos (by rw [hsz2]; omega) (evPos (by simp only [sizeApp, hsz2, hsz1]; omega) (evPos (by simp only [sizeApp, hsz2, hsz1, four4_size]; omega) (evPos (by simp only [sizeApp, hsz2, hsz1, four4_size]; omega) (evPos (by simp only [sizeApp, hsz2, hsz1, four4_size]; omega) ?_))))
  refine Ev.bind (ev_impl_Sealed (frameRaw a b c d e f g) (by omega)) (evEq (Ev.now _) ?_)
  unfold sealB
  rw [if_pos (by omega)]
 ·rw [if_neg h]
  exact evNeg h (Ev.now _)
def entryS (b c d e f g : Int) : ByteArray := (frameS 1 b c d e f g).1
theorem entryS_size (b c d e f g : Int) : (entryS b c d e f g).size ≤ 25 := frameS_size 1 b c d e f g
theorem ev_spec_EntryText (b c d e f g : Int) : Ev (fun k => spec_EntryText.f k b c d e f g) (entryS b c d e f g) := by
 simp only [spec_EntryText.f]
 exact Ev.bind (ev_spec_FrameText 1 b c d e f g) (Ev.now _)
theorem ev_impl_EntryText (b c d e f g : Int) : Ev (fun k => impl_EntryText.f k b c d e f g) (entryS b c d e f g) := by
 simp only [impl_EntryText.f]
 exact Ev.bind (ev_impl_FrameText 1 b c d e f g) (Ev.now _)
open DigestEq (dig dig_spec dig_impl)
theorem one48 : (⟨#[48]⟩ : ByteArray).size = 1 := rfl
def leafS (b c d e f g : Int) : ByteArray := dig ((⟨#[48]⟩ : ByteArray) ++ entryS b c d e f g)
theorem ev_spec_LeafOf (b c d e f g : Int) : Ev (fun k => spec_LeafOf.f k b c d e f g) (leafS b c d e f g) := by
 have h := entryS_size b c d e f g
 simp only [spec_LeafOf.f]
 refine Ev.bind (ev_spec_EntryText b c d e f g) (evPos (by omega) ?_)
 rw [dig_spec _ (by rw [sizeApp, one48]; omega)]
 exact Ev.now _
theorem ev_impl_LeafOf (b c d e f g : Int) : Ev (fun k => impl_LeafOf.f k b c d e f g) (leafS b c d e f g) := by
 have h := entryS_size b c d e f g
 simp only [impl_LeafOf.f]
 refine Ev.bind (ev_impl_EntryText b c d e f g) (evPos (by omega) ?_)
 exact Ev.bind (dig_impl _ (by rw [sizeApp, one48]; omega)) (Ev.now _)
theorem dig_size (s : ByteArray) : (dig s).size = 32 := by
 unfold DigestEq.dig
 rw [strOfNums_size, PH.f4_len, PH.hs_len]
def half (n : Nat) : Nat := 2 ^ Nat.log2 (n - 1)
theorem half_lt (n : Nat) (h : 2 ≤ n) : half n < n := by
 have := Nat.log2_self_le (n := n - 1) (by omega)
 unfold half; omega
theorem half_pos (n : Nat) : 0 < half n := Nat.pow_pos (by omega)
theorem half_step (n j : Nat) (h : 2 ≤ n) (hj : j ≤ Nat.log2 (n - 1)) : (2 * 2 ^ j < n ∧ j + 1 ≤ Nat.log2 (n - 1)) ∨ (¬ 2 * 2 ^ j < n ∧ half n = 2 ^ j) := by
 by_cases hc : 2 * 2 ^ j < n
 ·exact Or.inl ⟨hc, (Nat.le_log2 (by omega)).2 (by rw [Nat.pow_succ]; omega)⟩
 ·refine Or.inr ⟨hc, ?_⟩
  have : ¬ j + 1 ≤ Nat.log2 (n - 1) := fun h' => by
   have := (Nat.le_log2 (by omega)).1 h'
   rw [Nat.pow_succ] at this; omega
  unfold half
  rw [show Nat.log2 (n - 1) = j by omega]
theorem pow_le_half (n j : Nat) (h : 2 ≤ n) (hj : j ≤ Nat.log2 (n - 1)) : 2 ^ j < n := by
 have := (Nat.le_log2 (n := n - 1) (k := j) (by omega)).1 hj
 omega
theorem ev_spec_half (n : Nat) (h : 2 ≤ n) (hb : n ≤ 140737488351232) : Ev (fun k => spec_l27Half.f k (n : Int)) (half n : Int) := by
 have key : ∀ d j, j + d = Nat.log2 (n - 1) → Ev (fun k => spec_l27Half.l0 k (n : Int) ((2 ^ j : Nat) : Int)) (half n : Int) := by
  intro d
  induction d with
  | zero =>
   intro j hj
   have hp := pow_le_half n j h (by omega)
   have hp0 : 0 < 2 ^ j := Nat.pow_pos (by omega)
   refine evSucc ?_
   simp only [spec_l27Half.l0]
   rw [w64 (by omega) (by omega)]
   rcases half_step n j h (by omega) with ⟨_, h2⟩ | ⟨h1, h2⟩
   ·omega
   ·rw [h2]; exact evNeg (by omega) (Ev.now _)
  | succ d ih =>
   intro j hj
   have hp := pow_le_half n j h (by omega)
   have hp0 : 0 < 2 ^ j := Nat.pow_pos (by omega)
   refine evSucc ?_
   simp only [spec_l27Half.l0]
   rw [w64 (by omega) (by omega)]
   rcases half_step n j h (by omega) with ⟨h1, _⟩ | ⟨h1, h2⟩
   ·refine evPos (by omega) ?_
    have := ih (j + 1) (by omega)
    rw [show 2 * ((2 ^ j : Nat) : Int) = ((2 ^ (j + 1) : Nat) : Int) by rw [Nat.pow_succ]; omega]
    exact this
   ·rw [h2]; exact evNeg (by omega) (Ev.now _)
 exact key _ 0 (Nat.zero_add _)
theorem ev_impl_half (n : Nat) (h : 2 ≤ n) (hb : n ≤ 140737488351232) : Ev (fun k => impl_firsts.f k (n : Int)) (half n : Int) := by
 have key : ∀ d j, j + d = Nat.log2 (n - 1) → Ev (fun k => impl_firsts.l0 k (n : Int) ((2 ^ j : Nat) : Int)) (half n : Int) := by
  intro d
  induction d with
  | zero =>
   intro j hj
   have hp := pow_le_half n j h (by omega)
   have hp0 : 0 < 2 ^ j := Nat.pow_pos (by omega)
   refine evSucc ?_
   simp only [impl_firsts.l0]
   rw [w64 (by omega) (by omega)]
   rcases half_step n j h (by omega) with ⟨_, h2⟩ | ⟨h1, h2⟩
   ·omega
   ·rw [h2]; exact evNeg (by omega) (Ev.now _)
  | succ d ih =>
   intro j hj
   have hp := pow_le_half n j h (by omega)
   have hp0 : 0 < 2 ^ j := Nat.pow_pos (by omega)
   refine evSucc ?_
   simp only [impl_firsts.l0]
   rw [w64 (by omega) (by omega)]
   rcases half_step n j h (by omega) with ⟨h1, _⟩ | ⟨h1, h2⟩
   ·refine evPos (by omega) ?_
    have := ih (j + 1) (by omega)
    rw [show 2 * ((2 ^ j : Nat) : Int) = ((2 ^ (j + 1) : Nat) : Int) by rw [Nat.pow_succ]; omega]
    exact this
   ·rw [h2]; exact evNeg (by omega) (Ev.now _)
 exact key _ 0 (Nat.zero_add _)
def leafT (x : S27) : ByteArray := leafS x.f0 x.f1 x.f2.f0 x.f2.f1 x.f2.f2 x.f2.f3
def nodeS (a b : ByteArray) : ByteArray := dig (((⟨#[49]⟩ : ByteArray) ++ a) ++ b)
theorem spec_nodeS (a b : ByteArray) (ha : a.size ≤ 16777216) (hb : b.size ≤ 16777216) : spec_NodeOf.f a b = some (nodeS a b) := by
 have s0 : ((⟨#[49]⟩ : ByteArray) ++ a).size = 1 + a.size := by rw [sizeApp]; rfl
 unfold spec_NodeOf.f nodeS
 rw [if_pos (by omega), if_pos (by rw [s0]; omega), dig_spec _ (by rw [sizeApp, s0]; omega)]
 rfl
theorem ev_impl_NodeOf (a b : ByteArray) (ha : a.size ≤ 16777216) (hb : b.size ≤ 16777216) : Ev (fun k => impl_NodeOf.f k a b) (nodeS a b) := by
 have s0 : ((⟨#[49]⟩ : ByteArray) ++ a).size = 1 + a.size := by rw [sizeApp]; rfl
 simp only [impl_NodeOf.f]
 exact evPos (by omega) (evPos (by rw [s0]; omega) (Ev.bind (dig_impl _ (by rw [sizeApp, s0]; omega)) (Ev.now _)))
def rootS (l : List S27) : ByteArray :=
 if h0 : l.length = 0 then dig ⟨#[]⟩ else if h1 : l.length = 1 then leafT (rd_T27 l 0)
 else nodeS (rootS (l.take (half l.length))) (rootS (l.drop (half l.length)))
 termination_by l.length
 decreasing_by
  ·have := half_lt l.length (by omega); simp; omega
  ·have := half_pos l.length; simp; omega
theorem rootS_size (l : List S27) : (rootS l).size = 32 := by
 rw [rootS]
 split
 ·exact dig_size _
 ·split
  ·exact dig_size _
  ·exact dig_size _
theorem ev_spec_RootOf (n : Nat) : ∀ (l : List S27), l.length = n → l.length ≤ 16777216 → Ev (fun k => spec_RootOf.f k l) (rootS l) := by
 induction n using Nat.strongRecOn with
 | ind n ih =>
  intro l hn hl
  refine evSucc ?_
  simp only [spec_RootOf.f]
  rw [rootS]
  by_cases h0 : l.length = 0
  ·rw [dif_pos h0]
   refine evPos (by omega) (evBindS (dig_spec _ (by show (⟨#[]⟩ : ByteArray).size ≤ _; decide)) (Ev.now _))
  rw [dif_neg h0]
  by_cases h1 : l.length = 1
  ·rw [dif_pos h1]
   exact evNeg (by omega) (evPos (by omega) (evPos (by omega) (Ev.bind (ev_spec_LeafOf _ _ _ _ _ _) (Ev.now _))))
  rw [dif_neg h1]
  have hk := half_lt l.length (by omega)
  have hp := half_pos l.length
  refine evNeg (by omega) (evNeg (by omega) (Ev.bind (ev_spec_half l.length (by omega) (by omega)) (evPos (by omega) (evPos (by omega) ?_))))
  rw [Int.toNat_natCast]
  refine Ev.bind (ih _ (by rw [List.length_take]; omega) (l.take (half l.length)) rfl (by rw [List.length_take]; omega)) (Ev.bind (ih _ (by rw [List.length_drop]; omega) (l.drop (half l.length)) rfl (by rw [List.length_drop]; omega)) ?_)
  exact evBindS (spec_nodeS _ _ (by rw [rootS_size]; omega) (by rw [rootS_size]; omega)) (Ev.now _)
theorem ev_impl_RootOf (n : Nat) : ∀ (l : List S27), l.length = n → l.length ≤ 16777216 → Ev (fun k => impl_RootOf.f k l) (rootS l) := by
 induction n using Nat.strongRecOn with
 | ind n ih =>
  intro l hn hl
  refine evSucc ?_
  simp only [impl_RootOf.f]
  rw [rootS]
  by_cases h0 : l.length = 0
  ·rw [dif_pos h0]
   refine evPos (by omega) (Ev.bind (dig_impl _ (by show (⟨#[]⟩ : ByteArray).size ≤ _; decide)) (Ev.now _))
  rw [dif_neg h0]
  by_cases h1 : l.length = 1
  ·rw [dif_pos h1]
   exact evNeg (by omega) (evPos (by omega) (evPos (by omega) (Ev.bind (ev_impl_LeafOf _ _ _ _ _ _) (Ev.now _))))
  rw [dif_neg h1]
  have hk := half_lt l.length (by omega)
  have hp := half_pos l.length
  refine evNeg (by omega) (evNeg (by omega) (Ev.bind (ev_impl_half l.length (by omega) (by omega)) (evPos (by omega) (evPos (by omega) ?_))))
  rw [Int.toNat_natCast]
  refine Ev.bind (ih _ (by rw [List.length_take]; omega) (l.take (half l.length)) rfl (by rw [List.length_take]; omega)) (Ev.bind (ih _ (by rw [List.length_drop]; omega) (l.drop (half l.length)) rfl (by rw [List.length_drop]; omega)) ?_)
  exact Ev.bind (ev_impl_NodeOf _ _ (by rw [rootS_size]; omega) (by rw [rootS_size]; omega)) (Ev.now _)
def pathS (l : List S27) (i : Nat) : List ByteArray :=
 if h1 : l.length ≤ 1 then []
 else if i < half l.length then pathS (l.take (half l.length)) i ++ [rootS (l.drop (half l.length))]
 else pathS (l.drop (half l.length)) (i - half l.length) ++ [rootS (l.take (half l.length))]
 termination_by l.length
 decreasing_by
  ·have := half_lt l.length (by omega); rw [List.length_take]; omega
  ·have := half_pos l.length; rw [List.length_drop]; omega
theorem pathS_len (n : Nat) : ∀ (l : List S27) (i : Nat), l.length = n → (pathS l i).length ≤ l.length := by
 induction n using Nat.strongRecOn with
 | ind n ih =>
  intro l i hn
  rw [pathS]
  split
  ·exact Nat.zero_le _
  ·have h1 := half_lt l.length (by omega)
   have h2 := half_pos l.length
   split
   ·have := ih (l.take (half l.length)).length (by rw [List.length_take]; omega) (l.take (half l.length)) i rfl
    rw [List.length_append, List.length_singleton]
    rw [List.length_take] at this
    omega
   ·have := ih (l.drop (half l.length)).length (by rw [List.length_drop]; omega) (l.drop (half l.length)) (i - half l.length) rfl
    rw [List.length_append, List.length_singleton]
    rw [List.length_drop] at this
    omega
theorem ev_impl_path (n : Nat) : ∀ (l : List S27) (i : Nat), l.length = n → l.length ≤ 200 → i < l.length → Ev (fun k => impl_path.f k l (i : Int)) (pathS l i) := by
 induction n using Nat.strongRecOn with
 | ind n ih =>
  intro l i hn hl hi
  have hpl := pathS_len l.length l i rfl
  refine evSucc ?_
  simp only [impl_path.f]
  rw [pathS] at hpl ⊢
  by_cases h1 : l.length = 1
  ·rw [dif_pos (by omega)]
   exact evPos (by omega) (Ev.now _)
  rw [dif_neg (by omega)] at hpl ⊢
  have hk := half_lt l.length (by omega)
  have hp := half_pos l.length
  refine evNeg (by omega) (Ev.bind (ev_impl_half l.length (by omega) (by omega)) ?_)
  rw [Int.toNat_natCast]
  by_cases hc : i < half l.length
  ·rw [if_pos hc] at hpl ⊢
   rw [List.length_append, List.length_singleton] at hpl
   refine evPos (by omega) (evPos (by omega) (evPos (by omega) (Ev.bind (ih _ (by rw [List.length_take]; omega) (l.take (half l.length)) i rfl (by rw [List.length_take]; omega) (by rw [List.length_take]; omega)) (Ev.bind (ev_impl_RootOf _ _ rfl (by rw [List.length_drop]; omega)) (evPos (by omega) (Ev.now _))))))
  ·rw [if_neg hc] at hpl ⊢
   rw [List.length_append, List.length_singleton] at hpl
   rw [w64 (x := (i : Int) - (half l.length : Int)) (by omega) (by omega), show (i : Int) - (half l.length : Int) = ((i - half l.length : Nat) : Int) by omega]
   refine evNeg (by omega) (evPos (by omega) (evPos (by omega) (Ev.bind (ih _ (by rw [List.length_drop]; omega) (l.drop (half l.length)) (i - half l.length) rfl (by rw [List.length_drop]; omega) (by rw [List.length_drop]; omega)) (Ev.bind (ev_impl_RootOf _ _ rfl (by rw [List.length_take]; omega)) (evPos (by omega) (Ev.now _))))))
def pathOfB (l : List S27) (i : Int) : List ByteArray × Bool := if l.length ≤ 200 ∧ 0 ≤ i ∧ i < l.length then (pathS l i.toNat, true) else ([], false)
theorem ev_impl_PathOf (l : List S27) (i : Int) (hl : l.length ≤ 16777216) : Ev (fun k => impl_PathOf.f k l i) (pathOfB l i) := by
 simp only [impl_PathOf.f, impl_in, Option.bind_some]
 unfold pathOfB
 by_cases h : l.length ≤ 200
 ·refine evNeg (by omega) ?_
  rw [w64 (x := (l.length : Int) - 1) (by omega) (by omega)]
  by_cases h2 : 0 ≤ i ∧ i < l.length
  ·rw [if_pos ⟨h, h2.1, h2.2⟩, show rng i 0 ((l.length : Int) - 1) = true by unfold rng; simp; omega]
   have := ev_impl_path l.length l i.toNat rfl h (by omega)
   rw [Int.toNat_of_nonneg h2.1] at this
   exact evPos rfl (Ev.bind this (Ev.now _))
  ·rw [if_neg (fun z => h2 z.2), show rng i 0 ((l.length : Int) - 1) = false by unfold rng; simp; omega]
   exact evNeg (by simp) (Ev.now _)
 ·rw [if_neg (fun z => h z.1)]
  exact evPos (by omega) (Ev.now _)
theorem ev_spec_path (n : Nat) : ∀ (l : List S27) (i : Nat) (acc : List ByteArray), l.length = n → l.length ≤ 200 → acc.length + l.length ≤ 1000 → i < l.length → Ev (fun k => spec_PathOf.l0 k l (i : Int) acc) (pathS l i ++ acc, true) := by
 induction n using Nat.strongRecOn with
 | ind n ih =>
  intro l i acc hn hl ha hi
  refine evSucc ?_
  simp only [spec_PathOf.l0]
  rw [pathS]
  by_cases h1 : l.length = 1
  ·rw [dif_pos (by omega)]
   exact evNeg (by omega) (Ev.now _)
  rw [dif_neg (by omega)]
  have hk := half_lt l.length (by omega)
  have hp := half_pos l.length
  refine evPos (by omega) (Ev.bind (ev_spec_half l.length (by omega) (by omega)) ?_)
  rw [Int.toNat_natCast]
  by_cases hc : i < half l.length
  ·rw [if_pos hc, List.append_assoc]
   refine evPos (by omega) (evPos (by omega) (evPos (by omega) (Ev.bind (ev_spec_RootOf _ _ rfl (by rw [List.length_drop]; omega)) ?_)))
   simp only [Option.bind_some]
   refine evPos (by simp; omega) ?_
   exact ih _ (by rw [List.length_take]; omega) (l.take (half l.length)) i _ rfl (by rw [List.length_take]; omega) (by rw [List.length_take]; simp; omega) (by rw [List.length_take]; omega)
  ·rw [if_neg hc, List.append_assoc, w64 (x := (i : Int) - (half l.length : Int)) (by omega) (by omega), show (i : Int) - (half l.length : Int) = ((i - half l.length : Nat) : Int) by omega]
   refine evNeg (by omega) (evPos (by omega) (evPos (by omega) (Ev.bind (ev_spec_RootOf _ _ rfl (by rw [List.length_take]; omega)) ?_)))
   simp only [Option.bind_some]
   refine evPos (by simp; omega) ?_
   exact ih _ (by rw [List.length_drop]; omega) (l.drop (half l.length)) (i - half l.length) _ rfl (by rw [List.length_drop]; omega) (by rw [List.length_drop]; simp; omega) (by rw [List.length_drop]; omega)
theorem ev_spec_PathOf (l : List S27) (i : Int) (hl : l.length ≤ 16777216) : Ev (fun k => spec_PathOf.f k l i) (pathOfB l i) := by
 have no : ∀ x, x = ([], false) → Ev (fun k => spec_PathOf.j0 k l i true) x := fun x hx => by
  subst hx
  refine evSucc ?_
  simp only [spec_PathOf.j0]
  exact evPos (by simp) (Ev.now _)
 simp only [spec_PathOf.f, spec_in, Option.bind_some]
 unfold pathOfB
 rw [w64 (x := (l.length : Int) - 1) (by omega) (by omega)]
 by_cases h2 : 0 ≤ i ∧ i < l.length
 ·rw [show rng i 0 ((l.length : Int) - 1) = true by unfold rng; simp; omega]
  refine evPos rfl ?_
  by_cases h : l.length ≤ 200
  ·rw [if_pos ⟨h, h2.1, h2.2⟩, show decide ((l.length : Int) > 200) = false by simp; omega]
   refine evSucc ?_
   simp only [spec_PathOf.j0]
   have := ev_spec_path l.length l i.toNat [] rfl h (by simp; omega) (by omega)
   rw [Int.toNat_of_nonneg h2.1, List.append_nil] at this
   exact evNeg (by simp) this
  ·rw [show decide ((l.length : Int) > 200) = true by simp; omega]
   exact no _ (if_neg (fun z => h z.1))
 ·rw [show rng i 0 ((l.length : Int) - 1) = false by unfold rng; simp; omega]
  exact evNeg (by simp) (no _ (if_neg (fun z => h2 z.2)))
theorem rdS (l : List ByteArray) (i : Nat) (hi : i < l.length) : rdOf ByteArray.empty l (i : Int) = l[i] := by simp [rdOf, hi]
def topS (leaf : ByteArray) (n : Nat) (i : Int) (p : List ByteArray) : ByteArray × Bool :=
 if n = 1 then (leaf, decide (p.length = 0)) else if h0 : p.length = 0 then (⟨#[]⟩, false)
 else if i < (half n : Int) then (nodeS (topS leaf (half n) i (p.take (p.length - 1))).1 (rdOf ByteArray.empty p ((p.length - 1 : Nat) : Int)), (topS leaf (half n) i (p.take (p.length - 1))).2)
 else (nodeS (rdOf ByteArray.empty p ((p.length - 1 : Nat) : Int)) (topS leaf (n - half n) (i - (half n : Int)) (p.take (p.length - 1))).1, (topS leaf (n - half n) (i - (half n : Int)) (p.take (p.length - 1))).2)
 termination_by p.length
 decreasing_by all_goals (rw [List.length_take]; omega)
theorem topS_size (leaf : ByteArray) (n : Nat) (i : Int) (p : List ByteArray) (hl : leaf.size ≤ 32) : (topS leaf n i p).1.size ≤ 32 := by
 rw [topS]
 split
 ·exact hl
 ·split
  ·decide
  ·split
   ·exact Nat.le_of_eq (dig_size _)
   ·exact Nat.le_of_eq (dig_size _)
theorem lastSize (p : List ByteArray) (h0 : p.length ≠ 0) (hs : ∀ x ∈ p, (x.size : Int) ≤ 1048576) : (rdOf ByteArray.empty p ((p.length - 1 : Nat) : Int)).size ≤ 1048576 := by
 rw [rdS p _ (by omega)]
 have := hs _ (List.getElem_mem (show p.length - 1 < p.length by omega))
 omega
theorem ev_spec_l27Up (leaf : ByteArray) (hf : leaf.size ≤ 32) (m : Nat) : ∀ (p : List ByteArray) (n : Nat) (i : Int), p.length = m → p.length ≤ 1048576 → (∀ x ∈ p, (x.size : Int) ≤ 1048576) → 1 ≤ n → n ≤ 200 → 0 ≤ i → i < n → Ev (fun k => spec_l27Up.f k (n : Int) i leaf p) (topS leaf n i p) := by
 induction m with
 | zero =>
  intro p n i hm _ _ h1 h2 _ _
  refine evSucc ?_
  simp only [spec_l27Up.f]
  rw [topS]
  by_cases hn : n = 1
  ·rw [if_pos hn]
   refine evPos (by omega) (evEq (Ev.now _) ?_)
   simp [hm]
  ·rw [if_neg hn, dif_pos hm]
   exact evNeg (by omega) (evPos (by omega) (Ev.now _))
 | succ m ih =>
  intro p n i hm hl hs h1 h2 h3 h4
  refine evSucc ?_
  simp only [spec_l27Up.f]
  rw [topS]
  by_cases hn : n = 1
  ·rw [if_pos hn]
   refine evPos (by omega) (evEq (Ev.now _) ?_)
   rw [hm]
   have e1 : (((m + 1 : Nat) : Int) == 0) = false := by simp; omega
   rw [e1]; simp
  ·have hk := half_lt n (by omega)
   have hp := half_pos n
   rw [if_neg hn, dif_neg (by omega)]
   have hw : wrap64 ((p.length : Int) - 1) = ((p.length - 1 : Nat) : Int) := by rw [w64 (by omega) (by omega)]; omega
   refine evNeg (by omega) (evNeg (by omega) (Ev.bind (ev_spec_half n (by omega) (by omega)) ?_))
   rw [hw, Int.toNat_natCast, w64 (x := (n : Int) - (half n : Int)) (by omega) (by omega), w64 (x := i - (half n : Int)) (by omega) (by omega)]
   refine evPos (by omega) (evPos (by omega) (evPos (by omega) ?_))
   have hs' : ∀ x ∈ p.take (p.length - 1), (x.size : Int) ≤ 1048576 := fun x hx => hs x (List.mem_of_mem_take hx)
   have hlast := lastSize p (by omega) hs
   by_cases hc : i < (half n : Int)
   ·rw [if_pos hc]
    refine evPos hc (Ev.bind (ih (p.take (p.length - 1)) (half n) i (by rw [List.length_take]; omega) (by rw [List.length_take]; omega) hs' (by omega) (by omega) (by omega) hc) ?_)
    exact evBindS (spec_nodeS _ _ (by have := topS_size leaf (half n) i (p.take (p.length - 1)) hf; omega) (by omega)) (Ev.now _)
   ·rw [if_neg hc]
    have := ih (p.take (p.length - 1)) (n - half n) (i - (half n : Int)) (by rw [List.length_take]; omega) (by rw [List.length_take]; omega) hs' (by omega) (by omega) (by omega) (by omega)
    rw [show ((n - half n : Nat) : Int) = (n : Int) - (half n : Int) by omega] at this
    refine evNeg hc (Ev.bind this ?_)
    exact evBindS (spec_nodeS _ _ (by omega) (by have := topS_size leaf (n - half n) (i - (half n : Int)) (p.take (p.length - 1)) hf; omega)) (Ev.now _)
theorem ev_impl_topOf (leaf : ByteArray) (hf : leaf.size ≤ 32) (m : Nat) : ∀ (p : List ByteArray) (n : Nat) (i : Int), p.length = m → p.length ≤ 1048576 → (∀ x ∈ p, (x.size : Int) ≤ 1048576) → 1 ≤ n → n ≤ 200 → 0 ≤ i → i < n → Ev (fun k => impl_topOf.f k leaf (n : Int) i p) (topS leaf n i p) := by
 induction m with
 | zero =>
  intro p n i hm _ _ h1 h2 _ _
  refine evSucc ?_
  simp only [impl_topOf.f]
  rw [topS]
  by_cases hn : n = 1
  ·rw [if_pos hn]
   refine evPos (by omega) (evEq (Ev.now _) ?_)
   simp [hm]
  ·rw [if_neg hn, dif_pos hm]
   exact evNeg (by omega) (evPos (by omega) (Ev.now _))
 | succ m ih =>
  intro p n i hm hl hs h1 h2 h3 h4
  refine evSucc ?_
  simp only [impl_topOf.f]
  rw [topS]
  by_cases hn : n = 1
  ·rw [if_pos hn]
   refine evPos (by omega) (evEq (Ev.now _) ?_)
   rw [hm]
   have e1 : (((m + 1 : Nat) : Int) == 0) = false := by simp; omega
   rw [e1]; simp
  ·have hk := half_lt n (by omega)
   have hp := half_pos n
   rw [if_neg hn, dif_neg (by omega)]
   have hw : wrap64 ((p.length : Int) - 1) = ((p.length - 1 : Nat) : Int) := by rw [w64 (by omega) (by omega)]; omega
   refine evNeg (by omega) (evNeg (by omega) ?_)
   rw [hw, Int.toNat_natCast]
   refine evPos (by omega) (evPos (by omega) (evPos (by omega) (Ev.bind (ev_impl_half n (by omega) (by omega)) ?_)))
   rw [w64 (x := (n : Int) - (half n : Int)) (by omega) (by omega), w64 (x := i - (half n : Int)) (by omega) (by omega)]
   have hs' : ∀ x ∈ p.take (p.length - 1), (x.size : Int) ≤ 1048576 := fun x hx => hs x (List.mem_of_mem_take hx)
   have hlast := lastSize p (by omega) hs
   by_cases hc : i < (half n : Int)
   ·rw [if_pos hc]
    refine evPos hc (Ev.bind (ih (p.take (p.length - 1)) (half n) i (by rw [List.length_take]; omega) (by rw [List.length_take]; omega) hs' (by omega) (by omega) (by omega) hc) ?_)
    exact Ev.bind (ev_impl_NodeOf _ _ (by have := topS_size leaf (half n) i (p.take (p.length - 1)) hf; omega) (by omega)) (Ev.now _)
   ·rw [if_neg hc]
    have := ih (p.take (p.length - 1)) (n - half n) (i - (half n : Int)) (by rw [List.length_take]; omega) (by rw [List.length_take]; omega) hs' (by omega) (by omega) (by omega) (by omega)
    rw [show ((n - half n : Nat) : Int) = (n : Int) - (half n : Int) by omega] at this
    refine evNeg hc (Ev.bind this ?_)
    exact Ev.bind (ev_impl_NodeOf _ _ (by omega) (by have := topS_size leaf (n - half n) (i - (half n : Int)) (p.take (p.length - 1)) hf; omega)) (Ev.now _)
def pathB (root : ByteArray) (n i : Int) (x : S27) (p : List ByteArray) : Bool :=
 if 1 ≤ n ∧ n ≤ 200 ∧ 0 ≤ i ∧ i < n then (topS (leafT x) n.toNat i p).2 && ((topS (leafT x) n.toNat i p).1.toList == root.toList) else false
theorem ev_spec_PathOk (root : ByteArray) (n i : Int) (x : S27) (p : List ByteArray) (hn : -9223372036854775808 ≤ n) (hl : p.length ≤ 1048576) (hs : ∀ x ∈ p, (x.size : Int) ≤ 1048576) : Ev (fun k => spec_PathOk.f k root n i x.f0 x.f1 x.f2.f0 x.f2.f1 x.f2.f2 x.f2.f3 p) (pathB root n i x p) := by
 simp only [spec_PathOk.f, spec_in, Option.bind_some]
 unfold pathB
 by_cases h1 : 1 ≤ n ∧ n ≤ 200
 ·rw [show rng n 1 200 = true by unfold rng; simp [h1]]
  refine evPos rfl (evSucc ?_)
  rw [w64 (x := n - 1) (by omega) (by omega)]
  simp only [spec_PathOk.j0]
  by_cases h2 : 0 ≤ i ∧ i < n
  ·rw [if_pos ⟨h1.1, h1.2, h2.1, h2.2⟩, show rng i 0 (n - 1) = true by unfold rng; simp; omega]
   refine evNeg (by simp) (Ev.bind (ev_spec_LeafOf _ _ _ _ _ _) ?_)
   have := ev_spec_l27Up (leafT x) (Nat.le_of_eq (dig_size _)) p.length p n.toNat i rfl hl hs (by omega) (by omega) h2.1 (by omega)
   rw [Int.toNat_of_nonneg (by omega)] at this
   refine Ev.bind this ?_
   cases hb : (topS (leafT x) n.toNat i p).2
   ·exact evNeg (by simp) (Ev.now _)
   ·exact evPos rfl (Ev.now _)
  ·rw [if_neg (by omega), show rng i 0 (n - 1) = false by unfold rng; simp; omega]
   exact evPos rfl (Ev.now _)
 ·rw [if_neg (by omega), show rng n 1 200 = false by unfold rng; simp; omega]
  refine evNeg (by simp) (evSucc ?_)
  simp only [spec_PathOk.j0]
  exact evPos (by simp) (Ev.now _)
theorem ev_impl_PathOk (root : ByteArray) (n i : Int) (x : S27) (p : List ByteArray) (hn : -9223372036854775808 ≤ n) (hl : p.length ≤ 1048576) (hs : ∀ x ∈ p, (x.size : Int) ≤ 1048576) : Ev (fun k => impl_PathOk.f k root n i x.f0 x.f1 x.f2.f0 x.f2.f1 x.f2.f2 x.f2.f3 p) (pathB root n i x p) := by
 simp only [impl_PathOk.f, impl_in, Option.bind_some]
 unfold pathB
 by_cases h1 : 1 ≤ n ∧ n ≤ 200
 ·rw [show rng n 1 200 = true by unfold rng; simp [h1]]
  refine evPos rfl (evSucc ?_)
  rw [w64 (x := n - 1) (by omega) (by omega)]
  simp only [impl_PathOk.j0]
  by_cases h2 : 0 ≤ i ∧ i < n
  ·rw [if_pos ⟨h1.1, h1.2, h2.1, h2.2⟩, show rng i 0 (n - 1) = true by unfold rng; simp; omega]
   refine evNeg (by simp) (Ev.bind (ev_impl_LeafOf _ _ _ _ _ _) ?_)
   have := ev_impl_topOf (leafT x) (Nat.le_of_eq (dig_size _)) p.length p n.toNat i rfl hl hs (by omega) (by omega) h2.1 (by omega)
   rw [Int.toNat_of_nonneg (by omega)] at this
   refine Ev.bind this ?_
   cases hb : (topS (leafT x) n.toNat i p).2
   ·exact evNeg (by simp) (Ev.now _)
   ·exact evPos rfl (Ev.now _)
  ·rw [if_neg (by omega), show rng i 0 (n - 1) = false by unfold rng; simp; omega]
   exact evPos rfl (Ev.now _)
 ·rw [if_neg (by omega), show rng n 1 200 = false by unfold rng; simp; omega]
  refine evNeg (by simp) (evSucc ?_)
  simp only [impl_PathOk.j0]
  exact evPos (by simp) (Ev.now _)
theorem and255 (x : Int) : 0 ≤ Go.bits .and .i64 x 255 ∧ Go.bits .and .i64 x 255 ≤ 255 := by
 have e : Go.bits .and .i64 x 255 = (((BitVec.ofInt 64 x).toNat % 256 : Nat) : Int) := by
  rw [bits_nat]
  show IntKind.wrap .i64 ((BitVec.ofInt 64 x &&& BitVec.ofInt 64 ((255 : Nat) : Int)).toNat : Int) = _
  rw [BitVec.toNat_and, ofInt_nat64 255 (by omega), wrap_i64]
  have : (BitVec.ofInt 64 x).toNat &&& 255 = (BitVec.ofInt 64 x).toNat % 256 := Nat.and_two_pow_sub_one_eq_mod _ 8
  rw [this, w64 (by omega) (by omega)]
 rw [e]
 omega
theorem drawByte (b : List Int) (i h : Int) (h0 : 0 ≤ i) (h1 : i ≤ b.length) (hb : b.length ≤ 16777216) : ∃ x i' h', spec_l01Byte.f b i h = some (x, i', h') ∧ 0 ≤ x ∧ x ≤ 255 ∧ 0 ≤ i' ∧ i' ≤ b.length := by
 unfold spec_l01Byte.f
 by_cases hc : i < (b.length : Int)
 ·rw [if_pos hc, if_pos h0, w64 (x := i + 1) (by omega) (by omega)]
  refine ⟨_, _, _, rfl, (and255 _).1, (and255 _).2, by omega, by omega⟩
 ·rw [if_neg hc]
  exact ⟨_, _, _, rfl, (and255 _).1, (and255 _).2, h0, h1⟩
theorem drawBelow (b : List Int) (i h n : Int) (h0 : 0 ≤ i) (h1 : i ≤ b.length) (hb : b.length ≤ 16777216) (hn : 0 < n) : ∃ x i' h', spec_l01Below.f b i h n = some (x, i', h') ∧ 0 ≤ x ∧ x < n ∧ 0 ≤ i' ∧ i' ≤ b.length := by
 unfold spec_l01Below.f
 rw [if_neg (by omega)]
 by_cases hc : n ≤ 256
 ·obtain ⟨x, i', h', e, x0, x1, i0, i1⟩ := drawByte b i h h0 h1 hb
  rw [if_pos hc, e]
  simp only [Option.bind_some]
  rw [if_neg (by omega), Int.tmod_eq_emod_of_nonneg x0]
  exact ⟨_, _, _, rfl, Int.emod_nonneg _ (by omega), Int.emod_lt_of_pos _ hn, i0, i1⟩
 ·obtain ⟨x, i1, h1', e1, x0, x1, j0, j1⟩ := drawByte b i h h0 h1 hb
  obtain ⟨y, i2, h2', e2, y0, y1, k0, k1⟩ := drawByte b i1 h1' j0 j1 hb
  obtain ⟨z, i3, h3', e3, z0, z1, l0, l1⟩ := drawByte b i2 h2' k0 k1 hb
  obtain ⟨v, i4, h4', e4, v0, v1, m0, m1⟩ := drawByte b i3 h3' l0 l1 hb
  rw [if_neg hc, e1]
  simp only [Option.bind_some, e2, e3, e4]
  rw [if_neg (by omega), w64 (x := x * 16777216) (by omega) (by omega), w64 (x := y * 65536) (by omega) (by omega), w64 (x := x * 16777216 + y * 65536) (by omega) (by omega), w64 (x := z * 256) (by omega) (by omega), w64 (x := x * 16777216 + y * 65536 + z * 256) (by omega) (by omega), w64 (x := x * 16777216 + y * 65536 + z * 256 + v) (by omega) (by omega), Int.tmod_eq_emod_of_nonneg (by omega)]
  exact ⟨_, _, _, rfl, Int.emod_nonneg _ (by omega), Int.emod_lt_of_pos _ hn, m0, m1⟩
theorem drawOnce (b : List Int) (i h n : Int) (h0 : 0 ≤ i) (h1 : i ≤ b.length) (hb : b.length ≤ 16777216) (hn : 0 < n) : ∃ (x : Bool) (i' h' : Int), spec_l01Once.f b i h n = some (x, i', h') ∧ 0 ≤ i' ∧ i' ≤ b.length := by
 unfold spec_l01Once.f
 obtain ⟨x, i', h', e, x0, x1, i0, i1⟩ := drawBelow b i h n h0 h1 hb hn
 rw [e]
 exact ⟨_, _, _, rfl, i0, i1⟩
theorem drawNew (b : List Int) (hb : b.length ≤ 16777216) : ∃ h : Int, Ev (fun k => spec_l01New.f k b) (b, 0, h) := by
 have key : ∀ d (i : Nat) (h : Int), i + d = b.length → ∃ h', Ev (fun k => spec_l01New.l0 k b h (i : Int)) (b, 0, h') := by
  intro d
  induction d with
  | zero =>
   intro i h hi
   refine ⟨h, evSucc ?_⟩
   simp only [spec_l01New.l0]
   exact evNeg (by omega) (Ev.now _)
  | succ d ih =>
   intro i h hi
   by_cases h4 : (i : Int) < 4000
   ·obtain ⟨h', hh⟩ := ih (i + 1) (Go.bits .and .i64 (wrap64 ((wrap64 ((wrap64 (h * 131)) + (wrap64 (rd b (i : Int))))) + 7)) 1073741823) (by omega)
    refine ⟨h', evSucc ?_⟩
    simp only [spec_l01New.l0]
    refine evPos (by omega) (evPos h4 (evPos (by omega) ?_))
    rw [w64 (x := (i : Int) + 1) (by omega) (by omega), ci]
    exact hh
   ·refine ⟨h, evSucc ?_⟩
    simp only [spec_l01New.l0]
    exact evPos (by omega) (evNeg h4 (Ev.now _))
 simp only [spec_l01New.f]
 exact key b.length 0 _ (by omega)
theorem drawHalf (b : List Int) (i h : Int) (h0 : 0 ≤ i) (h1 : i ≤ b.length) (hb : b.length ≤ 16777216) : ∃ x i' h', spec_l04Half.f b i h = some (x, i', h') ∧ 0 ≤ x ∧ x ≤ 4294967295 ∧ 0 ≤ i' ∧ i' ≤ b.length := by
 unfold spec_l04Half.f
 obtain ⟨x, i1, h1', e1, x0, x1, j0, j1⟩ := drawBelow b i h 12 h0 h1 hb (by omega)
 rw [e1]
 simp only [Option.bind_some]
 unfold spec_l01PickInt.f
 obtain ⟨y, i2, h2', e2, y0, y1, k0, k1⟩ := drawBelow b i1 h1' (([0, 1, 2, 3, 5, 7, 255, 4294967295, 2147483648, x] : List Int).length : Int) j0 j1 hb (by simp)
 rw [e2]
 simp only [Option.bind_some]
 rw [if_pos y0, if_pos y1]
 simp only [Option.bind_some]
 have hy : y < 10 := y1
 refine ⟨_, _, _, rfl, ?_, ?_, k0, k1⟩
 all_goals
  have hc : y = 0 ∨ y = 1 ∨ y = 2 ∨ y = 3 ∨ y = 4 ∨ y = 5 ∨ y = 6 ∨ y = 7 ∨ y = 8 ∨ y = 9 := by omega
  rcases hc with rfl | rfl | rfl | rfl | rfl | rfl | rfl | rfl | rfl | rfl <;> simp [rd] <;> omega
def okE (x : S27) : Bool := frameB 1 x.f0 x.f1 x.f2.f0 x.f2.f1 x.f2.f2 x.f2.f3
theorem drawItem (b : List Int) (i h : Int) (h0 : 0 ≤ i) (h1 : i ≤ b.length) (hb : b.length ≤ 16777216) : ∃ c d e f i' h', spec_l17Item.f b i h = some (c, d, e, f, i', h') ∧ itemB c d e f = true ∧ 0 ≤ i' ∧ i' ≤ b.length := by
 unfold spec_l17Item.f
 obtain ⟨x, i1, h1', e1, j0, j1⟩ := drawOnce b i h 3 h0 h1 hb (by omega)
 rw [e1]
 simp only [Option.bind_some]
 cases x
 ·rw [if_neg (by simp)]
  obtain ⟨y, i2, h2', e2, y0, y1, k0, k1⟩ := drawBelow b i1 h1' 9 j0 j1 hb (by omega)
  rw [e2]
  simp only [Option.bind_some]
  obtain ⟨z, i3, h3', e3, z0, z1, l0, l1⟩ := drawHalf b i2 h2' k0 k1 hb
  rw [e3]
  refine ⟨_, _, _, _, _, _, rfl, ?_, l0, l1⟩
  unfold itemB rng
  simp
  omega
 ·rw [if_pos rfl]
  obtain ⟨y, i2, h2', e2, y0, y1, k0, k1⟩ := drawBelow b i1 h1' 5 j0 j1 hb (by omega)
  rw [e2]
  simp only [Option.bind_some]
  rw [w64 (x := 1 + y) (by omega) (by omega)]
  refine ⟨_, _, _, _, _, _, rfl, ?_, k0, k1⟩
  unfold itemB rng
  simp
  omega
theorem drawEntriesGo (b : List Int) (hb : b.length ≤ 16777216) : ∀ (d : Nat) (i h : Int) (n : Nat) (out : List S27), 0 ≤ i → i ≤ b.length → n + d = 5 → out.length = n → out.all okE = true →
 ∃ l i' h', Ev (fun k => spec_l19Entries.l0 k out (n : Int) b i h) (l, i', h') ∧ l.length ≤ 5 ∧ l.all okE = true ∧ 0 ≤ i' ∧ i' ≤ b.length := by
 intro d
 induction d with
 | zero =>
  intro i h n out h0 h1 hn ho ha
  obtain ⟨x, i1, h1', e1, x0, x1, j0, j1⟩ := drawBelow b i h 6 h0 h1 hb (by omega)
  refine ⟨out, i1, h1', evSucc ?_, by omega, ha, j0, j1⟩
  simp only [spec_l19Entries.l0]
  exact evBindS e1 (evNeg (by omega) (Ev.now _))
 | succ d ih =>
  intro i h n out h0 h1 hn ho ha
  obtain ⟨x, i1, h1', e1, x0, x1, j0, j1⟩ := drawBelow b i h 6 h0 h1 hb (by omega)
  by_cases hx : (n : Int) < x
  ·obtain ⟨y, i2, h2', e2, y0, y1, k0, k1⟩ := drawBelow b i1 h1' 3 j0 j1 hb (by omega)
   obtain ⟨z, i3, h3', e3, z0, z1, l0, l1⟩ := drawBelow b i2 h2' 5 k0 k1 hb (by omega)
   obtain ⟨c, e, f, g, i4, h4', e4, hi, m0, m1⟩ := drawItem b i3 h3' l0 l1 hb
   obtain ⟨l, i', h', hev, hl, hall, q0, q1⟩ := ih i4 h4' (n + 1) (out ++ [⟨y, 1 + z, ⟨c, e, f, g⟩⟩]) m0 m1 (by omega) (by simp; omega) (by
    rw [List.all_append, ha]
    simp
    show frameB 1 y (1 + z) c e f g = true
    unfold frameB
    rw [if_pos rfl, hi]
    unfold rng
    simp
    omega)
   refine ⟨l, i', h', evSucc ?_, hl, hall, q0, q1⟩
   simp only [spec_l19Entries.l0]
   refine evBindS e1 (evPos hx (evBindS e2 (evBindS e3 (evBindS e4 (evPos (by omega) ?_)))))
   rw [w64 (x := (n : Int) + 1) (by omega) (by omega), w64 (x := 1 + z) (by omega) (by omega), ci]
   exact hev
  ·refine ⟨out, i1, h1', evSucc ?_, by omega, ha, j0, j1⟩
   simp only [spec_l19Entries.l0]
   exact evBindS e1 (evNeg hx (Ev.now _))
theorem drawEntriesAt (b : List Int) (hb : b.length ≤ 16777216) (i h : Int) (h0 : 0 ≤ i) (h1 : i ≤ b.length) :
 ∃ l i' h', Ev (fun k => spec_l19Entries.f k b i h) (l, i', h') ∧ l.length ≤ 5 ∧ l.all okE = true ∧ 0 ≤ i' ∧ i' ≤ b.length :=
 drawEntriesGo b hb 5 i h 0 [] h0 h1 (by omega) rfl rfl
theorem pathS_sizes (n : Nat) : ∀ (l : List S27) (i : Nat), l.length = n → ∀ x ∈ pathS l i, (x.size : Int) ≤ 1048576 := by
 induction n using Nat.strongRecOn with
 | ind n ih =>
  intro l i hn x hx
  rw [pathS] at hx
  split at hx
  ·cases hx
  ·have hk := half_lt l.length (by omega)
   have hp := half_pos l.length
   split at hx
   ·rcases List.mem_append.1 hx with hx | hx
    ·exact ih _ (by rw [List.length_take]; omega) (l.take (half l.length)) i rfl x hx
    ·rw [List.mem_singleton.1 hx, rootS_size]; omega
   ·rcases List.mem_append.1 hx with hx | hx
    ·exact ih _ (by rw [List.length_drop]; omega) (l.drop (half l.length)) (i - half l.length) rfl x hx
    ·rw [List.mem_singleton.1 hx, rootS_size]; omega
theorem drawAny (b : List Int) (hb : b.length ≤ 16777216) (i h : Int) (h0 : 0 ≤ i) (h1 : i ≤ b.length) : ∃ l i' h', Ev (fun k => spec_l19Any.f k b i h) (l, i', h') ∧ l.length ≤ 6 ∧ 0 ≤ i' ∧ i' ≤ b.length := by
 simp only [spec_l19Any.f]
 obtain ⟨x, i1, h1', e1, x0, x1, j0, j1⟩ := drawBelow b i h 10 h0 h1 hb (by omega)
 obtain ⟨l, i2, h2', e2, hl, ha, k0, k1⟩ := drawEntriesAt b hb i1 h1' j0 j1
 by_cases hx : x = 0
 ·refine ⟨l ++ [⟨5, 1, ⟨0, 0, 0, 0⟩⟩], i2, h2', evBindS e1 ?_, ?_, k0, k1⟩
  ·simp only [Option.bind_some]
   refine Ev.bind e2 (evPos (show ([] : List S27).length + l.length < _ by simp; omega) ?_)
   rw [List.nil_append]
   exact evPos hx (evPos (show l.length < _ by omega) (Ev.now _))
  ·rw [List.length_append, List.length_singleton]; omega
 ·by_cases hy : x = 1
  ·refine ⟨l ++ [⟨0, 0, ⟨0, 0, 0, 0⟩⟩], i2, h2', evBindS e1 ?_, ?_, k0, k1⟩
   ·simp only [Option.bind_some]
    refine Ev.bind e2 (evPos (show ([] : List S27).length + l.length < _ by simp; omega) ?_)
    rw [List.nil_append]
    exact evNeg hx (evPos hy (evPos (show l.length < _ by omega) (Ev.now _)))
   ·rw [List.length_append, List.length_singleton]; omega
  ·refine ⟨l, i2, h2', evBindS e1 ?_, by omega, k0, k1⟩
   simp only [Option.bind_some]
   refine Ev.bind e2 (evPos (show ([] : List S27).length + l.length < _ by simp; omega) ?_)
   rw [List.nil_append]
   exact evNeg hx (evNeg hy (Ev.now _))
theorem drawTree (b : List Int) (hb : b.length ≤ 16777216) : ∃ l i, Ev (fun k => spec_l27Draw.f k b) (l, i) ∧ l.length ≤ 201 ∧ -1 ≤ i ∧ i ≤ 10 := by
 obtain ⟨h, e⟩ := drawNew b hb
 obtain ⟨x, i1, h1', e1, x0, x1, j0, j1⟩ := drawBelow b 0 h 12 (by omega) (by omega) hb (by omega)
 obtain ⟨l, i2, h2', e2, hl, k0, k1⟩ := drawAny b hb i1 h1' j0 j1
 obtain ⟨m, i3, h3', e3, hm, _, l0, l1⟩ := drawEntriesAt b hb i2 h2' k0 k1
 obtain ⟨c, i4, h4', e4, m0, m1⟩ := drawOnce b i3 h3' 20 l0 l1 hb (by omega)
 simp only [spec_l27Draw.f]
 have hw : wrap64 (x - 1) = x - 1 := w64 (by omega) (by omega)
 have hlim : (l, i2, h2').1.length + (m, i3, h3').1.length < 2932031007402 := by show l.length + m.length < _; omega
 cases c
 ·refine ⟨l ++ m, x - 1, Ev.bind e (evBindS e1 (Ev.bind e2 (Ev.bind e3 (evPos hlim (evBindS e4 (evNeg (by simp) ?_)))))), by rw [List.length_append]; omega, by omega, by omega⟩
  rw [hw]
  exact Ev.now _
 ·obtain ⟨y, i5, h5', e5, y0, y1, _, _⟩ := drawBelow b i4 h4' 2 m0 m1 hb (by omega)
  have hw2 : wrap64 (200 + y) = 200 + y := w64 (by omega) (by omega)
  refine ⟨List.replicate (200 + y).toNat z27, x - 1, Ev.bind e (evBindS e1 (Ev.bind e2 (Ev.bind e3 (evPos hlim (evBindS e4 (evPos rfl (evBindS e5 ?_))))))), by rw [List.length_replicate]; omega, by omega, by omega⟩
  rw [hw, hw2]
  exact evPos (by omega) (evPos (by omega) (Ev.now _))
theorem rdOfMem (l : List ByteArray) (x : Int) (h0 : 0 ≤ x) (h1 : x < (l.length : Int)) : rdOf ByteArray.empty l x ∈ l := by
 unfold rdOf
 rw [List.getD_eq_getElem?_getD, List.getElem?_eq_getElem (by omega)]
 exact List.getElem_mem _
theorem drawPick (b : List Int) (i h : Int) (l : List ByteArray) (hl : 0 < l.length) (h0 : 0 ≤ i) (h1 : i ≤ b.length) (hb : b.length ≤ 16777216) : ∃ x i' h', spec_l01Pick.f b i h l = some (x, i', h') ∧ x ∈ l ∧ 0 ≤ i' ∧ i' ≤ b.length := by
 unfold spec_l01Pick.f
 obtain ⟨y, i2, h2', e2, y0, y1, k0, k1⟩ := drawBelow b i h (l.length : Int) h0 h1 hb (by omega)
 rw [e2]
 simp only [Option.bind_some]
 rw [if_pos y0, if_pos y1]
 exact ⟨_, _, _, rfl, rdOfMem l y y0 y1, k0, k1⟩
theorem ev_sameTexts (l : List ByteArray) (hl : l.length ≤ 1048576) : Ev (fun k => laws_sameTexts.f k l l) true := by
 have key := evUp (r := true) l.length (fun i k => laws_sameTexts.l0 k l l (i : Int)) ?_ ?_
 ·refine Ev.congr (fun k => ?_) key
  unfold laws_sameTexts.f
  rw [if_pos rfl]
  rfl
 ·intro i hi ih
  refine evSucc ?_
  simp only [laws_sameTexts.l0]
  refine evPos (by omega) (evPos (by omega) (evPos (by omega) (evPos trivial ?_)))
  rw [w64 (by omega) (by omega), ci]
  exact ih
 ·refine evSucc ?_
  simp only [laws_sameTexts.l0]
  exact evNeg (by omega) (Ev.now _)
theorem drawLeaf (b : List Int) (hb : b.length ≤ 16777216) : ∃ x, Ev (fun k => spec_DrawLeafOf.f k b) x := by
 obtain ⟨l, i, e, hl, _⟩ := drawTree b hb
 simp only [spec_DrawLeafOf.f]
 by_cases h : (l.length : Int) = 0
 ·exact ⟨_, Ev.bind e (evPos h (Ev.now _))⟩
 ·exact ⟨_, Ev.bind e (evNeg h (evPos (by show (0 : Int) < (l.length : Int); omega) (Ev.now _)))⟩
theorem drawNode (b : List Int) (hb : b.length ≤ 16777216) : ∃ x y : ByteArray, Ev (fun k => spec_DrawNodeOf.f k b) (x, y) ∧ x.size ≤ 16777216 ∧ y.size ≤ 16777216 := by
 obtain ⟨h, e⟩ := drawNew b hb
 obtain ⟨x, i1, h1', e1, hx, j0, j1⟩ := drawPick b 0 h [(⟨#[]⟩ : ByteArray), (⟨#[97]⟩ : ByteArray), (⟨#[115, 111, 109, 101, 32, 116, 101, 120, 116]⟩ : ByteArray)] (by decide) (by omega) (by omega) hb
 obtain ⟨y, i2, h2', e2, hy, _, _⟩ := drawPick b i1 h1' [(⟨#[]⟩ : ByteArray), (⟨#[98]⟩ : ByteArray)] (by decide) j0 j1 hb
 refine ⟨x, y, ?_, ?_, ?_⟩
 ·simp only [spec_DrawNodeOf.f]
  exact Ev.bind e (evBindS e1 (evBindS e2 (Ev.now _)))
 ·have : ∀ z ∈ ([(⟨#[]⟩ : ByteArray), (⟨#[97]⟩ : ByteArray), (⟨#[115, 111, 109, 101, 32, 116, 101, 120, 116]⟩ : ByteArray)] : List ByteArray), z.size ≤ 16777216 := by
   intro z hz
   rcases List.mem_cons.1 hz with rfl | hz
   ·exact Nat.zero_le _
   rcases List.mem_cons.1 hz with rfl | hz
   ·show 1 ≤ _; omega
   rw [List.mem_singleton] at hz; subst hz
   show 9 ≤ _; omega
  exact this x hx
 ·have : ∀ z ∈ ([(⟨#[]⟩ : ByteArray), (⟨#[98]⟩ : ByteArray)] : List ByteArray), z.size ≤ 16777216 := by
   intro z hz
   rcases List.mem_cons.1 hz with rfl | hz
   ·exact Nat.zero_le _
   rw [List.mem_singleton] at hz; subst hz
   show 1 ≤ _; omega
  exact this y hy
theorem pathOfB_facts (l : List S27) (i : Int) : (pathOfB l i).1.length ≤ 200 ∧ (∀ x ∈ (pathOfB l i).1, (x.size : Int) ≤ 1048576) ∧ ((pathOfB l i).2 = true → l.length ≤ 200 ∧ 0 ≤ i ∧ i < l.length) := by
 unfold pathOfB
 split
 ·rename_i hc
  have h1 := pathS_len _ l i.toNat rfl
  refine ⟨?_, pathS_sizes _ l i.toNat rfl, fun _ => hc⟩
  show (pathS l i.toNat).length ≤ 200
  omega
 ·exact ⟨Nat.zero_le _, fun x hx => by simp at hx, fun h => by cases h⟩
def Okd (x : ByteArray × Int × Int × Int × Int × Int × Int × Int × Int × List ByteArray) : Prop := -9223372036854775808 ≤ x.2.1 ∧ x.2.2.2.2.2.2.2.2.2.length ≤ 1048576 ∧ ∀ y ∈ x.2.2.2.2.2.2.2.2.2, (y.size : Int) ≤ 1048576
theorem drawPathOk (b : List Int) (hb : b.length ≤ 16777216) : ∃ x, Ev (fun k => spec_DrawPathOk.f k b) x ∧ Okd x := by
 obtain ⟨h, e⟩ := drawNew b hb
 obtain ⟨x, i1, h1', e1, x0, x1, j0, j1⟩ := drawBelow b 0 h 8 (by omega) (by omega) hb (by omega)
 obtain ⟨l, i, et, hl, i0, i9⟩ := drawTree b hb
 obtain ⟨p1, p2, p3⟩ := pathOfB_facts l i
 simp only [spec_DrawPathOk.f]
 cases ho : (pathOfB l i).2
 ·exact ⟨(rootS l, (l.length : Int), i, 0, 0, 0, 0, 0, 0, []), Ev.bind e (evBindS e1 (Ev.bind et (Ev.bind (ev_spec_PathOf l i (by omega)) (Ev.bind (ev_spec_RootOf _ l rfl (by omega)) (evNeg (by rw [ho]; simp) (Ev.now _)))))), by show -9223372036854775808 ≤ (l.length : Int); omega, Nat.zero_le _, fun y hy => by simp at hy⟩
 ·obtain ⟨q1, q2, q3⟩ := p3 ho
  have fin : ∀ (r : ByteArray) (n : Int) (a c d f g o : Int) (p : List ByteArray) (G : Nat → Option (ByteArray × Int × Int × Int × Int × Int × Int × Int × Int × List ByteArray)), -9223372036854775808 ≤ n → p.length ≤ 1048576 → (∀ y ∈ p, (y.size : Int) ≤ 1048576) → Ev G (r, n, i, a, c, d, f, g, o, p) → ∃ x, Ev G x ∧ Okd x :=
   fun r n a c d f g o p G z1 z2 z3 z4 => ⟨_, z4, z1, z2, z3⟩
  have key : ∃ x_, Ev (fun (k : Nat) => (if x = 0 then ((spec_Digest.f (⟨#[120]⟩ : ByteArray)).bind fun t502 => (some (t502, (l.length : Int), i, (rd_T27 l i).f0, (rd_T27 l i).f1, (rd_T27 l i).f2.f0, (rd_T27 l i).f2.f1, (rd_T27 l i).f2.f2, (rd_T27 l i).f2.f3, (pathOfB l i).1))) else (if x = 1 then (some (rootS l, wrap64 ((l.length : Int) + 1), i, (rd_T27 l i).f0, (rd_T27 l i).f1, (rd_T27 l i).f2.f0, (rd_T27 l i).f2.f1, (rd_T27 l i).f2.f2, (rd_T27 l i).f2.f3, (pathOfB l i).1)) else (if x = 2 then (some (rootS l, (l.length : Int), i, 1, 9, 0, 0, 0, 0, (pathOfB l i).1)) else (if x = 3 then (if (pathOfB l i).1.length < 8796093022208 then (some (rootS l, (l.length : Int), i, (rd_T27 l i).f0, (rd_T27 l i).f1, (rd_T27 l i).f2.f0, (rd_T27 l i).f2.f1, (rd_T27 l i).f2.f2, (rd_T27 l i).f2.f3, ((pathOfB l i).1 ++ [(⟨#[121]⟩ : ByteArray)]))) else (none)) else (if x = 4 then (if ((pathOfB l i).1.length : Int) > 0 then (if 1 ≤ ((pathOfB l i).1.length : Int) then (some (rootS l, (l.length : Int), i, (rd_T27 l i).f0, (rd_T27 l i).f1, (rd_T27 l i).f2.f0, (rd_T27 l i).f2.f1, (rd_T27 l i).f2.f2, (rd_T27 l i).f2.f3, ((pathOfB l i).1.drop (1 : Int).toNat))) else (none)) else (some (rootS l, (l.length : Int), i, (rd_T27 l i).f0, (rd_T27 l i).f1, (rd_T27 l i).f2.f0, (rd_T27 l i).f2.f1, (rd_T27 l i).f2.f2, (rd_T27 l i).f2.f3, (pathOfB l i).1))) else (some (rootS l, (l.length : Int), i, (rd_T27 l i).f0, (rd_T27 l i).f1, (rd_T27 l i).f2.f0, (rd_T27 l i).f2.f1, (rd_T27 l i).f2.f2, (rd_T27 l i).f2.f3, (pathOfB l i).1)))))))) x_ ∧ Okd x_ := by
   by_cases z0 : x = 0
   ·exact fin _ _ _ _ _ _ _ _ _ _ (by omega) (by omega) p2 (evPos z0 (evBindS (dig_spec _ (by show 1 ≤ _; omega)) (Ev.now _)))
   by_cases z1 : x = 1
   ·exact fin _ _ _ _ _ _ _ _ _ _ (by rw [w64 (by omega) (by omega)]; omega) (by omega) p2 (evNeg z0 (evPos z1 (Ev.now _)))
   by_cases z2 : x = 2
   ·exact fin _ _ _ _ _ _ _ _ _ _ (by omega) (by omega) p2 (evNeg z0 (evNeg z1 (evPos z2 (Ev.now _))))
   by_cases z3 : x = 3
   ·refine fin _ _ _ _ _ _ _ _ ((pathOfB l i).1 ++ [(⟨#[121]⟩ : ByteArray)]) _ (by omega) (by rw [List.length_append, List.length_singleton]; omega) (fun y hy => ?_) (evNeg z0 (evNeg z1 (evNeg z2 (evPos z3 (evPos (by omega) (Ev.now _))))))
    rcases List.mem_append.1 hy with hy | hy
    ·exact p2 y hy
    ·rw [List.mem_singleton] at hy; subst hy
     show ((1 : Nat) : Int) ≤ _; omega
   by_cases z4 : x = 4
   ·by_cases z5 : ((pathOfB l i).1.length : Int) > 0
    ·exact fin _ _ _ _ _ _ _ _ ((pathOfB l i).1.drop (1 : Int).toNat) _ (by omega) (by rw [List.length_drop]; omega) (fun y hy => p2 y (List.mem_of_mem_drop hy)) (evNeg z0 (evNeg z1 (evNeg z2 (evNeg z3 (evPos z4 (evPos z5 (evPos (by omega) (Ev.now _))))))))
    ·exact fin _ _ _ _ _ _ _ _ _ _ (by omega) (by omega) p2 (evNeg z0 (evNeg z1 (evNeg z2 (evNeg z3 (evPos z4 (evNeg z5 (Ev.now _)))))))
   ·exact fin _ _ _ _ _ _ _ _ _ _ (by omega) (by omega) p2 (evNeg z0 (evNeg z1 (evNeg z2 (evNeg z3 (evNeg z4 (Ev.now _))))))
  obtain ⟨x_, ex, hx⟩ := key
  exact ⟨x_, Ev.bind e (evBindS e1 (Ev.bind et (Ev.bind (ev_spec_PathOf l i (by omega)) (Ev.bind (ev_spec_RootOf _ l rfl (by omega)) (evPos ho (evPos q2 (evPos q3 ex))))))), hx⟩
theorem FnTreeTold : PureFnTreeTold.Stated := by
 intro code ⟨_, hb⟩
 refine Ev.rounds ?_
 simp only [laws_FnTreeTold.f, laws_big.f, Option.bind_some]
 by_cases hc : (code.length : Int) > 1048576
 ·exact evPos (by simpa using hc) (Ev.now _)
 refine evNeg (by simpa using hc) ?_
 obtain ⟨x, ex⟩ := drawLeaf code (by omega)
 obtain ⟨a, b, ea, la, lb⟩ := drawNode code (by omega)
 obtain ⟨l, i, et, hl, i0, i9⟩ := drawTree code (by omega)
 have el : Ev (fun k => spec_DrawPathOf.f k code) (l, i) := by
  simp only [spec_DrawPathOf.f]
  exact Ev.bind et (Ev.now _)
 obtain ⟨p1, p2, p3⟩ := pathOfB_facts l i
 obtain ⟨⟨r, n, j, y0, y1, y2, y3, y4, y5, p⟩, ep, h1, h2, h3⟩ := drawPathOk code (by omega)
 refine Ev.bind ex (Ev.bind ea (Ev.bind el (Ev.bind (ev_impl_PathOf l i (by omega)) (Ev.bind (ev_spec_PathOf l i (by omega)) (Ev.bind ep (Ev.bind (ev_impl_LeafOf _ _ _ _ _ _) (Ev.bind (ev_spec_LeafOf _ _ _ _ _ _) ?_)))))))
 refine evPos rfl (Ev.bind (ev_impl_NodeOf a b la lb) (evBindS (spec_nodeS a b la lb) (evPos rfl (Ev.bind (ev_impl_RootOf _ l rfl (by omega)) (Ev.bind (ev_spec_RootOf _ l rfl (by omega)) (evPos rfl (evPos (by simp) (Ev.bind (ev_sameTexts _ (by omega)) (evPos rfl ?_)))))))))
 exact Ev.bind (ev_impl_PathOk r n j ⟨y0, y1, ⟨y2, y3, y4, y5⟩⟩ p h1 h2 h3) (Ev.bind (ev_spec_PathOk r n j ⟨y0, y1, ⟨y2, y3, y4, y5⟩⟩ p h1 h2 h3) (evEq (Ev.now _) (by simp)))

end Go.Proofs.YtdlapahfmfhbjaaDoor.Pure

namespace Go.Proofs.YtdlapahfmfhbjaaDoor.fnTreeTold
open Go.ChangeShapes Go.WideShapes Go.ChangeAt Go.RowKit Go.Proofs.YtdlapahfmfhbjaaDoor.PA Go.Proofs.YtdlapahfmfhbjaaDoor.PureFnTreeTold Go.Proofs.YtdlapahfmfhbjaaDoorW.PrintWords
open Go.ChangeMaps (open_string shut_string)
set_option linter.unusedVariables false
set_option linter.unusedSimpArgs false
theorem own : ownKnob Tryd.prog.godebug = none := by kernel_rfl
theorem laidOut : laidOutB Tryd.prog = true := by kernel_rfl
def laidV : List (String × DataW Unit) := [("loop.example/g00397/impl.shaWords", Rows.laid_loop_example_g00397_impl_shaWords)]
theorem gTab : Tryd.prog.globalNamed "loop.example/g00397/impl.shaWords" = some 0 := by kernel_rfl
theorem gTabType : (Tryd.prog.globals[0]?).map (·.type) = some 105 := by kernel_rfl
theorem door_met (os : Os) (args : Array Value) : laidMetH Tryd.prog laidV ((World.doorLaid Tryd.prog 4000 os).forCall (fun _ _ => 0) ⟨#[], args, []⟩).memory :=
 laidMetH_of_parts3 (fuel := 8) (laidMet_of_run' 8 (by kernel_rfl) (by kernel_rfl)) (by kernel_rfl) (by kernel_rfl)
/-- The table reads behind as before. -/
theorem vars_back {H : Type} {enc : TypeId × Value → H} {W W' : World} (hb : Below W.heap.size W W') {gs : List (DataW H)} {ps : List MemPlace} (h : DataW.TrodVars enc Tryd.prog W (fun _ => true) ["loop.example/g00397/impl.shaWords"] gs ps) :
 DataW.TrodVars enc Tryd.prog W' (fun b => decide (b < W.heap.size)) ["loop.example/g00397/impl.shaWords"] gs ps := by
 obtain ⟨g, t, cs, fu, d, p, rfl, hg, ht, hv, htr, rfl⟩ := trodVars_one h
 have hg2 := hg
 have ht2 := ht
 obtain rfl := Option.some.inj (gTab.symm.trans hg)
 obtain rfl := Option.some.inj (gTabType.symm.trans ht)
 have lt := DataW.trod_lt _ _ _ _ htr
 have hk : DataW.Trod enc Tryd.prog W' 0 (fun b => decide (b < W.heap.size)) true 105 (.agg cs) d p := Below.trod laidOut (by kernel_rfl) (of_decide_eq_true (by kernel_rfl)) (show DataW.Trod enc Tryd.prog W 0 (fun _ => true) true 105 (.agg cs) d p from ⟨fu, htr⟩) hb lt
 obtain ⟨m, hm⟩ := hk
 have hv2 : W'.var? Tryd.prog "loop.example/g00397/impl.shaWords" = some cs := by
  unfold World.var? at hv ⊢
  rw [gTab, Option.bind_some] at hv ⊢
  have hlt : 0 < W.heap.size := by
   rcases Nat.lt_or_ge 0 W.heap.size with h' | h'
   ·exact h'
   ·rw [Array.getElem?_eq_none h'] at hv; cases hv
  rw [hb.block 0 hlt]
  exact hv
 exact trodVars_mk1 hg2 ht2 hv2 hm
set_option maxRecDepth 100000 in
theorem lifted (os : Os) (started : os.Started) (H : Type) (enc : TypeId × Value → H) :
 ReturnsInHanded {} Tryd.checked os 3 .any (fun w args => (Rows.fnTreeToldSpec.pre enc Tryd.prog Tryd.f3 [] false w args ∧ laidMetH Tryd.prog laidV w) ∧ sizedMet enc Tryd.prog Tryd.f3 (OpenSpec.ofChange Rows.fnTreeToldSpec) false w args) (Rows.fnTreeToldSpec.post enc Tryd.prog Tryd.f3 false true false false) := by
 refine returnsInHanded_of_change_and (C := Tryd.checked) (X := fun w _ => laidMetH Tryd.prog laidV w) (fun _ _ _ hh h => h.of_heap hh) own started (by kernel_rfl) Tryd.func3
  (ChangeSpec.witness_shaped (enc := enc) (C := Tryd.checked) (os := os) (X := fun w _ => laidMetH Tryd.prog laidV w) false (World.doorLaid Tryd.prog 4000 os) #[.slice none 0 0] 8 rfl (World.shaped_of_RefB (by kernel_rfl) (by kernel_rfl)) (by kernel_rfl) (by kernel_rfl) (by kernel_rfl) (door_met os _)) ?_
 intro W base args ds gs before hval0 hW _ _ hL _
 have hT : PA.Tab W := by
  rw [MakeChecks.laidMetH_plain _ _ _ (by kernel_rfl)] at hL
  exact Lib.tabIs_of_head (rest := []) gTab gTabType (t := 105) (e := 102) (n := 64) (by kernel_rfl) (by kernel_rfl) (by kernel_rfl) (by kernel_rfl) hL
 have hval : ∀ (j : Nat) t v, Tryd.f3.params[j]? = some t → args[j]? = some v → Value.okWide Tryd.prog W .any base t v := hval0
 have hW' := hW
 obtain ⟨p, q, hA0, hV, rfl, hfz, hnd⟩ := hW
 have hA : DataW.TrodAll enc Tryd.prog W 0 (fun _ => true) true Tryd.f3.params.toList args.toList ds p := hA0
 rw [Tryd.params3] at hA hval
 obtain ⟨v0, vs0, d0, ds0, p0, q0, hargs, rfl, rfl, h0, r0⟩ := trodAll_cons hA
 obtain ⟨rfl, rfl, rfl⟩ := trodAll_nil r0
 obtain rfl : args = #[v0] := by cases args; simp_all
 obtain ⟨g1, t1, cs1, fu1, dv, pv1, rfl, _⟩ := trodVars_one hV
 have k0 := h0
 have lt0 : ∀ x ∈ p0, x.block < W.heap.size := by obtain ⟨m, hm⟩ := k0; exact DataW.trod_lt m _ _ _ hm
 obtain ⟨m0, hm0⟩ := h0
 obtain ⟨A0, n0, c0, rfl⟩ := okWide_slice Tryd.underlying22 (hval 0 22 v0 rfl rfl)
 obtain ⟨x0, ⟨A0', c0', hs0, hc0, hr0⟩, hG0⟩ := (Op.opSlice Tryd.underlying22 (by kernel_rfl) 5 (Op.opInt Tryd.underlying5 (by kernel_rfl))).op hm0
 obtain ⟨rfl, rfl, rfl⟩ : A0 = A0' ∧ n0 = x0.length ∧ c0 = c0' := by simpa [Value.cells] using hs0
 obtain ⟨k, h⟩ := Pure.FnTreeTold x0 hG0
 refine (laws_FnTreeTold.calls k A0 c0 x0 true W hr0 hc0 hT rfl h).mono fun e W' ⟨he, bel⟩ => ?_
 subst he
 exact ⟨_, rfl, _, _, _, [], _, _, hW', trodAll_mk1 (shut_bool Tryd.underlying4 _), (trodAll_cons_mk (Below.trod laidOut (by kernel_rfl) (of_decide_eq_true (by kernel_rfl)) k0 bel lt0) trodAll_mk0), vars_back bel hV, bel.frame _, fun h => by cases h⟩
theorem over : Rows.fnTreeToldRow.holds Tryd.pinned (OpenSpec.ofChange Rows.fnTreeToldSpec) :=
 OpenClaim.holds_of_wide 3 Tryd.f3 rfl rfl rfl rfl rfl rfl rfl ⟨rfl, rfl, rfl, rfl, rfl⟩ rfl rfl rfl rfl rfl (by kernel_rfl) Tryd.func3 (by kernel_rfl)
  (of_decide_eq_true (by kernel_rfl)) (by unfold Func.isWrapper; first | (rw [if_pos (by decide +kernel)]; kernel_rfl) | (rw [if_neg (by decide +kernel)]; exact ⟨rfl, rfl⟩))
  (fun os started H enc _ => lifted os started H enc)
theorem proved : Rows.FnTreeToldSaid := over
#print axioms proved
end Go.Proofs.YtdlapahfmfhbjaaDoor.fnTreeTold
namespace Go.Proofs.YtdlapahfmfhbjaaDoor
/-- The tied card, under a short name, for the claim. -/
theorem fnTreeTold_holds : Rows.FnTreeToldCardSaid :=
 Claim7.holds_tied_plain_at .later [] [.data] true (true, "fa0b9099e42f3be315dc93dea7eeb6b616dfd6e0f51a4126b7a18e1012786f54") false
  fnTreeTold.proved (fun _ h => by cases h) (by kernel_rfl) (fun _ h => by cases h) fnTreeTold_row_tie rfl ⟨rfl, rfl⟩ (by kernel_rfl) rfl
  (fun f fn hf hfn => by
   obtain rfl : f = 3 := Option.some.inj ((show Tryd.prog.funcNamed "loop.example/g00397/laws.FnTreeTold" = some 3 by kernel_rfl).symm.trans hf) |>.symm
   obtain rfl : fn = Tryd.f3 := (Option.some.inj (Tryd.func3.symm.trans hfn)).symm
   exact ⟨by kernel_rfl, fun j t ht => by
    rw [Tryd.params3] at ht
    have h3 : t = 22 := by
     match j, ht with
     | 0, ht => simp at ht; subst ht; simp
     | _ + 1, ht => simp at ht
    rcases h3 with rfl
    ·exact (show Tryd.prog.wantsStandIn 22 = false by kernel_rfl)⟩)
  (by kernel_rfl)
end Go.Proofs.YtdlapahfmfhbjaaDoor

/- Contracts of functions of the program and of the reference, and plain lemmas on what they compute: a part of the proof of the law FnLessTold. No condition. -/
import Derived.Test.YtjfmpodeenidnaaJFnLessTold9
import Derived.Test.YtjfmpodeenidnaaRows
import Derived.WalkKit
import Derived.ProofKit
import Derived.OpenShut
import Derived.ShutString
import Derived.ChangeOld
import Derived.Below
import Derived.SizedLaws
import Derived.Test.YtjfmpodeenidnaaV0
import Derived.Test.YtjfmpodeenidnaaShortV
namespace Go.Proofs.Ytjfmpodeenidnaa.Pure
open Go.RowKit Go.Proofs.Ytjfmpodeenidnaa.PC Go.Proofs.YtjfmpodeenidnaaW.PrintWords Go.Proofs.YtjfmpodeenidnaaW.PrintLast Go.Proofs.YtjfmpodeenidnaaW.PrintMore Go.Proofs.Ytjfmpodeenidnaa.Kit
set_option linter.unusedVariables false
set_option linter.unusedSimpArgs false
theorem bits_nat (op : BinOp) (k : IntKind) (x y : Int) : Go.bits op k x y = match op with
 | .and => k.wrap ((BitVec.ofInt k.bits x &&& BitVec.ofInt k.bits y).toNat : Int)
 | .or => k.wrap ((BitVec.ofInt k.bits x ||| BitVec.ofInt k.bits y).toNat : Int)
 | .xor => k.wrap ((BitVec.ofInt k.bits x ^^^ BitVec.ofInt k.bits y).toNat : Int)
 | .andNot => k.wrap ((BitVec.ofInt k.bits x &&& ~~~BitVec.ofInt k.bits y).toNat : Int)
 | _ => Go.bits op k x y := by
 cases op <;> rfl
theorem ofInt_nat64 (n : Nat) (h : n < 18446744073709551616) : (BitVec.ofInt 64 (n : Int)).toNat = n := by
 rw [BitVec.toNat_ofInt]; omega
theorem wrap_i64 (x : Int) : IntKind.wrap .i64 x = wrap64 x := i64_w x
def rng (x lo hi : Int) : Bool := decide (lo ≤ x) && decide (x ≤ hi)
theorem spec_in (x lo hi : Int) : spec_l01In.f x lo hi = some (rng x lo hi) := by
 unfold spec_l01In.f rng
 by_cases h : x ≥ lo
 ·simp [h]
 ·simp [h]
  try omega
theorem impl_in (x lo hi : Int) : impl_within.f x lo hi = some (rng x lo hi) := by
 unfold impl_within.f rng
 by_cases h : x ≥ lo
 ·simp [h]
 ·simp [h]
  try omega
theorem and255 (x : Int) : 0 ≤ Go.bits .and .i64 x 255 ∧ Go.bits .and .i64 x 255 ≤ 255 := by
 have e : Go.bits .and .i64 x 255 = (((BitVec.ofInt 64 x).toNat % 256 : Nat) : Int) := by
  rw [bits_nat]
  show IntKind.wrap .i64 ((BitVec.ofInt 64 x &&& BitVec.ofInt 64 ((255 : Nat) : Int)).toNat : Int) = _
  rw [BitVec.toNat_and, ofInt_nat64 255 (by omega), wrap_i64]
  have : (BitVec.ofInt 64 x).toNat &&& 255 = (BitVec.ofInt 64 x).toNat % 256 := Nat.and_two_pow_sub_one_eq_mod _ 8
  rw [this, w64 (by omega) (by omega)]
 rw [e]
 omega
theorem drawByte (b : List Int) (i h : Int) (h0 : 0 ≤ i) (h1 : i ≤ b.length) (hb : b.length ≤ 16777216) : ∃ x i' h', spec_l01Byte.f b i h = some (x, i', h') ∧ 0 ≤ x ∧ x ≤ 255 ∧ 0 ≤ i' ∧ i' ≤ b.length := by
 unfold spec_l01Byte.f
 by_cases hc : i < (b.length : Int)
 ·rw [if_pos hc, if_pos h0, w64 (x := i + 1) (by omega) (by omega)]
  refine ⟨_, _, _, rfl, (and255 _).1, (and255 _).2, by omega, by omega⟩
 ·rw [if_neg hc]
  exact ⟨_, _, _, rfl, (and255 _).1, (and255 _).2, h0, h1⟩
theorem drawBelow (b : List Int) (i h n : Int) (h0 : 0 ≤ i) (h1 : i ≤ b.length) (hb : b.length ≤ 16777216) (hn : 0 < n) : ∃ x i' h', spec_l01Below.f b i h n = some (x, i', h') ∧ 0 ≤ x ∧ x < n ∧ 0 ≤ i' ∧ i' ≤ b.length := by
 unfold spec_l01Below.f
 rw [if_neg (by omega)]
 by_cases hc : n ≤ 256
 ·obtain ⟨x, i', h', e, x0, x1, i0, i1⟩ := drawByte b i h h0 h1 hb
  rw [if_pos hc, e]
  simp only [Option.bind_some]
  rw [if_neg (by omega), Int.tmod_eq_emod_of_nonneg x0]
  exact ⟨_, _, _, rfl, Int.emod_nonneg _ (by omega), Int.emod_lt_of_pos _ hn, i0, i1⟩
 ·obtain ⟨x, i1, h1', e1, x0, x1, j0, j1⟩ := drawByte b i h h0 h1 hb
  obtain ⟨y, i2, h2', e2, y0, y1, k0, k1⟩ := drawByte b i1 h1' j0 j1 hb
  obtain ⟨z, i3, h3', e3, z0, z1, l0, l1⟩ := drawByte b i2 h2' k0 k1 hb
  obtain ⟨v, i4, h4', e4, v0, v1, m0, m1⟩ := drawByte b i3 h3' l0 l1 hb
  rw [if_neg hc, e1]
  simp only [Option.bind_some, e2, e3, e4]
  rw [if_neg (by omega), w64 (x := x * 16777216) (by omega) (by omega), w64 (x := y * 65536) (by omega) (by omega), w64 (x := x * 16777216 + y * 65536) (by omega) (by omega), w64 (x := z * 256) (by omega) (by omega), w64 (x := x * 16777216 + y * 65536 + z * 256) (by omega) (by omega), w64 (x := x * 16777216 + y * 65536 + z * 256 + v) (by omega) (by omega), Int.tmod_eq_emod_of_nonneg (by omega)]
  exact ⟨_, _, _, rfl, Int.emod_nonneg _ (by omega), Int.emod_lt_of_pos _ hn, m0, m1⟩
theorem drawOnce (b : List Int) (i h n : Int) (h0 : 0 ≤ i) (h1 : i ≤ b.length) (hb : b.length ≤ 16777216) (hn : 0 < n) : ∃ (x : Bool) (i' h' : Int), spec_l01Once.f b i h n = some (x, i', h') ∧ 0 ≤ i' ∧ i' ≤ b.length := by
 unfold spec_l01Once.f
 obtain ⟨x, i', h', e, x0, x1, i0, i1⟩ := drawBelow b i h n h0 h1 hb hn
 rw [e]
 exact ⟨_, _, _, rfl, i0, i1⟩
theorem drawNew (b : List Int) (hb : b.length ≤ 16777216) : ∃ h : Int, Ev (fun k => spec_l01New.f k b) (b, 0, h) := by
 have key : ∀ d (i : Nat) (h : Int), i + d = b.length → ∃ h', Ev (fun k => spec_l01New.l0 k b h (i : Int)) (b, 0, h') := by
  intro d
  induction d with
  | zero =>
   intro i h hi
   refine ⟨h, evSucc ?_⟩
   simp only [spec_l01New.l0]
   exact evNeg (by omega) (Ev.now _)
  | succ d ih =>
   intro i h hi
   by_cases h4 : (i : Int) < 4000
   ·obtain ⟨h', hh⟩ := ih (i + 1) (Go.bits .and .i64 (wrap64 ((wrap64 ((wrap64 (h * 131)) + (wrap64 (rd b (i : Int))))) + 7)) 1073741823) (by omega)
    refine ⟨h', evSucc ?_⟩
    simp only [spec_l01New.l0]
    refine evPos (by omega) (evPos h4 (evPos (by omega) ?_))
    rw [w64 (x := (i : Int) + 1) (by omega) (by omega), ci]
    exact hh
   ·refine ⟨h, evSucc ?_⟩
    simp only [spec_l01New.l0]
    exact evPos (by omega) (evNeg h4 (Ev.now _))
 simp only [spec_l01New.f]
 exact key b.length 0 _ (by omega)
theorem drawHalf (b : List Int) (i h : Int) (h0 : 0 ≤ i) (h1 : i ≤ b.length) (hb : b.length ≤ 16777216) : ∃ x i' h', spec_l04Half.f b i h = some (x, i', h') ∧ 0 ≤ x ∧ x ≤ 4294967295 ∧ 0 ≤ i' ∧ i' ≤ b.length := by
 unfold spec_l04Half.f
 obtain ⟨x, i1, h1', e1, x0, x1, j0, j1⟩ := drawBelow b i h 12 h0 h1 hb (by omega)
 rw [e1]
 simp only [Option.bind_some]
 unfold spec_l01PickInt.f
 obtain ⟨y, i2, h2', e2, y0, y1, k0, k1⟩ := drawBelow b i1 h1' (([0, 1, 2, 3, 5, 7, 255, 4294967295, 2147483648, x] : List Int).length : Int) j0 j1 hb (by simp)
 rw [e2]
 simp only [Option.bind_some]
 rw [if_pos y0, if_pos y1]
 simp only [Option.bind_some]
 have hy : y < 10 := y1
 refine ⟨_, _, _, rfl, ?_, ?_, k0, k1⟩
 all_goals
  have hc : y = 0 ∨ y = 1 ∨ y = 2 ∨ y = 3 ∨ y = 4 ∨ y = 5 ∨ y = 6 ∨ y = 7 ∨ y = 8 ∨ y = 9 := by omega
  rcases hc with rfl | rfl | rfl | rfl | rfl | rfl | rfl | rfl | rfl | rfl <;> simp [rd] <;> omega
theorem rdMem (l : List Int) (x : Int) (h0 : 0 ≤ x) (h1 : x < (l.length : Int)) : rd l x ∈ l := by
 unfold rd
 rw [List.getD_eq_getElem?_getD, List.getElem?_eq_getElem (by omega)]
 exact List.getElem_mem _
theorem drawPickInt (b : List Int) (i h : Int) (l : List Int) (hl : 0 < l.length) (h0 : 0 ≤ i) (h1 : i ≤ b.length) (hb : b.length ≤ 16777216) : ∃ x i' h', spec_l01PickInt.f b i h l = some (x, i', h') ∧ x ∈ l ∧ 0 ≤ i' ∧ i' ≤ b.length := by
 unfold spec_l01PickInt.f
 obtain ⟨y, i2, h2', e2, y0, y1, k0, k1⟩ := drawBelow b i h (l.length : Int) h0 h1 hb (by omega)
 rw [e2]
 simp only [Option.bind_some]
 rw [if_pos y0, if_pos y1]
 exact ⟨_, _, _, rfl, rdMem l y y0 y1, k0, k1⟩
def halfB (n : Int) : Bool := decide (0 ≤ n) && decide (n ≤ 4294967295)
theorem impl_half (n : Int) : impl_HalfOk.f n = some (halfB n) := by
 unfold impl_HalfOk.f impl_within.f halfB
 by_cases h : n ≥ 0
 ·simp [h]
 ·simp [h]
  try omega
def wideB (w : S98) : Bool := halfB w.f0 && halfB w.f1
theorem impl_wide (w : S98) : impl_WideOk.f w.f0 w.f1 = some (wideB w) := by
 unfold impl_WideOk.f wideB
 rw [impl_half, impl_half]
 cases halfB w.f0 <;> simp
theorem halfB_of {x : Int} (h0 : 0 ≤ x) (h1 : x ≤ 4294967295) : halfB x = true := by
 unfold halfB
 rw [Bool.and_eq_true, decide_eq_true_eq, decide_eq_true_eq]
 exact ⟨h0, h1⟩
theorem drawWide (b : List Int) (i h : Int) (h0 : 0 ≤ i) (h1 : i ≤ b.length) (hb : b.length ≤ 16777216) : ∃ x y i' h', spec_l04Wide.f b i h = some (x, y, i', h') ∧ wideB (⟨x, y⟩ : S98) = true ∧ 0 ≤ i' ∧ i' ≤ b.length := by
 unfold spec_l04Wide.f
 obtain ⟨y, i1, h1', e1, y0, y1, j0, j1⟩ := drawHalf b i h h0 h1 hb
 rw [e1]
 simp only [Option.bind_some]
 obtain ⟨c, i2, h2', e2, k0, k1⟩ := drawOnce b i1 h1' 3 j0 j1 hb (by omega)
 rw [e2]
 simp only [Option.bind_some]
 cases c
 ·rw [if_neg (by simp)]
  refine ⟨_, _, _, _, rfl, ?_, k0, k1⟩
  show (halfB 0 && halfB y) = true
  rw [halfB_of y0 y1]
  rfl
 ·rw [if_pos rfl]
  obtain ⟨x, i3, h3', e3, x0, x1, l0, l1⟩ := drawHalf b i2 h2' k0 k1 hb
  rw [e3]
  refine ⟨_, _, _, _, rfl, ?_, l0, l1⟩
  show (halfB x && halfB y) = true
  rw [halfB_of y0 y1, halfB_of x0 x1]
  rfl
theorem spec_half (n : Int) : spec_HalfOk.f n = some (halfB n) := by
 unfold spec_HalfOk.f spec_l01In.f halfB
 by_cases h : n ≥ 0
 ·simp [h]
 ·simp [h]
  try omega
theorem spec_wide (w : S98) : spec_WideOk.f w.f0 w.f1 = some (wideB w) := by
 unfold spec_WideOk.f wideB
 rw [spec_half, spec_half]
 cases halfB w.f0 <;> simp
theorem evAll {r : Bool} (n : Nat) (P : Nat → Bool) (g : Nat → Nat → Option Bool) (bad : ∀ i, i < n → P i = false → Ev (g i) false) (step : ∀ i, i < n → P i = true → ∀ s, Ev (g (i + 1)) s → Ev (g i) s) (last : Ev (g n) r) : Ev (g 0) ((List.range n).all P && r) := by
 have key : ∀ d i, i + d = n → Ev (g i) ((List.range' i d).all P && r) := by
  intro d
  induction d with
  | zero => intro i hi; rw [show i = n by omega]; exact evEq last (by simp)
  | succ d ih =>
   intro i hi
   rw [List.range'_succ, List.all_cons]
   cases hp : P i
   ·exact evEq (bad i (by omega) hp) (by simp)
   ·exact evEq (step i (by omega) hp _ (ih (i + 1) (by omega))) (by simp)
 have := key n 0 (by omega)
 rw [List.range_eq_range']
 exact this
theorem rdCo (l : List S100) (i : Nat) (hi : i < l.length) : rd_T100 l (i : Int) = l[i] := by simp [rd_T100, hi]
theorem rdRu (l : List S53) (i : Nat) (hi : i < l.length) : rd_T53 l (i : Int) = l[i] := by simp [rd_T53, hi]
theorem rdN (l : List Int) (i : Nat) (hi : i < l.length) : rd l (i : Int) = l[i] := by simp [rd, hi]
def condB (c : S100) : Bool := rng c.f0 0 2 && (wideB c.f1 && (wideB c.f3 && rng c.f2 1 6))
theorem impl_cond (c : S100) : impl_CondOk.f c.f0 c.f1.f0 c.f1.f1 c.f2 c.f3.f0 c.f3.f1 = some (condB c) := by
 unfold impl_CondOk.f condB
 rw [impl_in, impl_in, impl_wide c.f1, impl_wide c.f3]
 cases rng c.f0 0 2 <;> cases wideB c.f1 <;> cases wideB c.f3 <;> simp
theorem spec_cond (c : S100) : spec_CondOk.f c.f0 c.f1.f0 c.f1.f1 c.f2 c.f3.f0 c.f3.f1 = some (condB c) := by
 unfold spec_CondOk.f condB
 rw [spec_in, spec_in, spec_wide c.f1, spec_wide c.f3]
 cases rng c.f0 0 2 <;> cases wideB c.f1 <;> cases wideB c.f3 <;> simp
def actB (a d : Int) : Bool := rng a 0 5 && rng d 0 65535
theorem impl_act (a d : Int) : impl_actionOk.f a d = some (actB a d) := by
 unfold impl_actionOk.f actB
 rw [impl_in, impl_in]
 cases rng a 0 5 <;> simp
theorem spec_act (a d : Int) : spec_l09Act.f a d = some (actB a d) := by
 unfold spec_l09Act.f actB
 rw [spec_in, spec_in]
 cases rng a 0 5 <;> simp
def numAt (l : List Int) (i : Nat) : Bool := halfB (l.getD i 0) && (decide (i = 0) || decide (l.getD (i - 1) 0 < l.getD i 0))
def condAt (l : List S100) (i : Nat) : Bool := condB (rd_T100 l (i : Int))
def ruleEnd (r : S53) : Bool := decide (r.f0.length ≤ 4) && (decide (r.f1.length ≤ 3) && actB r.f2 r.f3)
def ruleB (r : S53) : Bool := (List.range r.f0.length).all (numAt r.f0) && ((List.range r.f1.length).all (condAt r.f1) && ruleEnd r)
def ruleAt (l : List S53) (i : Nat) : Bool := ruleB (rd_T53 l (i : Int))
def polB (a b d : Int) (l : List S53) : Bool := (List.range l.length).all (ruleAt l) && (halfB a && (actB b d && decide (l.length ≤ 10)))
theorem numsLoop {s : Bool} (l : List Int) (hl : l.length ≤ 1048576) (i : Nat) (hi : i < l.length) : (numAt l i = (halfB l[i] && (decide (i = 0) || decide (l.getD (i - 1) 0 < l[i])))) := by
 unfold numAt
 rw [show l.getD i 0 = l[i] by simp [hi]]
theorem ev_impl_ruleOk (r : S53) (h0 : r.f0.length ≤ 1048576) (h1 : r.f1.length ≤ 1048576) : Ev (fun k => impl_ruleOk.f k r.f0 r.f1 r.f2 r.f3) (ruleB r) := by
 unfold ruleB
 simp only [impl_ruleOk.f]
 have step : ∀ i (hi : i < r.f0.length) (s : Bool), (numAt r.f0 i = true → Ev (fun k => impl_ruleOk.l0 k r.f0 (r.f0.length : Int) ((i + 1 : Nat) : Int) r.f0 r.f1 r.f2 r.f3) s) → (numAt r.f0 i = false → s = false) → Ev (fun k => impl_ruleOk.l0 k r.f0 (r.f0.length : Int) (i : Int) r.f0 r.f1 r.f2 r.f3) s := by
  intro i hi s hs hf
  refine evSucc ?_
  simp only [impl_ruleOk.l0]
  refine evPos (by omega) (evPos (by omega) (evPos (by omega) (evBindS (impl_half _) ?_)))
  rw [rdN r.f0 i hi, w64 (x := (i : Int) + 1) (by omega) (by omega), ci]
  have hn : numAt r.f0 i = (halfB r.f0[i] && (decide (i = 0) || decide (r.f0.getD (i - 1) 0 < r.f0[i]))) := numsLoop (s := s) r.f0 h0 i hi
  rw [hn] at hs hf
  cases hb : halfB r.f0[i]
  ·rw [hb] at hf
   exact evNeg (by simp) (evEq (Ev.now _) (hf (by simp)).symm)
  ·rw [hb] at hs hf
   refine evPos rfl ?_
   by_cases hz : i = 0
   ·refine evNeg (by omega) (hs (by simp [hz]))
   ·refine evPos (by omega) ?_
    rw [w64 (by omega) (by omega), show (i : Int) - 1 = ((i - 1 : Nat) : Int) by omega]
    refine evPos (by omega) (evPos (by omega) ?_)
    have hg : r.f0.getD (i - 1) 0 = r.f0[i - 1]'(by omega) := by simp [show i - 1 < r.f0.length by omega]
    rw [hg] at hs hf
    rw [rdN r.f0 (i - 1) (by omega)]
    by_cases hc : r.f0[i - 1]'(by omega) ≥ r.f0[i]
    ·exact evPos hc (evEq (Ev.now _) (hf (by simp [hz]; omega)).symm)
    ·exact evNeg hc (hs (by simp; omega))
 refine evAll r.f0.length (numAt r.f0) (fun i k => impl_ruleOk.l0 k r.f0 (r.f0.length : Int) (i : Int) r.f0 r.f1 r.f2 r.f3) (fun i hi hf => step i hi false (fun h => by rw [hf] at h; cases h) (fun _ => rfl)) (fun i hi ht s hs => step i hi s (fun _ => hs) (fun h => by rw [ht] at h; cases h)) ?_
 refine evSucc ?_
 simp only [impl_ruleOk.l0]
 refine evNeg (by omega) ?_
 refine evAll r.f1.length (condAt r.f1) (fun i k => impl_ruleOk.l1 k r.f1 (r.f1.length : Int) (i : Int) r.f0 r.f1 r.f2 r.f3) ?_ ?_ ?_
 ·intro i hi hf
  refine evSucc ?_
  simp only [impl_ruleOk.l1]
  refine evPos (by omega) (evPos (by omega) (evPos (by omega) (evBindS (impl_cond _) (evNeg ?_ (Ev.now _)))))
  rw [show condB (rd_T100 r.f1 (i : Int)) = condAt r.f1 i from rfl, hf]
  simp
 ·intro i hi ht s hs
  refine evSucc ?_
  simp only [impl_ruleOk.l1]
  refine evPos (by omega) (evPos (by omega) (evPos (by omega) (evBindS (impl_cond _) (evPos ht ?_))))
  rw [w64 (by omega) (by omega), ci]
  exact hs
 ·refine evSucc ?_
  simp only [impl_ruleOk.l1]
  refine evNeg (by omega) ?_
  unfold ruleEnd
  by_cases h4 : r.f0.length ≤ 4
  ·refine evPos (by omega) ?_
   by_cases h3 : r.f1.length ≤ 3
   ·exact evPos (by omega) (evBindS (impl_act _ _) (evEq (Ev.now _) (by simp [h4, h3])))
   ·exact evNeg (by omega) (evEq (Ev.now _) (by simp [h3]))
  ·exact evNeg (by omega) (evEq (Ev.now _) (by simp [h4]))
theorem ev_spec_l09Rule (r : S53) (h0 : r.f0.length ≤ 1048576) (h1 : r.f1.length ≤ 1048576) : Ev (fun k => spec_l09Rule.f k r.f0 r.f1 r.f2 r.f3) (ruleB r) := by
 unfold ruleB
 simp only [spec_l09Rule.f]
 have step : ∀ i (hi : i < r.f0.length) (s : Bool), (numAt r.f0 i = true → Ev (fun k => spec_l09Rule.l0 k ((i + 1 : Nat) : Int) r.f0 r.f1 r.f2 r.f3) s) → (numAt r.f0 i = false → s = false) → Ev (fun k => spec_l09Rule.l0 k (i : Int) r.f0 r.f1 r.f2 r.f3) s := by
  intro i hi s hs hf
  refine evSucc ?_
  simp only [spec_l09Rule.l0]
  refine evPos (by omega) (evPos (by omega) (evBindS (spec_half _) ?_))
  rw [rdN r.f0 i hi, w64 (x := (i : Int) + 1) (by omega) (by omega), ci]
  have hn : numAt r.f0 i = (halfB r.f0[i] && (decide (i = 0) || decide (r.f0.getD (i - 1) 0 < r.f0[i]))) := numsLoop (s := s) r.f0 h0 i hi
  rw [hn] at hs hf
  cases hb : halfB r.f0[i]
  ·rw [hb] at hf
   exact evNeg (by simp) (evEq (Ev.now _) (hf (by simp)).symm)
  ·rw [hb] at hs hf
   refine evPos rfl ?_
   by_cases hz : i = 0
   ·refine evNeg (by omega) (hs (by simp [hz]))
   ·refine evPos (by omega) ?_
    rw [w64 (by omega) (by omega), show (i : Int) - 1 = ((i - 1 : Nat) : Int) by omega]
    refine evPos (by omega) (evPos (by omega) ?_)
    have hg : r.f0.getD (i - 1) 0 = r.f0[i - 1]'(by omega) := by simp [show i - 1 < r.f0.length by omega]
    rw [hg] at hs hf
    rw [rdN r.f0 (i - 1) (by omega)]
    by_cases hc : r.f0[i - 1]'(by omega) ≥ r.f0[i]
    ·exact evPos hc (evEq (Ev.now _) (hf (by simp [hz]; omega)).symm)
    ·exact evNeg hc (hs (by simp; omega))
 refine evAll r.f0.length (numAt r.f0) (fun i k => spec_l09Rule.l0 k (i : Int) r.f0 r.f1 r.f2 r.f3) (fun i hi hf => step i hi false (fun h => by rw [hf] at h; cases h) (fun _ => rfl)) (fun i hi ht s hs => step i hi s (fun _ => hs) (fun h => by rw [ht] at h; cases h)) ?_
 refine evSucc ?_
 simp only [spec_l09Rule.l0]
 refine evNeg (by omega) ?_
 refine evAll r.f1.length (condAt r.f1) (fun i k => spec_l09Rule.l1 k (i : Int) r.f0 r.f1 r.f2 r.f3) ?_ ?_ ?_
 ·intro i hi hf
  refine evSucc ?_
  simp only [spec_l09Rule.l1]
  refine evPos (by omega) (evPos (by omega) (evBindS (spec_cond _) (evNeg ?_ (Ev.now _))))
  rw [show condB (rd_T100 r.f1 (i : Int)) = condAt r.f1 i from rfl, hf]
  simp
 ·intro i hi ht s hs
  refine evSucc ?_
  simp only [spec_l09Rule.l1]
  refine evPos (by omega) (evPos (by omega) (evBindS (spec_cond _) (evPos ht ?_)))
  rw [w64 (by omega) (by omega), ci]
  exact hs
 ·refine evSucc ?_
  simp only [spec_l09Rule.l1]
  refine evNeg (by omega) ?_
  unfold ruleEnd
  by_cases h4 : r.f0.length ≤ 4
  ·refine evPos (by omega) ?_
   by_cases h3 : r.f1.length ≤ 3
   ·exact evPos (by omega) (evBindS (spec_act _ _) (evEq (Ev.now _) (by simp [h4, h3])))
   ·exact evNeg (by omega) (evEq (Ev.now _) (by simp [h3]))
  ·exact evNeg (by omega) (evEq (Ev.now _) (by simp [h4]))
def polSmall (l : List S53) : Prop := l.length ≤ 1048576 ∧ ∀ r ∈ l, r.f0.length ≤ 1048576 ∧ r.f1.length ≤ 1048576
theorem ev_impl_PolicyOk (a b d : Int) (l : List S53) (hl : polSmall l) : Ev (fun k => impl_PolicyOk.f k a b d l) (polB a b d l) := by
 have hz := hl.1
 unfold polB
 simp only [impl_PolicyOk.f]
 refine evAll l.length (ruleAt l) (fun i k => impl_PolicyOk.l0 k l (l.length : Int) (i : Int) a b d l) ?_ ?_ ?_
 ·intro i hi hf
  refine evSucc ?_
  simp only [impl_PolicyOk.l0]
  have hm := hl.2 _ (List.getElem_mem hi)
  rw [← rdRu l i hi] at hm
  refine evPos (by omega) (evPos (by omega) (evPos (by omega) (Ev.bind (ev_impl_ruleOk _ hm.1 hm.2) (evNeg ?_ (Ev.now _)))))
  rw [show ruleB (rd_T53 l (i : Int)) = ruleAt l i from rfl, hf]
  simp
 ·intro i hi ht s hs
  refine evSucc ?_
  simp only [impl_PolicyOk.l0]
  have hm := hl.2 _ (List.getElem_mem hi)
  rw [← rdRu l i hi] at hm
  refine evPos (by omega) (evPos (by omega) (evPos (by omega) (Ev.bind (ev_impl_ruleOk _ hm.1 hm.2) (evPos ht ?_))))
  rw [w64 (by omega) (by omega), ci]
  exact hs
 ·refine evSucc ?_
  simp only [impl_PolicyOk.l0]
  refine evNeg (by omega) (evBindS (impl_half _) ?_)
  cases halfB a
  ·exact evNeg (by simp) (Ev.now _)
  ·refine evPos rfl (evBindS (impl_act _ _) ?_)
   cases actB b d
   ·exact evNeg (by simp) (Ev.now _)
   ·refine evPos rfl (evEq (Ev.now _) ?_)
    simp only [Bool.true_and]
    rw [Bool.eq_iff_iff]
    simp
    try omega
theorem ev_spec_PolicyOk (a b d : Int) (l : List S53) (hl : polSmall l) : Ev (fun k => spec_PolicyOk.f k a b d l) (polB a b d l) := by
 have hz := hl.1
 unfold polB
 simp only [spec_PolicyOk.f]
 refine evAll l.length (ruleAt l) (fun i k => spec_PolicyOk.l0 k (i : Int) a b d l) ?_ ?_ ?_
 ·intro i hi hf
  refine evSucc ?_
  simp only [spec_PolicyOk.l0]
  have hm := hl.2 _ (List.getElem_mem hi)
  rw [← rdRu l i hi] at hm
  refine evPos (by omega) (evPos (by omega) (Ev.bind (ev_spec_l09Rule _ hm.1 hm.2) (evNeg ?_ (Ev.now _))))
  rw [show ruleB (rd_T53 l (i : Int)) = ruleAt l i from rfl, hf]
  simp
 ·intro i hi ht s hs
  refine evSucc ?_
  simp only [spec_PolicyOk.l0]
  have hm := hl.2 _ (List.getElem_mem hi)
  rw [← rdRu l i hi] at hm
  refine evPos (by omega) (evPos (by omega) (Ev.bind (ev_spec_l09Rule _ hm.1 hm.2) (evPos ht ?_)))
  rw [w64 (by omega) (by omega), ci]
  exact hs
 ·refine evSucc ?_
  simp only [spec_PolicyOk.l0]
  refine evNeg (by omega) (evBindS (spec_half _) ?_)
  cases halfB a
  ·exact evNeg (by simp) (Ev.now _)
  ·refine evPos rfl (evBindS (spec_act _ _) ?_)
   cases actB b d
   ·exact evNeg (by simp) (Ev.now _)
   ·refine evPos rfl (evEq (Ev.now _) ?_)
    simp only [Bool.true_and]
    rw [Bool.eq_iff_iff]
    simp
    try omega
theorem polB_bounds {a b d : Int} {l : List S53} (h : polB a b d l = true) : l.length ≤ 10 ∧ ∀ r ∈ l, r.f0.length ≤ 4 ∧ r.f1.length ≤ 3 := by
 unfold polB at h
 simp only [Bool.and_eq_true, decide_eq_true_eq] at h
 refine ⟨h.2.2.2, fun r hr => ?_⟩
 obtain ⟨j, hj, rfl⟩ := List.getElem_of_mem hr
 have h1 := List.all_eq_true.1 h.1 j (List.mem_range.2 hj)
 unfold ruleAt ruleB ruleEnd at h1
 rw [rdRu l j hj] at h1
 simp only [Bool.and_eq_true, decide_eq_true_eq] at h1
 exact ⟨h1.2.2.1, h1.2.2.2.1⟩
theorem rng_of {x lo hi : Int} (h0 : lo ≤ x) (h1 : x ≤ hi) : rng x lo hi = true := by unfold rng; simp [h0, h1]
theorem drawCond (b : List Int) (i h : Int) (h0 : 0 ≤ i) (h1 : i ≤ b.length) (hb : b.length ≤ 16777216) : ∃ (c : S100) (i' h' : Int), spec_l09Cond.f b i h = some (c.f0, c.f1.f0, c.f1.f1, c.f2, c.f3.f0, c.f3.f1, i', h') ∧ condB c = true ∧ 0 ≤ i' ∧ i' ≤ b.length := by
 obtain ⟨x, i1, h1', e1, x0, x1, a0, a1⟩ := drawBelow b i h 3 h0 h1 hb (by omega)
 obtain ⟨y, i2, h2', e2, y0, y1, b0, b1⟩ := drawBelow b i1 h1' 6 a0 a1 hb (by omega)
 obtain ⟨p, q, i3, h3', e3, hw, c0, c1⟩ := drawWide b i2 h2' b0 b1 hb
 obtain ⟨z, i4, h4', e4, d0, d1⟩ := drawOnce b i3 h3' 3 c0 c1 hb (by omega)
 obtain ⟨u, v, i5, h5', e5, hw2, g0, g1⟩ := drawWide b i4 h4' d0 d1 hb
 have hx : rng x 0 2 = true := rng_of x0 (by omega)
 have hy : rng (1 + y) 1 6 = true := rng_of (by omega) (by omega)
 unfold spec_l09Cond.f
 rw [e1]
 simp only [Option.bind_some, e2, e3, e4]
 rw [w64 (x := 1 + y) (by omega) (by omega)]
 cases z
 ·refine ⟨⟨x, ⟨4294967295, 4294967295⟩, 1 + y, ⟨p, q⟩⟩, i4, h4', rfl, ?_, d0, d1⟩
  unfold condB
  rw [hx, hw, hy]
  rfl
 ·refine ⟨⟨x, ⟨u, v⟩, 1 + y, ⟨p, q⟩⟩, i5, h5', ?_, ?_, g0, g1⟩
  ·rw [if_pos rfl, e5]; rfl
  ·unfold condB
   rw [hx, hw, hw2, hy]
   rfl
def numsG (ns : List Int) (at_ : Int) : Prop := (∀ j, j < ns.length → numAt ns j = true) ∧ (∀ x ∈ ns, 0 ≤ x ∧ x < at_)
theorem numsG_snoc {ns : List Int} {at_ : Int} (h : numsG ns at_) (y : Int) (hy : 0 ≤ y) (h0 : 0 ≤ at_) (hm : at_ + y ≤ 4294967295) : numsG (ns ++ [at_ + y]) (at_ + 1 + y) := by
 refine ⟨fun j hj => ?_, fun x hx => ?_⟩
 ·rw [List.length_append, List.length_singleton] at hj
  by_cases hl : j < ns.length
  ·have := h.1 j hl
   unfold numAt at this ⊢
   rw [show (ns ++ [at_ + y]).getD j 0 = ns.getD j 0 by simp [List.getD_eq_getElem?_getD, List.getElem?_append_left hl], show (ns ++ [at_ + y]).getD (j - 1) 0 = ns.getD (j - 1) 0 by simp [List.getD_eq_getElem?_getD, List.getElem?_append_left (show j - 1 < ns.length by omega)]]
   exact this
  ·obtain rfl : j = ns.length := by omega
   unfold numAt
   rw [show (ns ++ [at_ + y]).getD ns.length 0 = at_ + y by simp, halfB_of (by omega) hm, Bool.true_and]
   by_cases hz : ns.length = 0
   ·simp [hz]
   ·have hlt : ns.length - 1 < ns.length := by omega
    have := (h.2 _ (List.getElem_mem hlt)).2
    rw [show (ns ++ [at_ + y]).getD (ns.length - 1) 0 = ns[ns.length - 1] by simp [List.getD_eq_getElem?_getD, List.getElem?_append_left hlt, hlt]]
    simp
    right
    omega
 ·rcases List.mem_append.1 hx with hx | hx
  ·have := h.2 x hx; omega
  ·rw [List.mem_singleton.1 hx]; omega
theorem allRange {P : Nat → Bool} {n : Nat} (h : ∀ j, j < n → P j = true) : (List.range n).all P = true := List.all_eq_true.2 (fun j hj => h j (List.mem_range.1 hj))
theorem condAt_all {l : List S100} (h : ∀ c ∈ l, condB c = true) : (List.range l.length).all (condAt l) = true := allRange (fun j hj => by unfold condAt; rw [rdCo l j hj]; exact h _ (List.getElem_mem hj))
theorem drawMade (b : List Int) (hb : b.length ≤ 16777216) (i h : Int) (h0 : 0 ≤ i) (h1 : i ≤ b.length) : ∃ (r : S53) (i' h' : Int), Ev (fun k => spec_l09Made.f k b i h) (r.f0, r.f1, r.f2, r.f3, i', h') ∧ ruleB r = true ∧ 0 ≤ i' ∧ i' ≤ b.length := by
 have conds : ∀ d (m : Nat) (i h : Int) (ns : List Int) (cs : List S100) (x y : Int), m + d = 2 → cs.length = m → (∀ c ∈ cs, condB c = true) → 0 ≤ i → i ≤ b.length → ∃ (cs' : List S100) (i' h' : Int), Ev (fun k => spec_l09Made.l1 k (m : Int) b i h ns cs x y) (ns, cs', x, y, i', h') ∧ cs'.length ≤ 2 ∧ (∀ c ∈ cs', condB c = true) ∧ 0 ≤ i' ∧ i' ≤ b.length := by
  intro d
  induction d with
  | zero =>
   intro m i h ns cs x y hm hl hc h0 h1
   obtain ⟨t, i1, h1', e1, t0, t1, a0, a1⟩ := drawBelow b i h 3 h0 h1 hb (by omega)
   refine ⟨cs, i1, h1', evSucc ?_, by omega, hc, a0, a1⟩
   simp only [spec_l09Made.l1]
   exact evBindS e1 (evNeg (by omega) (Ev.now _))
  | succ d ih =>
   intro m i h ns cs x y hm hl hc h0 h1
   obtain ⟨t, i1, h1', e1, t0, t1, a0, a1⟩ := drawBelow b i h 3 h0 h1 hb (by omega)
   by_cases ht : (m : Int) < t
   ·obtain ⟨c, i2, h2', e2, hcB, b0, b1⟩ := drawCond b i1 h1' a0 a1 hb
    obtain ⟨cs', i', h', e, r1, r2, r3, r4⟩ := ih (m + 1) i2 h2' ns (cs ++ [c]) x y (by omega) (by rw [List.length_append, List.length_singleton]; omega) (by
     intro z hz
     rcases List.mem_append.1 hz with hz | hz
     ·exact hc z hz
     ·rw [List.mem_singleton.1 hz]; exact hcB) b0 b1
    refine ⟨cs', i', h', evSucc ?_, r1, r2, r3, r4⟩
    simp only [spec_l09Made.l1]
    refine evBindS e1 (evPos ht (evBindS e2 (evPos (by omega) ?_)))
    rw [w64 (by omega) (by omega), ci]
    exact e
   ·refine ⟨cs, i1, h1', evSucc ?_, by omega, hc, a0, a1⟩
    simp only [spec_l09Made.l1]
    exact evBindS e1 (evNeg ht (Ev.now _))
 have nums : ∀ d (m : Nat) (n at_ : Int) (i h : Int) (ns : List Int) (x y : Int), m + d = 3 → n ≤ 2 → ns.length = m → (m : Int) ≤ 2 ∨ d = 0 → 0 ≤ at_ → at_ ≤ 3 * (m : Int) → numsG ns at_ → 0 ≤ i → i ≤ b.length → ∃ (ns' : List Int) (cs' : List S100) (i' h' : Int), Ev (fun k => spec_l09Made.l0 k n at_ (m : Int) b i h ns x y) (ns', cs', x, y, i', h') ∧ ns'.length ≤ 3 ∧ (∀ j, j < ns'.length → numAt ns' j = true) ∧ cs'.length ≤ 2 ∧ (∀ c ∈ cs', condB c = true) ∧ 0 ≤ i' ∧ i' ≤ b.length := by
  intro d
  induction d with
  | zero =>
   intro m n at_ i h ns x y hm hn hl _ ha0 ha1 hg h0 h1
   obtain ⟨cs', i', h', e, r1, r2, r3, r4⟩ := conds 2 0 i h ns [] x y rfl rfl (by simp) h0 h1
   refine ⟨ns, cs', i', h', evSucc ?_, by omega, hg.1, r1, r2, r3, r4⟩
   simp only [spec_l09Made.l0]
   exact evNeg (by omega) e
  | succ d ih =>
   intro m n at_ i h ns x y hm hn hl _ ha0 ha1 hg h0 h1
   by_cases ht : (m : Int) < n
   ·obtain ⟨t, i1, h1', e1, t0, t1, a0, a1⟩ := drawBelow b i h 3 h0 h1 hb (by omega)
    obtain ⟨ns', cs', i', h', e, r⟩ := ih (m + 1) n (at_ + 1 + t) i1 h1' (ns ++ [at_ + t]) x y (by omega) hn (by rw [List.length_append, List.length_singleton]; omega) (by omega) (by omega) (by omega) (numsG_snoc hg t t0 ha0 (by omega)) a0 a1
    refine ⟨ns', cs', i', h', evSucc ?_, r⟩
    simp only [spec_l09Made.l0]
    refine evPos ht (evBindS e1 (evPos (by omega) ?_))
    rw [w64 (x := at_ + 1) (by omega) (by omega), w64 (x := at_ + 1 + t) (by omega) (by omega), w64 (x := at_ + 1 + t - 1) (by omega) (by omega), w64 (x := (m : Int) + 1) (by omega) (by omega), ci, show at_ + 1 + t - 1 = at_ + t by omega]
    exact e
   ·obtain ⟨cs', i', h', e, r1, r2, r3, r4⟩ := conds 2 0 i h ns [] x y rfl rfl (by simp) h0 h1
    refine ⟨ns, cs', i', h', evSucc ?_, by omega, hg.1, r1, r2, r3, r4⟩
    simp only [spec_l09Made.l0]
    exact evNeg ht e
 have join : ∀ (i h x y : Int), 0 ≤ i → i ≤ b.length → actB x y = true → ∃ (r : S53) (i' h' : Int), Ev (fun k => spec_l09Made.j0 k b i h x y) (r.f0, r.f1, r.f2, r.f3, i', h') ∧ ruleB r = true ∧ 0 ≤ i' ∧ i' ≤ b.length := by
  intro i h x y h0 h1 hact
  obtain ⟨t, i1, h1', e1, t0, t1, a0, a1⟩ := drawBelow b i h 4 h0 h1 hb (by omega)
  obtain ⟨ns, cs, i', h', e, r1, r2, r3, r4, r5, r6⟩ := nums 3 0 (t - 1) 0 i1 h1' [] x y rfl (by omega) rfl (by omega) (by omega) (by omega) ⟨by simp, by simp⟩ a0 a1
  refine ⟨⟨ns, cs, x, y⟩, i', h', evSucc ?_, ?_, r5, r6⟩
  ·simp only [spec_l09Made.j0]
   refine evBindS e1 ?_
   rw [w64 (by omega) (by omega)]
   exact e
  ·unfold ruleB ruleEnd
   rw [allRange r2, condAt_all r4, hact]
   simp
   omega
 obtain ⟨x, i1, h1', e1, hx, a0, a1⟩ := drawPickInt b i h [0, 1, 2, 3, 4, 4, 5] (by decide) h0 h1 hb
 have hx' : rng x 0 5 = true := by
  have : ∀ y ∈ ([0, 1, 2, 3, 4, 4, 5] : List Int), rng y 0 5 = true := by decide
  exact this x hx
 simp only [spec_l09Made.f]
 by_cases hc : x = 2
 ·obtain ⟨y, i2, h2', e2, hy, b0, b1⟩ := drawPickInt b i1 h1' [1, 13, 65535] (by decide) a0 a1 hb
  have hy' : rng y 0 65535 = true := by
   have : ∀ z ∈ ([1, 13, 65535] : List Int), rng z 0 65535 = true := by decide
   exact this y hy
  obtain ⟨r, i', h', e, r1, r2, r3⟩ := join i2 h2' x y b0 b1 (by unfold actB; rw [hx', hy']; rfl)
  exact ⟨r, i', h', evBindS e1 (evPos hc (evBindS e2 e)), r1, r2, r3⟩
 ·obtain ⟨r, i', h', e, r1, r2, r3⟩ := join i1 h1' x 0 a0 a1 (by unfold actB; rw [hx']; rfl)
  exact ⟨r, i', h', evBindS e1 (evNeg hc e), r1, r2, r3⟩
theorem drawPolicy (b : List Int) (hb : b.length ≤ 16777216) (i h : Int) (h0 : 0 ≤ i) (h1 : i ≤ b.length) : ∃ (p q d : Int) (l : List S53) (i' h' : Int), Ev (fun k => spec_l09Policy.f k b i h) (p, q, d, l, i', h') ∧ polB p q d l = true ∧ l.length ≤ 4 ∧ 0 ≤ i' ∧ i' ≤ b.length := by
 have loop : ∀ e (m : Nat) (i h : Int) (l : List S53) (p q d : Int), m + e = 4 → l.length = m → (∀ r ∈ l, ruleB r = true) → 0 ≤ i → i ≤ b.length → ∃ (l' : List S53) (i' h' : Int), Ev (fun k => spec_l09Policy.l0 k (m : Int) b i h p q d l) (p, q, d, l', i', h') ∧ l'.length ≤ 4 ∧ (∀ r ∈ l', ruleB r = true) ∧ 0 ≤ i' ∧ i' ≤ b.length := by
  intro e
  induction e with
  | zero =>
   intro m i h l p q d hm hl hr h0 h1
   obtain ⟨t, i1, h1', e1, t0, t1, a0, a1⟩ := drawBelow b i h 5 h0 h1 hb (by omega)
   refine ⟨l, i1, h1', evSucc ?_, by omega, hr, a0, a1⟩
   simp only [spec_l09Policy.l0]
   exact evBindS e1 (evNeg (by omega) (Ev.now _))
  | succ e ih =>
   intro m i h l p q d hm hl hr h0 h1
   obtain ⟨t, i1, h1', e1, t0, t1, a0, a1⟩ := drawBelow b i h 5 h0 h1 hb (by omega)
   by_cases ht : (m : Int) < t
   ·obtain ⟨r, i2, h2', e2, hrB, b0, b1⟩ := drawMade b hb i1 h1' a0 a1
    obtain ⟨l', i', h', e', r1, r2, r3, r4⟩ := ih (m + 1) i2 h2' (l ++ [r]) p q d (by omega) (by rw [List.length_append, List.length_singleton]; omega) (by
     intro z hz
     rcases List.mem_append.1 hz with hz | hz
     ·exact hr z hz
     ·rw [List.mem_singleton.1 hz]; exact hrB) b0 b1
    refine ⟨l', i', h', evSucc ?_, r1, r2, r3, r4⟩
    simp only [spec_l09Policy.l0]
    refine evBindS e1 (evPos ht (Ev.bind e2 (evPos (by omega) ?_)))
    rw [w64 (by omega) (by omega), ci]
    exact e'
   ·refine ⟨l, i1, h1', evSucc ?_, by omega, hr, a0, a1⟩
    simp only [spec_l09Policy.l0]
    exact evBindS e1 (evNeg ht (Ev.now _))
 have join : ∀ (i h q d : Int), 0 ≤ i → i ≤ b.length → actB q d = true → ∃ (l : List S53) (i' h' : Int), Ev (fun k => spec_l09Policy.j0 k b i h 62 q d) (62, q, d, l, i', h') ∧ polB 62 q d l = true ∧ l.length ≤ 4 ∧ 0 ≤ i' ∧ i' ≤ b.length := by
  intro i h q d h0 h1 hact
  obtain ⟨l, i', h', e, r1, r2, r3, r4⟩ := loop 4 0 i h [] 62 q d rfl rfl (by simp) h0 h1
  refine ⟨l, i', h', evSucc ?_, ?_, r1, r3, r4⟩
  ·simp only [spec_l09Policy.j0]
   exact e
  ·unfold polB
   rw [allRange (fun j hj => by unfold ruleAt; rw [rdRu l j hj]; exact r2 _ (List.getElem_mem hj)), hact, show halfB 62 = true by decide]
   simp
   omega
 obtain ⟨q, i1, h1', e1, hq, a0, a1⟩ := drawPickInt b i h [5, 4, 0, 2] (by decide) h0 h1 hb
 have hq' : rng q 0 5 = true := by
  have : ∀ y ∈ ([5, 4, 0, 2] : List Int), rng y 0 5 = true := by decide
  exact this q hq
 simp only [spec_l09Policy.f]
 by_cases hc : q = 2
 ·obtain ⟨l, i', h', e, r⟩ := join i1 h1' q 1 a0 a1 (by unfold actB; rw [hq']; rfl)
  exact ⟨62, q, 1, l, i', h', evBindS e1 (evPos hc e), r⟩
 ·obtain ⟨l, i', h', e, r⟩ := join i1 h1' q 0 a0 a1 (by unfold actB; rw [hq']; rfl)
  exact ⟨62, q, 0, l, i', h', evBindS e1 (evNeg hc e), r⟩
theorem ev_l09Copy (a b d : Int) (l : List S53) (hl : polSmall l) : Ev (fun k => spec_l09Copy.f k a b d l) (a, b, d, l) := by
 have hz := hl.1
 simp only [spec_l09Copy.f]
 have key := evUp (r := (a, b, d, l)) l.length (fun i k => spec_l09Copy.l0 k (i : Int) a b d l a b d (l.take i)) ?_ ?_
 ·exact key
 ·intro i hi ih
  have hm := hl.2 _ (List.getElem_mem hi)
  refine evSucc ?_
  simp only [spec_l09Copy.l0]
  rw [rdRu l i hi, w64 (by omega) (by omega), ci]
  rw [takeSnoc l i hi] at ih
  refine evPos (by omega) (evPos (by omega) (evBindS rfl (evPos (by rw [List.length_nil]; omega) (evBindS rfl (evPos (by rw [List.length_nil]; omega) (evPos (by rw [List.length_take]; omega) ?_))))))
  rw [List.nil_append, List.nil_append]
  exact ih
 ·refine evSucc ?_
  simp only [spec_l09Copy.l0]
  rw [List.take_length]
  exact evNeg (by omega) (Ev.now _)
def tinyL (l : List S53) : Prop := ∀ r ∈ l, r.f0.length ≤ 4 ∧ r.f1.length ≤ 3
theorem drawTwicePolicy (b : List Int) (hb : b.length ≤ 16777216) (i h : Int) (h0 : 0 ≤ i) (h1 : i ≤ b.length) : ∃ (p q d : Int) (l : List S53) (i' h' : Int), Ev (fun k => spec_l24Policy.f k b i h) (p, q, d, l, i', h') ∧ l.length ≤ 10 ∧ tinyL l ∧ 0 ≤ i' ∧ i' ≤ b.length := by
 have loop : ∀ e (m : Nat) (i h : Int) (l : List S53) (p q d : Int), m + e = 3 → l.length ≤ 4 + m → tinyL l → 0 ≤ i → i ≤ b.length → ∃ (l' : List S53) (i' h' : Int), Ev (fun k => spec_l24Policy.l0 k (m : Int) b i h p q d l) (p, q, d, l', i', h') ∧ l'.length ≤ 10 ∧ tinyL l' ∧ 0 ≤ i' ∧ i' ≤ b.length := by
  intro e
  induction e with
  | zero =>
   intro m i h l p q d hm hl hr h0 h1
   obtain ⟨t, i1, h1', e1, t0, t1, a0, a1⟩ := drawBelow b i h 4 h0 h1 hb (by omega)
   refine ⟨l, i1, h1', evSucc ?_, by omega, hr, a0, a1⟩
   simp only [spec_l24Policy.l0]
   refine evBindS e1 (evNeg (by omega) (evSucc ?_))
   simp only [spec_l24Policy.j1]
   exact evNeg (by simp) (Ev.now _)
  | succ e ih =>
   intro m i h l p q d hm hl hr h0 h1
   obtain ⟨t, i1, h1', e1, t0, t1, a0, a1⟩ := drawBelow b i h 4 h0 h1 hb (by omega)
   have stop : Ev (fun k => spec_l24Policy.j1 k (m : Int) false b i1 h1' p q d l) (p, q, d, l, i1, h1') := by
    refine evSucc ?_
    simp only [spec_l24Policy.j1]
    exact evNeg (by simp) (Ev.now _)
   by_cases ht : (m : Int) < t
   ·by_cases hpos : (l.length : Int) > 0
    ·by_cases hten : (l.length : Int) < 10
     ·have hsm : polSmall l := ⟨by omega, fun r hr' => by have := hr r hr'; omega⟩
      obtain ⟨n, i2, h2', e2, n0, n1, b0, b1⟩ := drawBelow b i1 h1' (l.length : Int) a0 a1 hb (by omega)
      obtain ⟨s, i3, h3', e3, s0, s1, c0, c1⟩ := drawBelow b i2 h2' 4 b0 b1 hb (by omega)
      obtain ⟨j, rfl⟩ : ∃ j : Nat, n = (j : Int) := ⟨n.toNat, by omega⟩
      have hj : j < l.length := by omega
      have hx := hr _ (List.getElem_mem hj)
      have go : ∀ x : S53, x.f0.length ≤ 4 ∧ x.f1.length ≤ 3 → ∃ (l' : List S53) (i' h' : Int), Ev (fun k => spec_l24Policy.l0 k (wrap64 ((m : Int) + 1)) b i3 h3' p q d (l ++ [x])) (p, q, d, l', i', h') ∧ l'.length ≤ 10 ∧ tinyL l' ∧ 0 ≤ i' ∧ i' ≤ b.length := by
       intro x hx
       rw [w64 (x := (m : Int) + 1) (by omega) (by omega), ci]
       exact ih (m + 1) i3 h3' (l ++ [x]) p q d (by omega) (by rw [List.length_append, List.length_singleton]; omega) (by
        intro z hz
        rcases List.mem_append.1 hz with hz | hz
        ·exact hr z hz
        ·rw [List.mem_singleton.1 hz]; exact hx) c0 c1
      have fin : ∃ (l' : List S53) (i' h' : Int), Ev (fun k => spec_l24Policy.j1 k (m : Int) true b i1 h1' p q d l) (p, q, d, l', i', h') ∧ l'.length ≤ 10 ∧ tinyL l' ∧ 0 ≤ i' ∧ i' ≤ b.length := by
       by_cases k0 : s = 0
       ·obtain ⟨hl', ih', ih2', e', r⟩ := go ⟨l[j].f0, [] ++ l[j].f1.take (l[j].f1.length / 2), l[j].f2, l[j].f3⟩ ⟨hx.1, by rw [List.nil_append, List.length_take]; omega⟩
        refine ⟨hl', ih', ih2', evSucc ?_, r⟩
        simp only [spec_l24Policy.j1]
        refine evPos trivial (Ev.bind (ev_l09Copy p q d l hsm) (evBindS e2 (evPos (by omega) (evPos (by omega) (evBindS e3 (evPos k0 (evBindS rfl ?_)))))))
        rw [rdRu l j hj, w64 (x := (l[j].f1.length : Int) / 2) (by omega) (by omega)]
        refine evPos (by omega) (evPos (by omega) (evBindS rfl (evPos (by rw [List.length_nil, List.length_take]; omega) (evPos (by omega) ?_))))
        rw [show ((l[j].f1.length : Int) / 2).toNat = l[j].f1.length / 2 by omega]
        exact e'
       ·by_cases k1 : s = 1
        ·obtain ⟨hl', ih', ih2', e', r⟩ := go ⟨[], l[j].f1, l[j].f2, l[j].f3⟩ ⟨by simp, hx.2⟩
         refine ⟨hl', ih', ih2', evSucc ?_, r⟩
         simp only [spec_l24Policy.j1]
         refine evPos trivial (Ev.bind (ev_l09Copy p q d l hsm) (evBindS e2 (evPos (by omega) (evPos (by omega) (evBindS e3 (evNeg k0 (evPos k1 (evPos (by omega) ?_))))))))
         rw [rdRu l j hj]
         exact e'
        ·by_cases k2 : s = 2
         ·obtain ⟨hl', ih', ih2', e', r⟩ := go ⟨l[j].f0, l[j].f1, q, d⟩ hx
          refine ⟨hl', ih', ih2', evSucc ?_, r⟩
          simp only [spec_l24Policy.j1]
          refine evPos trivial (Ev.bind (ev_l09Copy p q d l hsm) (evBindS e2 (evPos (by omega) (evPos (by omega) (evBindS e3 (evNeg k0 (evNeg k1 (evPos k2 (evPos (by omega) ?_)))))))))
          rw [rdRu l j hj]
          exact e'
         ·obtain ⟨hl', ih', ih2', e', r⟩ := go ⟨l[j].f0, l[j].f1, l[j].f2, l[j].f3⟩ hx
          refine ⟨hl', ih', ih2', evSucc ?_, r⟩
          simp only [spec_l24Policy.j1]
          refine evPos trivial (Ev.bind (ev_l09Copy p q d l hsm) (evBindS e2 (evPos (by omega) (evPos (by omega) (evBindS e3 (evNeg k0 (evNeg k1 (evNeg k2 (evPos (by omega) ?_)))))))))
          rw [rdRu l j hj]
          exact e'
      obtain ⟨l', i', h', e', r⟩ := fin
      refine ⟨l', i', h', evSucc ?_, r⟩
      simp only [spec_l24Policy.l0]
      refine evBindS e1 (evPos ht (evPos hpos ?_))
      rw [decide_eq_true hten]
      exact e'
     ·refine ⟨l, i1, h1', evSucc ?_, by omega, hr, a0, a1⟩
      simp only [spec_l24Policy.l0]
      refine evBindS e1 (evPos ht (evPos hpos ?_))
      rw [decide_eq_false hten]
      exact stop
    ·refine ⟨l, i1, h1', evSucc ?_, by omega, hr, a0, a1⟩
     simp only [spec_l24Policy.l0]
     exact evBindS e1 (evPos ht (evNeg hpos stop))
   ·refine ⟨l, i1, h1', evSucc ?_, by omega, hr, a0, a1⟩
    simp only [spec_l24Policy.l0]
    exact evBindS e1 (evNeg ht stop)
 obtain ⟨p, q, d, l, i1, h1', e1, hp, hl, a0, a1⟩ := drawPolicy b hb i h h0 h1
 have hbd := polB_bounds hp
 have hsm : polSmall l := ⟨by omega, fun r hr => by have := hbd.2 r hr; omega⟩
 obtain ⟨l', i', h', e, r⟩ := loop 3 0 i1 h1' l p q d rfl (by omega) hbd.2 a0 a1
 refine ⟨p, q, d, l', i', h', ?_, r⟩
 simp only [spec_l24Policy.f]
 exact Ev.bind e1 (Ev.bind (ev_l09Copy p q d l hsm) e)
theorem tiny_snoc {l : List S53} (h : tinyL l) (r : S53) (h0 : r.f0.length ≤ 4) (h1 : r.f1.length ≤ 3) : tinyL (l ++ [r]) := by
 intro x hx
 rcases List.mem_append.1 hx with hx | hx
 ·exact h x hx
 ·rw [List.mem_singleton.1 hx]; exact ⟨h0, h1⟩
theorem tmodR (x m : Int) (h : 0 ≤ x) (hm : 0 < m) : 0 ≤ Int.tmod x m ∧ Int.tmod x m < m := by
 rw [Int.tmod_eq_emod_of_nonneg h]
 exact ⟨Int.emod_nonneg _ (by omega), Int.emod_lt_of_pos _ hm⟩
theorem polB_tiny {a b d : Int} {l : List S53} (h : polB a b d l = true) : tinyL l := by
 intro r hr
 have := (polB_bounds h).2 r hr
 exact ⟨by omega, by omega⟩
theorem drawAnyPolicy (b : List Int) (hb : b.length ≤ 16777216) (i h : Int) (h0 : 0 ≤ i) (h1 : i ≤ b.length) : ∃ (p q d : Int) (l : List S53) (i' h' : Int), Ev (fun k => spec_l09Any.f k b i h) (p, q, d, l, i', h') ∧ l.length ≤ 20 ∧ tinyL l ∧ 0 ≤ i' ∧ i' ≤ b.length := by
 obtain ⟨x, i1, h1', e1, x0, x1, a0, a1⟩ := drawBelow b i h 12 h0 h1 hb (by omega)
 obtain ⟨y, i2, h2', e2, y0, y1, b0, b1⟩ := drawBelow b i1 h1' 60 a0 a1 hb (by omega)
 obtain ⟨p, q, d, l, i3, h3', e3, hp, hl, c0, c1⟩ := drawPolicy b hb i2 h2' b0 b1
 have ht := polB_tiny hp
 have hs : polSmall l := ⟨by omega, fun r hr => by have := ht r hr; omega⟩
 have m3 := tmodR y 3 y0 (by omega)
 have m2 := tmodR y 2 y0 (by omega)
 simp only [spec_l09Any.f]
 by_cases c0' : x = 0
 ·refine ⟨_, q, d, l, i3, h3', evBindS e1 (evBindS e2 (Ev.bind e3 (Ev.bind (ev_l09Copy p q d l hs) (evPos c0' (evBindS rfl (evPos m3.1 (evPos (by simpa using m3.2) (Ev.now _)))))))), by omega, ht, c0, c1⟩
 by_cases c1' : x = 1
 ·exact ⟨p, _, d, l, i3, h3', evBindS e1 (evBindS e2 (Ev.bind e3 (Ev.bind (ev_l09Copy p q d l hs) (evNeg c0' (evPos c1' (Ev.now _)))))), by omega, ht, c0, c1⟩
 by_cases c2' : x = 2
 ·exact ⟨p, q, d, _, i3, h3', evBindS e1 (evBindS e2 (Ev.bind e3 (Ev.bind (ev_l09Copy p q d l hs) (evNeg c0' (evNeg c1' (evPos c2' (evPos (by show l.length < _; omega) (Ev.now _)))))))), by simp only [List.length_append, List.length_singleton]; omega, tiny_snoc ht _ (by decide) (by decide), c0, c1⟩
 by_cases c3' : x = 3
 ·exact ⟨p, q, d, _, i3, h3', evBindS e1 (evBindS e2 (Ev.bind e3 (Ev.bind (ev_l09Copy p q d l hs) (evNeg c0' (evNeg c1' (evNeg c2' (evPos c3' (evPos (by show l.length < _; omega) (Ev.now _))))))))), by simp only [List.length_append, List.length_singleton]; omega, tiny_snoc ht _ (Nat.zero_le _) (by simp), c0, c1⟩
 by_cases c4' : x = 4
 ·have hw : wrap64 (10 + Int.tmod y 2) = 10 + Int.tmod y 2 := w64 (by omega) (by omega)
  refine ⟨p, q, d, List.replicate (wrap64 (10 + (Int.tmod y 2)) : Int).toNat z53, i3, h3', evBindS e1 (evBindS e2 (Ev.bind e3 (Ev.bind (ev_l09Copy p q d l hs) (evNeg c0' (evNeg c1' (evNeg c2' (evNeg c3' (evPos c4' (evPos (by show 0 ≤ wrap64 (10 + Int.tmod y 2); omega) (evPos (by show (wrap64 (10 + Int.tmod y 2)).toNat ≤ 4398046511104; omega) (Ev.now _))))))))))), by rw [List.length_replicate]; omega, fun r hr => ?_, c0, c1⟩
  rw [List.eq_of_mem_replicate hr]
  exact ⟨by decide, by decide⟩
 by_cases c5' : x = 5
 ·exact ⟨p, q, _, l, i3, h3', evBindS e1 (evBindS e2 (Ev.bind e3 (Ev.bind (ev_l09Copy p q d l hs) (evNeg c0' (evNeg c1' (evNeg c2' (evNeg c3' (evNeg c4' (evPos c5' (Ev.now _)))))))))), by omega, ht, c0, c1⟩
 ·exact ⟨p, q, d, l, i3, h3', evBindS e1 (evBindS e2 (Ev.bind e3 (Ev.bind (ev_l09Copy p q d l hs) (evNeg c0' (evNeg c1' (evNeg c2' (evNeg c3' (evNeg c4' (evNeg c5' (Ev.now _)))))))))), by omega, ht, c0, c1⟩
theorem draw24 (b : List Int) (hb : b.length ≤ 16777216) (i h : Int) (h0 : 0 ≤ i) (h1 : i ≤ b.length) : ∃ (p q d : Int) (l : List S53) (i' h' : Int), Ev (fun k => spec_l24Any.f k b i h) (p, q, d, l, i', h') ∧ polSmall l := by
 obtain ⟨t, i1, h1', e1, a0, a1⟩ := drawOnce b i h 4 h0 h1 hb (by omega)
 simp only [spec_l24Any.f]
 cases t
 ·obtain ⟨p, q, d, l, i2, h2', e2, hl, ht, _, _⟩ := drawTwicePolicy b hb i1 h1' a0 a1
  exact ⟨p, q, d, l, i2, h2', evBindS e1 (evNeg (by simp) (Ev.bind e2 (Ev.now _))), ⟨by omega, fun r hr => by have := ht r hr; omega⟩⟩
 ·obtain ⟨p, q, d, l, i2, h2', e2, hl, ht, _, _⟩ := drawAnyPolicy b hb i1 h1' a0 a1
  exact ⟨p, q, d, l, i2, h2', evBindS e1 (evPos rfl (Ev.bind e2 (Ev.now _))), ⟨by omega, fun r hr => by have := ht r hr; omega⟩⟩
theorem drawShadowed (b : List Int) (hb : b.length ≤ 16777216) : ∃ (p q d : Int) (l : List S53), Ev (fun k => spec_DrawShadowed.f k b) (p, q, d, l) ∧ polSmall l := by
 obtain ⟨h, e0⟩ := drawNew b hb
 obtain ⟨p, q, d, l, i1, h1, e1, hs⟩ := draw24 b hb 0 h (by omega) (by omega)
 simp only [spec_DrawShadowed.f]
 exact ⟨p, q, d, l, Ev.bind e0 (Ev.bind e1 (Ev.now _)), hs⟩
theorem drawOnlyFor (b : List Int) (hb : b.length ≤ 16777216) : ∃ (p q d : Int) (l : List S53) (n : Int), Ev (fun k => spec_DrawOnlyFor.f k b) (p, q, d, l, n) ∧ polSmall l := by
 obtain ⟨h, e0⟩ := drawNew b hb
 obtain ⟨x, i1, h1', e1, x0, x1, a0, a1⟩ := drawBelow b 0 h 12 (by omega) (by omega) hb (by omega)
 obtain ⟨p, q, d, l, i2, h2, e2, hs⟩ := draw24 b hb i1 h1' a0 a1
 simp only [spec_DrawOnlyFor.f]
 exact ⟨p, q, d, l, x, Ev.bind e0 (evBindS e1 (Ev.bind e2 (Ev.now _))), hs⟩
def StrictS (l : List Int) : Prop := l.Pairwise (· < ·)
theorem strict_eq : ∀ (a b : List Int), StrictS a → StrictS b → (∀ x, x ∈ a ↔ x ∈ b) → a = b := by
 intro a
 induction a with
 | nil =>
  intro b _ _ h
  cases b with
  | nil => rfl
  | cons y b => exact absurd ((h y).2 (List.mem_cons_self ..)) (List.not_mem_nil)
 | cons x a ih =>
  intro b ha hb h
  cases b with
  | nil => exact absurd ((h x).1 (List.mem_cons_self ..)) (List.not_mem_nil)
  | cons y b =>
   have ha' := List.pairwise_cons.1 ha
   have hb' := List.pairwise_cons.1 hb
   have hxy : x = y := by
    rcases List.mem_cons.1 ((h x).1 (List.mem_cons_self ..)) with e | e
    ·exact e
    ·rcases List.mem_cons.1 ((h y).2 (List.mem_cons_self ..)) with e2 | e2
     ·exact e2.symm
     ·have h1 := hb'.1 x e
      have h2 := ha'.1 y e2
      omega
   subst hxy
   rw [ih b ha'.2 hb'.2 (fun z => ?_)]
   constructor
   ·intro hz
    rcases List.mem_cons.1 ((h z).1 (List.mem_cons_of_mem _ hz)) with e | e
    ·have := ha'.1 z hz; omega
    ·exact e
   ·intro hz
    rcases List.mem_cons.1 ((h z).2 (List.mem_cons_of_mem _ hz)) with e | e
    ·have := hb'.1 z hz; omega
    ·exact e
def insS (x : Int) : List Int → List Int
 | [] => [x]
 | y :: l => if x < y then x :: y :: l else y :: insS x l
theorem insS_mem (x : Int) : ∀ l z, z ∈ insS x l ↔ z = x ∨ z ∈ l := by
 intro l
 induction l with
 | nil => intro z; simp [insS]
 | cons y l ih =>
  intro z
  unfold insS
  split
  ·rw [List.mem_cons]
  ·rw [List.mem_cons, ih z, List.mem_cons]
   constructor
   ·rintro (e | e | e)
    ·exact Or.inr (Or.inl e)
    ·exact Or.inl e
    ·exact Or.inr (Or.inr e)
   ·rintro (e | e | e)
    ·exact Or.inr (Or.inl e)
    ·exact Or.inl e
    ·exact Or.inr (Or.inr e)
theorem insS_strict (x : Int) : ∀ l, StrictS l → x ∉ l → StrictS (insS x l) := by
 intro l
 induction l with
 | nil => intro _ _; exact List.pairwise_singleton _ _
 | cons y l ih =>
  intro h hx
  have h' := List.pairwise_cons.1 h
  unfold insS
  split
  ·rename_i hlt
   refine List.pairwise_cons.2 ⟨fun z hz => ?_, h⟩
   rcases List.mem_cons.1 hz with e | e
   ·omega
   ·have := h'.1 z e; omega
  ·rename_i hlt
   refine List.pairwise_cons.2 ⟨fun z hz => ?_, ih h'.2 (fun e => hx (List.mem_cons_of_mem _ e))⟩
   rcases (insS_mem x l z).1 hz with e | e
   ·have : x ≠ y := fun e2 => hx (by rw [e2]; exact List.mem_cons_self ..)
    omega
   ·exact h'.1 z e
theorem insS_len (x : Int) : ∀ l, (insS x l).length = l.length + 1 := by
 intro l
 induction l with
 | nil => rfl
 | cons y l ih =>
  unfold insS
  split
  ·rfl
  ·rw [List.length_cons, ih, List.length_cons]
def putAll : List Int → List Int → List Int
 | [], acc => acc
 | x :: l, acc => putAll l (if x ∈ acc then acc else insS x acc)
theorem putAll_law : ∀ l acc, StrictS acc → StrictS (putAll l acc) ∧ ∀ z, z ∈ putAll l acc ↔ z ∈ acc ∨ z ∈ l := by
 intro l
 induction l with
 | nil => intro acc h; exact ⟨h, fun z => by simp [putAll]⟩
 | cons x l ih =>
  intro acc h
  unfold putAll
  by_cases hx : x ∈ acc
  ·rw [if_pos hx]
   obtain ⟨h1, h2⟩ := ih acc h
   refine ⟨h1, fun z => ?_⟩
   rw [h2 z, List.mem_cons]
   constructor
   ·rintro (e | e)
    ·exact Or.inl e
    ·exact Or.inr (Or.inr e)
   ·rintro (e | e | e)
    ·exact Or.inl e
    ·rw [e]; exact Or.inl hx
    ·exact Or.inr e
  ·rw [if_neg hx]
   obtain ⟨h1, h2⟩ := ih (insS x acc) (insS_strict x acc h hx)
   refine ⟨h1, fun z => ?_⟩
   rw [h2 z, insS_mem, List.mem_cons]
   constructor
   ·rintro ((e | e) | e)
    ·exact Or.inr (Or.inl e)
    ·exact Or.inl e
    ·exact Or.inr (Or.inr e)
   ·rintro (e | e | e)
    ·exact Or.inl (Or.inr e)
    ·exact Or.inl (Or.inl e)
    ·exact Or.inr e
theorem putAll_len : ∀ l acc, (putAll l acc).length ≤ acc.length + l.length := by
 intro l
 induction l with
 | nil => intro acc; exact Nat.le_refl _
 | cons x l ih =>
  intro acc
  unfold putAll
  split
  ·have := ih acc; rw [List.length_cons]; omega
  ·have := ih (insS x acc); rw [insS_len] at this; rw [List.length_cons]; omega
def srtS (l : List Int) : List Int := l.mergeSort fun x y => decide (x ≤ y)
theorem srtS_mem (l : List Int) (z : Int) : z ∈ srtS l ↔ z ∈ l := (List.mergeSort_perm l _).mem_iff
theorem srtS_sorted (l : List Int) : (srtS l).Pairwise (· ≤ ·) := by
 have := List.pairwise_mergeSort (le := fun x y : Int => decide (x ≤ y)) (fun a b c h1 h2 => by simp at *; omega) (fun a b => by simp; omega) l
 exact this.imp (fun h => by simpa using h)
theorem sorted_at (d : List Int) (h : d.Pairwise (· ≤ ·)) (i j : Nat) (hij : i ≤ j) (hj : j < d.length) : d.toArray[i]! ≤ d.toArray[j]! := by
 rcases Nat.lt_or_eq_of_le hij with hlt | rfl
 ·have := (List.pairwise_iff_getElem.1 h) i j (by omega) hj hlt
  simp [hj, show i < d.length by omega]
  exact this
 ·exact Int.le_refl _
theorem upTo_law (d : List Int) (h : d.Pairwise (· ≤ ·)) : ∀ m, m ≤ d.length → StrictS (Go.Lib.compactUpTo d.toArray m) ∧ (∀ z, z ∈ Go.Lib.compactUpTo d.toArray m ↔ ∃ j, j < m ∧ d.toArray[j]! = z) := by
 intro m
 induction m with
 | zero =>
  intro _
  refine ⟨List.Pairwise.nil, fun z => ?_⟩
  constructor
  ·intro hz; exact absurd hz (by simp [Go.Lib.compactUpTo])
  ·rintro ⟨j, hj, _⟩; omega
 | succ m ih =>
  intro hm
  obtain ⟨h1, h2⟩ := ih (by omega)
  rw [Go.Lib.compactUpTo_succ]
  by_cases hk : Go.Lib.keeps d.toArray m = true
  ·rw [if_pos hk]
   refine ⟨?_, fun z => ?_⟩
   ·refine List.pairwise_append.2 ⟨h1, List.pairwise_singleton _ _, fun x hx y hy => ?_⟩
    rw [List.mem_singleton] at hy
    subst hy
    obtain ⟨j, hj, rfl⟩ := (h2 x).1 hx
    have hne : d.toArray[m]! ≠ d.toArray[m - 1]! := by
     unfold Go.Lib.keeps at hk
     rw [decide_eq_true_eq] at hk
     rcases hk with e | e
     ·omega
     ·exact e
    have a1 := sorted_at d h j (m - 1) (by omega) (by omega)
    have a2 := sorted_at d h (m - 1) m (by omega) (by omega)
    omega
   ·rw [List.mem_append, h2 z, List.mem_singleton]
    constructor
    ·rintro (⟨j, hj, e⟩ | e)
     ·exact ⟨j, by omega, e⟩
     ·exact ⟨m, by omega, e.symm⟩
    ·rintro ⟨j, hj, e⟩
     by_cases hjm : j = m
     ·subst hjm; exact Or.inr e.symm
     ·exact Or.inl ⟨j, by omega, e⟩
  ·rw [if_neg hk, List.append_nil]
   refine ⟨h1, fun z => ?_⟩
   rw [h2 z]
   have hk' : ¬ (m = 0 ∨ d.toArray[m]! ≠ d.toArray[m - 1]!) := by
    intro c; apply hk; unfold Go.Lib.keeps; exact decide_eq_true c
   constructor
   ·rintro ⟨j, hj, e⟩; exact ⟨j, by omega, e⟩
   ·rintro ⟨j, hj, e⟩
    by_cases hjm : j = m
    ·subst hjm
     refine ⟨j - 1, by omega, ?_⟩
     rw [← e]
     apply Classical.byContradiction
     intro hn
     exact hk' (Or.inr (fun z => hn z.symm))
    ·exact ⟨j, by omega, e⟩
theorem compact_putAll (l : List Int) : Go.Lib.compact (srtS l) = putAll l [] := by
 obtain ⟨h1, h2⟩ := upTo_law (srtS l) (srtS_sorted l) (srtS l).length (Nat.le_refl _)
 obtain ⟨h3, h4⟩ := putAll_law l [] List.Pairwise.nil
 refine strict_eq _ _ h1 h3 (fun z => ?_)
 rw [h4 z]
 show z ∈ Go.Lib.compactUpTo (srtS l).toArray (srtS l).length ↔ _
 rw [h2 z]
 constructor
 ·rintro ⟨j, hj, e⟩
  refine Or.inr ((srtS_mem l z).1 ?_)
  rw [← e]
  simp [hj]
 ·rintro (e | e)
  ·cases e
  ·obtain ⟨j, hj, e2⟩ := List.getElem_of_mem ((srtS_mem l z).2 e)
   exact ⟨j, hj, by simp [hj]; exact e2⟩
theorem rdI (l : List Int) (i : Nat) (hi : i < l.length) : rd l (i : Int) = l[i] := by simp [rd, hi]
theorem ev_l09In (l : List Int) (x : Int) (hl : l.length ≤ 4194304) : Ev (fun k => spec_l09In.f k l x) (decide (x ∈ l)) := by
 have key : ∀ d i, i + d = l.length → Ev (fun k => spec_l09In.l0 k l x (i : Int)) (decide (x ∈ l.drop i)) := by
  intro d
  induction d with
  | zero =>
   intro i hi
   refine evSucc ?_
   simp only [spec_l09In.l0]
   rw [List.drop_of_length_le (by omega)]
   exact evNeg (by omega) (evEq (Ev.now _) (by simp))
  | succ d ih =>
   intro i hi
   have hlt : i < l.length := by omega
   refine evSucc ?_
   simp only [spec_l09In.l0]
   refine evPos (by omega) (evPos (by omega) ?_)
   rw [rdI l i hlt, w64 (by omega) (by omega), ci, List.drop_eq_getElem_cons hlt]
   by_cases hc : l[i] = x
   ·exact evPos hc (evEq (Ev.now _) (by rw [hc]; simp))
   ·refine evNeg hc (evEq (ih (i + 1) (by omega)) ?_)
    rw [Bool.eq_iff_iff, decide_eq_true_eq, decide_eq_true_eq, List.mem_cons]
    exact ⟨fun h => Or.inr h, fun h => h.elim (fun e => absurd e.symm hc) id⟩
 exact key l.length 0 (by omega)
theorem ev_l23Put (l : List Int) (x : Int) (hl : l.length ≤ 4194304) : Ev (fun k => spec_l23Put.f k l x) (insS x l) := by
 have put : ∀ d i out, i + d = l.length → out.length ≤ i + 1 → Ev (fun k => spec_l23Put.l0 k l x out true (i : Int)) (out ++ l.drop i) := by
  intro d
  induction d with
  | zero =>
   intro i out hi ho
   refine evSucc ?_
   simp only [spec_l23Put.l0]
   rw [List.drop_of_length_le (by omega), List.append_nil]
   exact evNeg (by omega) (evPos trivial (Ev.now _))
  | succ d ih =>
   intro i out hi ho
   have hlt : i < l.length := by omega
   refine evSucc ?_
   simp only [spec_l23Put.l0]
   refine evPos (by omega) (evPos trivial (evPos (by omega) (evPos (by omega) ?_)))
   rw [rdI l i hlt, w64 (by omega) (by omega), ci]
   refine evEq (ih (i + 1) (out ++ [l[i]]) (by omega) (by rw [List.length_append, List.length_singleton]; omega)) ?_
   rw [List.drop_eq_getElem_cons hlt, List.append_assoc]
   rfl
 have key : ∀ d i out, i + d = l.length → out.length ≤ i → Ev (fun k => spec_l23Put.l0 k l x out false (i : Int)) (out ++ insS x (l.drop i)) := by
  intro d
  induction d with
  | zero =>
   intro i out hi ho
   refine evSucc ?_
   simp only [spec_l23Put.l0]
   rw [List.drop_of_length_le (by omega)]
   exact evNeg (by omega) (evNeg (by simp) (evPos (by omega) (Ev.now _)))
  | succ d ih =>
   intro i out hi ho
   have hlt : i < l.length := by omega
   refine evSucc ?_
   simp only [spec_l23Put.l0]
   refine evPos (by omega) (evNeg (by simp) (evPos (by omega) ?_))
   rw [rdI l i hlt, w64 (by omega) (by omega), ci, List.drop_eq_getElem_cons hlt]
   unfold insS
   by_cases hc : x < l[i]
   ·rw [if_pos hc]
    refine evPos hc (evPos (by omega) ?_)
    simp only [Option.bind_some]
    refine evPos (by rw [List.length_append, List.length_singleton]; omega) ?_
    refine evEq (put d (i + 1) ((out ++ [x]) ++ [l[i]]) (by omega) (by rw [List.length_append, List.length_append, List.length_singleton, List.length_singleton]; omega)) ?_
    rw [List.append_assoc, List.append_assoc]
    rfl
   ·rw [if_neg hc]
    refine evNeg hc (evPos (by omega) ?_)
    refine evEq (ih (i + 1) (out ++ [l[i]]) (by omega) (by rw [List.length_append, List.length_singleton]; omega)) ?_
    rw [List.append_assoc]
    rfl
 exact key l.length 0 [] (by omega) (Nat.le_refl _)
theorem sort_f (l : List Int) (h : l.length ≤ 4194304) : slices_Sort_int_int.f l = some (srtS l) := if_pos (by omega)
def flatN (l : List S53) : List Int := l.flatMap (fun r => r.f0)
theorem flatN_cons (r : S53) (l : List S53) : flatN (r :: l) = r.f0 ++ flatN l := by simp [flatN]
theorem flatN_len : ∀ (l : List S53), (∀ r ∈ l, r.f0.length ≤ 4) → (flatN l).length ≤ 4 * l.length := by
 intro l
 induction l with
 | nil => intro _; simp [flatN]
 | cons r l ih =>
  intro h
  have h1 := h r List.mem_cons_self
  have h2 := ih (fun x hx => h x (List.mem_cons_of_mem _ hx))
  rw [flatN_cons, List.length_append, List.length_cons]
  omega
def numsL (a b d : Int) (l : List S53) : List Int := if polB a b d l = true then putAll (flatN l) [] else []
theorem ev_spec_NumsSaid (a b d : Int) (l : List S53) (hl : polSmall l) : Ev (fun k => spec_NumsSaid.f k a b d l) (numsL a b d l) := by
 unfold numsL
 simp only [spec_NumsSaid.f]
 refine evBindS rfl (Ev.bind (ev_spec_PolicyOk a b d l hl) ?_)
 by_cases hp : polB a b d l = true
 ·rw [if_pos hp]
  refine evPos hp ?_
  obtain ⟨hb1, hb2⟩ := polB_bounds hp
  have key : ∀ e i acc, i + e = l.length → acc.length ≤ 4 * i → Ev (fun k => spec_NumsSaid.l0 k acc (i : Int) a b d l) (putAll (flatN (l.drop i)) acc) := by
   intro e
   induction e with
   | zero =>
    intro i acc hi ha
    refine evSucc ?_
    simp only [spec_NumsSaid.l0]
    rw [List.drop_of_length_le (by omega)]
    exact evNeg (by omega) (Ev.now _)
   | succ e ih =>
    intro i acc hi ha
    have hlt : i < l.length := by omega
    have h4 := (hb2 _ (List.getElem_mem hlt)).1
    rw [List.drop_eq_getElem_cons hlt, flatN_cons]
    refine evSucc ?_
    simp only [spec_NumsSaid.l0]
    refine evPos (by omega) ?_
    have inner : ∀ c j acc', j + c = l[i].f0.length → acc'.length ≤ 4 * i + j → Ev (fun k => spec_NumsSaid.l1 k acc' (i : Int) (j : Int) a b d l) (putAll (l[i].f0.drop j ++ flatN (l.drop (i + 1))) acc') := by
     intro c
     induction c with
     | zero =>
      intro j acc' hj ha'
      refine evSucc ?_
      simp only [spec_NumsSaid.l1]
      rw [rdRu l i hlt, List.drop_of_length_le (by omega), List.nil_append]
      refine evPos (by omega) (evPos (by omega) (evNeg (by omega) ?_))
      rw [w64 (by omega) (by omega), ci]
      exact ih (i + 1) acc' (by omega) (by omega)
     | succ c ihc =>
      intro j acc' hj ha'
      have hjt : j < l[i].f0.length := by omega
      refine evSucc ?_
      simp only [spec_NumsSaid.l1]
      rw [rdRu l i hlt, rdI _ j hjt, w64 (x := (j : Int) + 1) (by omega) (by omega), ci j, List.drop_eq_getElem_cons hjt, List.cons_append]
      refine evPos (by omega) (evPos (by omega) (evPos (by omega) (evPos (by omega) (Ev.bind (ev_l09In acc' _ (by omega)) ?_))))
      unfold putAll
      by_cases hc : l[i].f0[j] ∈ acc'
      ·rw [if_pos hc]
       exact evPos (decide_eq_true hc) (ihc (j + 1) acc' (by omega) (by omega))
      ·rw [if_neg hc]
       exact evNeg (by rw [decide_eq_true_eq]; exact hc) (Ev.bind (ev_l23Put acc' _ (by omega)) (ihc (j + 1) _ (by omega) (by rw [insS_len]; omega)))
    exact inner l[i].f0.length 0 acc (by omega) (by omega)
  exact key l.length 0 [] (by omega) (Nat.zero_le _)
 ·rw [if_neg hp]
  exact evNeg hp (Ev.now _)
theorem ev_impl_NumsSaid (a b d : Int) (l : List S53) (hl : polSmall l) : Ev (fun k => impl_NumsSaid.f k a b d l) (numsL a b d l) := by
 unfold numsL
 simp only [impl_NumsSaid.f]
 refine Ev.bind (ev_impl_PolicyOk a b d l hl) ?_
 by_cases hp : polB a b d l = true
 ·rw [if_pos hp]
  refine evPos hp ?_
  obtain ⟨hb1, hb2⟩ := polB_bounds hp
  refine Ev.bind (a := putAll (flatN l) []) ?_ (Ev.now _)
  simp only [impl_NumsOf.f]
  have fl : ∀ i, (flatN (l.take i)).length ≤ 40 := by
   intro i
   have := flatN_len (l.take i) (fun r hr => (hb2 r (List.mem_of_mem_take hr)).1)
   rw [List.length_take] at this
   omega
  have key := evUp (r := putAll (flatN l) []) l.length (fun i k => impl_NumsOf.l0 k (flatN (l.take i)) l (l.length : Int) (i : Int)) ?_ ?_
  ·exact key
  ·intro i hi ih
   have h4 := (hb2 _ (List.getElem_mem hi)).1
   have := fl i
   refine evSucc ?_
   simp only [impl_NumsOf.l0]
   rw [rdRu l i hi, w64 (by omega) (by omega), ci]
   refine evPos (by omega) (evPos (by omega) (evPos (by omega) (evPos (by omega) ?_)))
   rw [takeSnoc l i hi] at ih
   have e : flatN (l.take i ++ [l[i]]) = flatN (l.take i) ++ l[i].f0 := by
    unfold flatN
    rw [List.flatMap_append, List.flatMap_cons, List.flatMap_nil, List.append_nil]
   rw [e] at ih
   exact ih
  ·refine evSucc ?_
   simp only [impl_NumsOf.l0]
   refine evNeg (by omega) ?_
   have := fl l.length
   rw [List.take_length] at this ⊢
   refine evBindS (sort_f _ (by omega)) ?_
   refine evBindS (show slices_Compact_int_int.f (srtS (flatN l)) = some (Go.Lib.compact (srtS (flatN l))) from rfl) ?_
   rw [compact_putAll]
   exact Ev.now _
 ·rw [if_neg hp]
  exact evNeg hp (Ev.now _)
theorem numsL_len (a b d : Int) (l : List S53) : (numsL a b d l).length ≤ 40 := by
 unfold numsL
 split
 ·rename_i hp
  obtain ⟨hb1, hb2⟩ := polB_bounds hp
  have h1 := flatN_len l (fun r hr => (hb2 r hr).1)
  have h2 := putAll_len (flatN l) []
  rw [List.length_nil] at h2
  omega
 ·exact Nat.zero_le _
theorem ev_sameIntsR (l : List Int) (hl : l.length ≤ 4194304) : Ev (fun k => laws_sameInts.f k l l) true := by
 have key := evUp (r := true) l.length (fun i k => laws_sameInts.l0 k l l (i : Int)) ?_ ?_
 ·refine Ev.congr (fun k => ?_) key
  unfold laws_sameInts.f
  rw [if_pos rfl]
  rfl
 ·intro i hi ih
  refine evSucc ?_
  simp only [laws_sameInts.l0]
  refine evPos (by omega) (evPos (by omega) (evPos (by omega) (evPos trivial ?_)))
  rw [w64 (by omega) (by omega), ci]
  exact ih
 ·refine evSucc ?_
  simp only [laws_sameInts.l0]
  exact evNeg (by omega) (Ev.now _)
theorem ev_copyPolicy (a b d : Int) (l : List S53) (hl : polSmall l) : Ev (fun k => impl_copyPolicy.f k a b d l) (a, b, d, l) := by
 have hz := hl.1
 simp only [impl_copyPolicy.f]
 have key := evUp (r := (a, b, d, l)) l.length (fun i k => impl_copyPolicy.l0 k (l.take i) l (l.length : Int) (i : Int) a b d l) ?_ ?_
 ·exact key
 ·intro i hi ih
  have hm := hl.2 _ (List.getElem_mem hi)
  have hcr : impl_copyRule.f l[i].f0 l[i].f1 l[i].f2 l[i].f3 = some (l[i].f0, l[i].f1, l[i].f2, l[i].f3) := by
   unfold impl_copyRule.f
   simp only [Option.bind_some, List.length_nil, List.nil_append]
   rw [if_pos (by omega), if_pos (by omega)]
  refine evSucc ?_
  simp only [impl_copyPolicy.l0]
  rw [rdRu l i hi, w64 (by omega) (by omega), ci]
  rw [takeSnoc l i hi] at ih
  exact evPos (by omega) (evPos (by omega) (evPos (by omega) (evBindS hcr (evPos (by rw [List.length_take]; omega) ih))))
 ·refine evSucc ?_
  simp only [impl_copyPolicy.l0]
  rw [List.take_length]
  exact evNeg (by omega) (Ev.now _)
def onlyL (a b d : Int) (l : List S53) (n : Int) : List S53 := if polB a b d l = true then l.filter (fun r => !pB n r) else l
theorem ev_OnlyFor (a b d : Int) (l : List S53) (n : Int) (hl : polSmall l) : Ev (fun k => impl_OnlyFor.f k a b d l n) (a, b, d, onlyL a b d l n) := by
 simp only [impl_OnlyFor.f]
 refine Ev.bind (ev_copyPolicy a b d l hl) (Ev.bind (ev_impl_PolicyOk a b d l hl) ?_)
 by_cases hp : polB a b d l = true
 ·refine evPos hp (evEq (Ev.now _) ?_)
  unfold onlyL
  rw [if_pos hp]
 ·refine evNeg hp (evEq (Ev.now _) ?_)
  unfold onlyL
  rw [if_neg hp]
def cEq (x c : S100) : Bool := c.f0 == x.f0 && ((c.f1.f0 == x.f1.f0 && (c.f1.f1 == x.f1.f1)) && (c.f2 == x.f2 && (c.f3.f0 == x.f3.f0 && (c.f3.f1 == x.f3.f1))))
theorem cEq_comm (x c : S100) : (x.f0 == c.f0 && ((x.f1.f0 == c.f1.f0 && (x.f1.f1 == c.f1.f1)) && (x.f2 == c.f2 && (x.f3.f0 == c.f3.f0 && (x.f3.f1 == c.f3.f1))))) = cEq x c := by
 unfold cEq
 rw [Bool.eq_iff_iff]
 simp only [Bool.and_eq_true, beq_iff_eq]
 constructor
 ·rintro ⟨a, ⟨b, c⟩, d, e, f⟩
  exact ⟨a.symm, ⟨b.symm, c.symm⟩, d.symm, e.symm, f.symm⟩
 ·rintro ⟨a, ⟨b, c⟩, d, e, f⟩
  exact ⟨a.symm, ⟨b.symm, c.symm⟩, d.symm, e.symm, f.symm⟩
def hasC (l : List S100) (c : S100) : Bool := l.any (fun x => cEq x c)
theorem ev_contains (l : List Int) (x : Int) (hl : l.length ≤ 4194304) : Ev (fun k => slices_Contains_int_int.f k l x) (decide (x ∈ l)) := by
 have key : ∀ d i, i + d = l.length → ∃ t, Ev (fun k => slices_Index_int_int.l0 k l x (l.length : Int) (i : Int)) t ∧ decide (t ≥ 0) = decide (x ∈ l.drop i) := by
  intro d
  induction d with
  | zero =>
   intro i hi
   refine ⟨-1, evSucc ?_, ?_⟩
   ·simp only [slices_Index_int_int.l0]
    exact evNeg (by omega) (Ev.now _)
   ·rw [List.drop_of_length_le (by omega)]; simp
  | succ d ih =>
   intro i hi
   have hlt : i < l.length := by omega
   rw [List.drop_eq_getElem_cons hlt]
   by_cases hc : x = l[i]
   ·refine ⟨(i : Int), evSucc ?_, ?_⟩
    ·simp only [slices_Index_int_int.l0]
     rw [rdI l i hlt]
     exact evPos (by omega) (evPos (by omega) (evPos (by omega) (evPos hc (Ev.now _))))
    ·rw [decide_eq_true (by omega), decide_eq_true (by rw [hc]; exact List.mem_cons_self)]
   ·obtain ⟨t, h1, h2⟩ := ih (i + 1) (by omega)
    refine ⟨t, evSucc ?_, ?_⟩
    ·simp only [slices_Index_int_int.l0]
     rw [rdI l i hlt, w64 (by omega) (by omega), ci]
     exact evPos (by omega) (evPos (by omega) (evPos (by omega) (evNeg hc h1)))
    ·rw [h2, Bool.eq_iff_iff, decide_eq_true_eq, decide_eq_true_eq, List.mem_cons]
     exact ⟨Or.inr, fun h => h.elim (fun e => absurd e hc) id⟩
 obtain ⟨t, h1, h2⟩ := key l.length 0 (by omega)
 simp only [slices_Contains_int_int.f, slices_Index_int_int.f]
 exact Ev.bind h1 (evEq (Ev.now _) (by rw [h2, List.drop_zero]))
theorem ev_hasC (l : List S100) (c : S100) (hl : l.length ≤ 1048576) : Ev (fun k => impl_Cond_114.f k l c.f0 c.f1.f0 c.f1.f1 c.f2 c.f3.f0 c.f3.f1) (hasC l c) := by
 have key : ∀ d i, i + d = l.length → ∃ t, Ev (fun k => impl_Cond_132.l0 k l (l.length : Int) (i : Int) c.f0 c.f1.f0 c.f1.f1 c.f2 c.f3.f0 c.f3.f1) t ∧ decide (t ≥ 0) = hasC (l.drop i) c := by
  intro d
  induction d with
  | zero =>
   intro i hi
   refine ⟨-1, evSucc ?_, ?_⟩
   ·simp only [impl_Cond_132.l0]
    exact evNeg (by omega) (Ev.now _)
   ·rw [List.drop_of_length_le (by omega)]; rfl
  | succ d ih =>
   intro i hi
   have hlt : i < l.length := by omega
   rw [List.drop_eq_getElem_cons hlt]
   by_cases hc : cEq l[i] c = true
   ·refine ⟨(i : Int), evSucc ?_, ?_⟩
    ·simp only [impl_Cond_132.l0]
     rw [rdCo l i hlt]
     exact evPos (by omega) (evPos (by omega) (evPos (by omega) (evPos hc (Ev.now _))))
    ·unfold hasC
     rw [List.any_cons, hc, decide_eq_true (by omega), Bool.true_or]
   ·obtain ⟨t, h1, h2⟩ := ih (i + 1) (by omega)
    refine ⟨t, evSucc ?_, ?_⟩
    ·simp only [impl_Cond_132.l0]
     rw [rdCo l i hlt, w64 (by omega) (by omega), ci]
     exact evPos (by omega) (evPos (by omega) (evPos (by omega) (evNeg hc h1)))
    ·rw [h2]
     unfold hasC
     rw [List.any_cons, Bool.eq_false_iff.2 hc, Bool.false_or]
 obtain ⟨t, h1, h2⟩ := key l.length 0 (by omega)
 simp only [impl_Cond_114.f, impl_Cond_132.f]
 exact Ev.bind h1 (evEq (Ev.now _) (by rw [h2, List.drop_zero]))
theorem ev_hasCS (l : List S100) (c : S100) (hl : l.length ≤ 1048576) : Ev (fun k => spec_l24HasCond.f k l c.f0 c.f1.f0 c.f1.f1 c.f2 c.f3.f0 c.f3.f1) (hasC l c) := by
 have key : ∀ d i, i + d = l.length → Ev (fun k => spec_l24HasCond.l0 k l (i : Int) c.f0 c.f1.f0 c.f1.f1 c.f2 c.f3.f0 c.f3.f1) (hasC (l.drop i) c) := by
  intro d
  induction d with
  | zero =>
   intro i hi
   refine evSucc ?_
   simp only [spec_l24HasCond.l0]
   rw [List.drop_of_length_le (by omega)]
   exact evNeg (by omega) (Ev.now _)
  | succ d ih =>
   intro i hi
   have hlt : i < l.length := by omega
   have hn := ih (i + 1) (by omega)
   rw [List.drop_eq_getElem_cons hlt]
   unfold hasC at hn ⊢
   rw [List.any_cons]
   refine evSucc ?_
   simp only [spec_l24HasCond.l0]
   rw [rdCo l i hlt, w64 (by omega) (by omega), ci, cEq_comm]
   by_cases hc : cEq l[i] c = true
   ·rw [hc, Bool.true_or]
    exact evPos (by omega) (evPos (by omega) (evPos rfl (Ev.now _)))
   ·rw [Bool.eq_false_iff.2 hc, Bool.false_or]
    exact evPos (by omega) (evPos (by omega) (evNeg (by simp) hn))
 have := key l.length 0 (by omega)
 rw [List.drop_zero] at this
 exact this
def covB (x r : S53) : Bool := x.f1.all (hasC r.f1) && (decide (x.f0.length = 0) || (r.f0.all (fun n => decide (n ∈ x.f0)) && decide (0 < r.f0.length)))
theorem ev_covers (x r : S53) (hx : x.f0.length ≤ 1048576 ∧ x.f1.length ≤ 1048576) (hr : r.f0.length ≤ 1048576 ∧ r.f1.length ≤ 1048576) : Ev (fun k => impl_covers.f k x.f0 x.f1 x.f2 x.f3 r.f0 r.f1 r.f2 r.f3) (covB x r) := by
 have k1 : ∀ d i, i + d = r.f0.length → Ev (fun k => impl_covers.l1 k r.f0 (r.f0.length : Int) (i : Int) x.f0 x.f1 x.f2 x.f3 r.f0 r.f1 r.f2 r.f3) ((r.f0.drop i).all (fun n => decide (n ∈ x.f0)) && decide (0 < r.f0.length)) := by
  intro d
  induction d with
  | zero =>
   intro i hi
   refine evSucc ?_
   simp only [impl_covers.l1]
   rw [List.drop_of_length_le (by omega), List.all_nil, Bool.true_and]
   refine evNeg (by omega) (evEq (Ev.now _) ?_)
   rw [decide_eq_decide]
   omega
  | succ d ih =>
   intro i hi
   have hlt : i < r.f0.length := by omega
   refine evSucc ?_
   simp only [impl_covers.l1]
   rw [rdI r.f0 i hlt, w64 (by omega) (by omega), ci, List.drop_eq_getElem_cons hlt, List.all_cons]
   refine evPos (by omega) (evPos (by omega) (evPos (by omega) (Ev.bind (ev_contains x.f0 r.f0[i] (by omega)) ?_)))
   cases hc : decide (r.f0[i] ∈ x.f0)
   ·rw [Bool.false_and, Bool.false_and]
    exact evNeg (by simp) (Ev.now _)
   ·rw [Bool.true_and]
    exact evPos rfl (ih (i + 1) (by omega))
 have k0 : ∀ d i, i + d = x.f1.length → Ev (fun k => impl_covers.l0 k x.f1 (x.f1.length : Int) (i : Int) x.f0 x.f1 x.f2 x.f3 r.f0 r.f1 r.f2 r.f3) ((x.f1.drop i).all (hasC r.f1) && (decide (x.f0.length = 0) || (r.f0.all (fun n => decide (n ∈ x.f0)) && decide (0 < r.f0.length)))) := by
  intro d
  induction d with
  | zero =>
   intro i hi
   refine evSucc ?_
   simp only [impl_covers.l0]
   rw [List.drop_of_length_le (by omega), List.all_nil, Bool.true_and]
   refine evNeg (by omega) ?_
   by_cases hz : x.f0.length = 0
   ·rw [decide_eq_true hz, Bool.true_or]
    exact evPos (by omega) (Ev.now _)
   ·rw [decide_eq_false hz, Bool.false_or]
    have := k1 r.f0.length 0 (by omega)
    rw [List.drop_zero] at this
    exact evNeg (by omega) this
  | succ d ih =>
   intro i hi
   have hlt : i < x.f1.length := by omega
   refine evSucc ?_
   simp only [impl_covers.l0]
   rw [rdCo x.f1 i hlt, w64 (by omega) (by omega), ci, List.drop_eq_getElem_cons hlt, List.all_cons]
   refine evPos (by omega) (evPos (by omega) (evPos (by omega) (Ev.bind (ev_hasC r.f1 x.f1[i] hr.2) ?_)))
   cases hc : hasC r.f1 x.f1[i]
   ·rw [Bool.false_and, Bool.false_and]
    exact evNeg (by simp) (Ev.now _)
   ·rw [Bool.true_and]
    exact evPos rfl (ih (i + 1) (by omega))
 have := k0 x.f1.length 0 (by omega)
 rw [List.drop_zero] at this
 exact this
theorem ev_coversS (x r : S53) (hx : x.f0.length ≤ 1048576 ∧ x.f1.length ≤ 1048576) (hr : r.f0.length ≤ 1048576 ∧ r.f1.length ≤ 1048576) : Ev (fun k => spec_l24Covers.f k x.f0 x.f1 x.f2 x.f3 r.f0 r.f1 r.f2 r.f3) (covB x r) := by
 have k1 : ∀ d i, i + d = r.f0.length → Ev (fun k => spec_l24Covers.l1 k (i : Int) x.f0 x.f1 x.f2 x.f3 r.f0 r.f1 r.f2 r.f3) ((r.f0.drop i).all (fun n => decide (n ∈ x.f0)) && decide (0 < r.f0.length)) := by
  intro d
  induction d with
  | zero =>
   intro i hi
   refine evSucc ?_
   simp only [spec_l24Covers.l1]
   rw [List.drop_of_length_le (by omega), List.all_nil, Bool.true_and]
   refine evNeg (by omega) (evEq (Ev.now _) ?_)
   rw [decide_eq_decide]
   omega
  | succ d ih =>
   intro i hi
   have hlt : i < r.f0.length := by omega
   refine evSucc ?_
   simp only [spec_l24Covers.l1]
   rw [rdI r.f0 i hlt, w64 (by omega) (by omega), ci, List.drop_eq_getElem_cons hlt, List.all_cons]
   refine evPos (by omega) (evPos (by omega) (Ev.bind (ev_l09In x.f0 r.f0[i] (by omega)) ?_))
   cases hc : decide (r.f0[i] ∈ x.f0)
   ·rw [Bool.false_and, Bool.false_and]
    exact evNeg (by simp) (Ev.now _)
   ·rw [Bool.true_and]
    exact evPos rfl (ih (i + 1) (by omega))
 have k0 : ∀ d i, i + d = x.f1.length → Ev (fun k => spec_l24Covers.l0 k (i : Int) x.f0 x.f1 x.f2 x.f3 r.f0 r.f1 r.f2 r.f3) ((x.f1.drop i).all (hasC r.f1) && (decide (x.f0.length = 0) || (r.f0.all (fun n => decide (n ∈ x.f0)) && decide (0 < r.f0.length)))) := by
  intro d
  induction d with
  | zero =>
   intro i hi
   refine evSucc ?_
   simp only [spec_l24Covers.l0]
   rw [List.drop_of_length_le (by omega), List.all_nil, Bool.true_and]
   refine evNeg (by omega) ?_
   by_cases hz : x.f0.length = 0
   ·rw [decide_eq_true hz, Bool.true_or]
    exact evPos (by omega) (Ev.now _)
   ·rw [decide_eq_false hz, Bool.false_or]
    have := k1 r.f0.length 0 (by omega)
    rw [List.drop_zero] at this
    exact evNeg (by omega) this
  | succ d ih =>
   intro i hi
   have hlt : i < x.f1.length := by omega
   refine evSucc ?_
   simp only [spec_l24Covers.l0]
   rw [rdCo x.f1 i hlt, w64 (by omega) (by omega), ci, List.drop_eq_getElem_cons hlt, List.all_cons]
   refine evPos (by omega) (evPos (by omega) (Ev.bind (ev_hasCS r.f1 x.f1[i] hr.2) ?_))
   cases hc : hasC r.f1 x.f1[i]
   ·rw [Bool.false_and, Bool.false_and]
    exact evNeg (by simp) (Ev.now _)
   ·rw [Bool.true_and]
    exact evPos rfl (ih (i + 1) (by omega))
 have := k0 x.f1.length 0 (by omega)
 rw [List.drop_zero] at this
 exact this
def shadB (l : List S53) (i : Nat) : Bool := (List.range' 0 i).any (fun j => covB (l.getD j z53) (l.getD i z53))
def shadFrom (l : List S53) : Nat → Nat → List Int → List Int
 | 0, _, acc => acc
 | d + 1, i, acc => shadFrom l d (i + 1) (if shadB l i = true then acc ++ [(i : Int)] else acc)
theorem shadFrom_len (l : List S53) : ∀ d i acc, (shadFrom l d i acc).length ≤ acc.length + d := by
 intro d
 induction d with
 | zero => intro i acc; exact Nat.le_refl _
 | succ d ih =>
  intro i acc
  unfold shadFrom
  refine Nat.le_trans (ih _ _) ?_
  split
  ·rw [List.length_append, List.length_singleton]; omega
  ·omega
theorem getDR (l : List S53) (i : Nat) (hi : i < l.length) : l.getD i z53 = l[i] := by simp [List.getD_eq_getElem?_getD, hi]
theorem ev_anyO (l : List S53) (hl : polSmall l) (i : Nat) (hi : i < l.length) : Ev (fun k => anyO k l i) (shadB l i) := by
 have key : ∀ m, m ≤ i → ∃ K, ∀ k, K ≤ k → ∀ j, j < m → covK k (l.getD j z53) (l.getD i z53) = some (covB (l.getD j z53) (l.getD i z53)) := by
  intro m
  induction m with
  | zero => intro _; exact ⟨0, fun _ _ j hj => absurd hj (Nat.not_lt_zero _)⟩
  | succ m ih =>
   intro hm
   obtain ⟨K, hK⟩ := ih (by omega)
   have hx := hl.2 _ (List.getElem_mem (show m < l.length by omega))
   have hr := hl.2 _ (List.getElem_mem hi)
   rw [← getDR l m (by omega)] at hx
   rw [← getDR l i hi] at hr
   obtain ⟨K', hK'⟩ := ev_covers _ _ hx hr
   refine ⟨max K K', fun k hk j hj => ?_⟩
   by_cases he : j = m
   ·subst he
    exact hK' k (by omega)
   ·exact hK k (by omega) j (by omega)
 obtain ⟨K, hK⟩ := key i (Nat.le_refl _)
 refine ⟨K, fun k hk => ?_⟩
 have h := hK k hk
 show anyO k l i = some (shadB l i)
 unfold anyO
 rw [if_pos]
 ·unfold shadB
  rw [List.range_eq_range']
  refine congrArg some ?_
  rw [Bool.eq_iff_iff, List.any_eq_true, List.any_eq_true]
  constructor
  ·rintro ⟨j, hj, e⟩
   have hlt : j < i := by simpa using hj
   rw [h j hlt] at e
   exact ⟨j, hj, e⟩
  ·rintro ⟨j, hj, e⟩
   have hlt : j < i := by simpa using hj
   refine ⟨j, hj, ?_⟩
   rw [h j hlt]
   exact e
 ·rw [List.all_eq_true]
  intro j hj
  rw [h j (List.mem_range.1 hj)]
  rfl
def shadL (a b d : Int) (l : List S53) : List Int := if polB a b d l = true then shadFrom l l.length 0 [] else []
theorem shadL_len (a b d : Int) (l : List S53) : (shadL a b d l).length ≤ l.length := by
 unfold shadL
 split
 ·have := shadFrom_len l l.length 0 []
  rw [List.length_nil] at this
  omega
 ·exact Nat.zero_le _
theorem ev_Shadowed (a b d : Int) (l : List S53) (hl : polSmall l) : Ev (fun k => impl_Shadowed.f k a b d l) (shadL a b d l) := by
 have hz := hl.1
 unfold shadL
 simp only [impl_Shadowed.f]
 refine Ev.bind (ev_impl_PolicyOk a b d l hl) ?_
 by_cases hp : polB a b d l = true
 ·rw [if_pos hp]
  refine evPos hp ?_
  have key : ∀ e i acc, i + e = l.length → acc.length ≤ i → Ev (fun k => shadGo k l e i acc) (shadFrom l e i acc) := by
   intro e
   induction e with
   | zero => intro i acc _ _; exact Ev.now _
   | succ e ih =>
    intro i acc hi ha
    simp only [shadGo]
    unfold shadFrom
    refine Ev.bind (ev_anyO l hl i (by omega)) ?_
    by_cases hs : shadB l i = true
    ·rw [if_pos hs]
     exact evPos hs (evPos (by omega) (ih (i + 1) _ (by omega) (by rw [List.length_append, List.length_singleton]; omega)))
    ·rw [if_neg hs]
     exact evNeg hs (ih (i + 1) _ (by omega) (by omega))
  exact key l.length 0 [] (by omega) (Nat.le_refl _)
 ·rw [if_neg hp]
  exact evNeg hp (Ev.now _)
theorem ev_ShadowedS (a b d : Int) (l : List S53) (hl : polSmall l) : Ev (fun k => spec_Shadowed.f k a b d l) (shadL a b d l) := by
 have hz := hl.1
 unfold shadL
 simp only [spec_Shadowed.f]
 refine evBindS rfl (Ev.bind (ev_spec_PolicyOk a b d l hl) ?_)
 by_cases hp : polB a b d l = true
 ·rw [if_pos hp]
  refine evPos hp ?_
  have key : ∀ e i acc, i + e = l.length → acc.length ≤ i → Ev (fun k => spec_Shadowed.l0 k acc (i : Int) a b d l) (shadFrom l e i acc) := by
   intro e
   induction e with
   | zero =>
    intro i acc hi _
    refine evSucc ?_
    simp only [spec_Shadowed.l0]
    exact evNeg (by omega) (Ev.now _)
   | succ e ih =>
    intro i acc hi ha
    have hlt : i < l.length := by omega
    have hr := hl.2 _ (List.getElem_mem hlt)
    refine evSucc ?_
    simp only [spec_Shadowed.l0]
    refine evPos (by omega) ?_
    unfold shadFrom
    have inner : ∀ c j (t : Bool), j + c = i → (t || (List.range' j c).any (fun j => covB (l.getD j z53) (l.getD i z53))) = shadB l i → Ev (fun k => spec_Shadowed.l1 k acc (i : Int) t (j : Int) a b d l) (shadFrom l e (i + 1) (if shadB l i = true then acc ++ [(i : Int)] else acc)) := by
     intro c
     induction c with
     | zero =>
      intro j t hj ht
      rw [List.range'_zero, List.any_nil, Bool.or_false] at ht
      rw [← ht]
      refine evSucc ?_
      simp only [spec_Shadowed.l1]
      rw [w64 (x := (i : Int) + 1) (by omega) (by omega), ci i]
      refine evNeg (by omega) ?_
      by_cases hs : t = true
      ·rw [if_pos hs]
       exact evPos hs (evPos (by omega) (ih (i + 1) _ (by omega) (by rw [List.length_append, List.length_singleton]; omega)))
      ·rw [if_neg hs]
       exact evNeg hs (ih (i + 1) _ (by omega) (by omega))
     | succ c ihc =>
      intro j t hj ht
      have hj' : j < l.length := by omega
      have hx := hl.2 _ (List.getElem_mem hj')
      rw [List.range'_succ, List.any_cons, getDR l j hj', getDR l i hlt] at ht
      refine evSucc ?_
      simp only [spec_Shadowed.l1]
      rw [w64 (x := (j : Int) + 1) (by omega) (by omega), ci j]
      cases t
      ·rw [Bool.false_or] at ht
       rw [rdRu l j hj', rdRu l i hlt]
       refine evPos (by omega) (evNeg (by simp) (evPos (by omega) (evPos (by omega) (evPos (by omega) (evPos (by omega) (Ev.bind (ev_coversS _ _ hx hr) (ihc (j + 1) _ (by omega) ?_)))))))
       rw [getDR l i hlt]
       exact ht
      ·refine evPos (by omega) (evPos rfl (ihc (j + 1) true (by omega) ?_))
       rw [Bool.true_or] at ht ⊢
       exact ht
    exact inner i 0 false (by omega) (by rw [Bool.false_or]; rfl)
  exact key l.length 0 [] (by omega) (Nat.le_refl _)
 ·rw [if_neg hp]
  exact evNeg hp (Ev.now _)
def keepFrom (L : List Int) : List S53 → Nat → List S53 → List S53
 | [], _, acc => acc
 | r :: rs, i, acc => keepFrom L rs (i + 1) (if (i : Int) ∈ L then acc else acc ++ [r])
theorem keepFrom_nil : ∀ l i acc, keepFrom [] l i acc = acc ++ l := by
 intro l
 induction l with
 | nil => intro i acc; rw [List.append_nil]; rfl
 | cons r l ih =>
  intro i acc
  unfold keepFrom
  rw [ih, if_neg List.not_mem_nil, List.append_assoc]
  rfl
theorem keepFrom_sub (L : List Int) : ∀ l i acc, (keepFrom L l i acc).length ≤ acc.length + l.length ∧ ∀ x ∈ keepFrom L l i acc, x ∈ acc ∨ x ∈ l := by
 intro l
 induction l with
 | nil => intro i acc; exact ⟨Nat.le_refl _, fun x hx => Or.inl hx⟩
 | cons r l ih =>
  intro i acc
  unfold keepFrom
  obtain ⟨h1, h2⟩ := ih (i + 1) (if (i : Int) ∈ L then acc else acc ++ [r])
  by_cases hc : (i : Int) ∈ L
  ·rw [if_pos hc] at h1 h2 ⊢
   exact ⟨by rw [List.length_cons]; omega, fun x hx => (h2 x hx).imp id (List.mem_cons_of_mem _)⟩
  ·rw [if_neg hc] at h1 h2 ⊢
   rw [List.length_append, List.length_singleton] at h1
   refine ⟨by rw [List.length_cons]; omega, fun x hx => ?_⟩
   rcases h2 x hx with e | e
   ·rcases List.mem_append.1 e with e | e
    ·exact Or.inl e
    ·rw [List.mem_singleton.1 e]; exact Or.inr List.mem_cons_self
   ·exact Or.inr (List.mem_cons_of_mem _ e)
def unsL (a b d : Int) (l : List S53) : List S53 := keepFrom (shadL a b d l) l 0 []
theorem unsL_small {a b d : Int} {l : List S53} (hl : polSmall l) : polSmall (unsL a b d l) := by
 obtain ⟨h1, h2⟩ := keepFrom_sub (shadL a b d l) l 0 []
 have hz := hl.1
 rw [List.length_nil] at h1
 exact ⟨Nat.le_trans h1 (by omega), fun r hr => hl.2 r ((h2 r hr).resolve_left List.not_mem_nil)⟩
theorem ev_Unshadowed (a b d : Int) (l : List S53) (hl : polSmall l) : Ev (fun k => impl_Unshadowed.f k a b d l) (a, b, d, unsL a b d l) := by
 have hz := hl.1
 have hS := shadL_len a b d l
 simp only [impl_Unshadowed.f]
 refine Ev.bind (ev_copyPolicy a b d l hl) (Ev.bind (ev_Shadowed a b d l hl) ?_)
 unfold unsL
 generalize shadL a b d l = L at hS ⊢
 have key : ∀ e i acc, i + e = l.length → acc.length ≤ i → Ev (fun k => impl_Unshadowed.l0 k L acc l (l.length : Int) (i : Int) a b d l) (a, b, d, keepFrom L (l.drop i) i acc) := by
  intro e
  induction e with
  | zero =>
   intro i acc hi _
   refine evSucc ?_
   simp only [impl_Unshadowed.l0]
   rw [List.drop_of_length_le (by omega)]
   exact evNeg (by omega) (Ev.now _)
  | succ e ih =>
   intro i acc hi ha
   have hlt : i < l.length := by omega
   refine evSucc ?_
   simp only [impl_Unshadowed.l0]
   rw [rdRu l i hlt, w64 (by omega) (by omega), ci, List.drop_eq_getElem_cons hlt]
   unfold keepFrom
   refine evPos (by omega) (evPos (by omega) (evPos (by omega) (Ev.bind (ev_contains L (i : Int) (by omega)) ?_)))
   by_cases hc : (i : Int) ∈ L
   ·rw [if_pos hc]
    exact evPos (decide_eq_true hc) (ih (i + 1) acc (by omega) (by omega))
   ·rw [if_neg hc]
    exact evNeg (by rw [decide_eq_true_eq]; exact hc) (evPos (by omega) (ih (i + 1) _ (by omega) (by rw [List.length_append, List.length_singleton]; omega)))
 exact key l.length 0 [] (by omega) (Nat.le_refl _)
theorem ev_UnshadowedS (a b d : Int) (l : List S53) (hl : polSmall l) : Ev (fun k => spec_Unshadowed.f k a b d l) (a, b, d, unsL a b d l) := by
 have hz := hl.1
 have hS := shadL_len a b d l
 simp only [spec_Unshadowed.f]
 refine Ev.bind (ev_l09Copy a b d l hl) (Ev.bind (ev_ShadowedS a b d l hl) (Ev.bind (ev_spec_PolicyOk a b d l hl) ?_))
 by_cases hp : polB a b d l = true
 ·refine evPos hp ?_
  unfold unsL
  generalize shadL a b d l = L at hS ⊢
  have key : ∀ e i acc, i + e = l.length → acc.length ≤ i → Ev (fun k => spec_Unshadowed.l0 k L acc (i : Int) a b d l) (a, b, d, keepFrom L (l.drop i) i acc) := by
   intro e
   induction e with
   | zero =>
    intro i acc hi _
    refine evSucc ?_
    simp only [spec_Unshadowed.l0]
    rw [List.drop_of_length_le (by omega)]
    exact evNeg (by omega) (Ev.now _)
   | succ e ih =>
    intro i acc hi ha
    have hlt : i < l.length := by omega
    refine evSucc ?_
    simp only [spec_Unshadowed.l0]
    rw [rdRu l i hlt, w64 (by omega) (by omega), ci, List.drop_eq_getElem_cons hlt]
    unfold keepFrom
    refine evPos (by omega) (Ev.bind (ev_l09In L (i : Int) (by omega)) ?_)
    by_cases hc : (i : Int) ∈ L
    ·rw [if_pos hc]
     exact evPos (decide_eq_true hc) (ih (i + 1) acc (by omega) (by omega))
    ·rw [if_neg hc]
     exact evNeg (by rw [decide_eq_true_eq]; exact hc) (evPos (by omega) (evPos (by omega) (ih (i + 1) _ (by omega) (by rw [List.length_append, List.length_singleton]; omega))))
  exact key l.length 0 [] (by omega) (Nat.le_refl _)
 ·refine evNeg hp (evEq (Ev.now _) ?_)
  unfold unsL shadL
  rw [if_neg hp, keepFrom_nil, List.nil_append]
def lessTo (b d : Int) (O : List S53) : Nat → List S53
 | 0 => []
 | n + 1 => if (O.getD n z53).f2 = b ∧ (O.getD n z53).f3 = d then lessTo b d O n else O.take (n + 1)
theorem lessTo_sub (b d : Int) (O : List S53) : ∀ n, (lessTo b d O n).length ≤ O.length ∧ ∀ x ∈ lessTo b d O n, x ∈ O := by
 intro n
 induction n with
 | zero => exact ⟨Nat.zero_le _, fun x hx => absurd hx List.not_mem_nil⟩
 | succ n ih =>
  unfold lessTo
  split
  ·exact ih
  ·exact ⟨by rw [List.length_take]; omega, fun x hx => List.mem_of_mem_take hx⟩
def lessL (a b d : Int) (l : List S53) : List S53 := if polB a b d l = true then lessTo b d (unsL a b d l) (unsL a b d l).length else unsL a b d l
theorem lessL_small {a b d : Int} {l : List S53} (hl : polSmall l) : polSmall (lessL a b d l) := by
 have hU := unsL_small (a := a) (b := b) (d := d) hl
 unfold lessL
 split
 ·obtain ⟨h1, h2⟩ := lessTo_sub b d (unsL a b d l) (unsL a b d l).length
  exact ⟨Nat.le_trans h1 hU.1, fun r hr => hU.2 r (h2 r hr)⟩
 ·exact hU
theorem ev_Lessened (a b d : Int) (l : List S53) (hl : polSmall l) : Ev (fun k => impl_Lessened.f k a b d l) (a, b, d, lessL a b d l) := by
 have hU := (unsL_small (a := a) (b := b) (d := d) hl).1
 simp only [impl_Lessened.f]
 refine Ev.bind (ev_Unshadowed a b d l hl) (Ev.bind (ev_impl_PolicyOk a b d l hl) ?_)
 unfold lessL
 generalize unsL a b d l = O at hU ⊢
 by_cases hp : polB a b d l = true
 ·rw [if_pos hp]
  refine evPos hp ?_
  have key : ∀ n, n ≤ O.length → Ev (fun k => impl_Lessened.l0 k (n : Int) a b d l a b d (O.take n)) (a, b, d, lessTo b d O n) := by
   intro n
   induction n with
   | zero =>
    intro _
    refine evSucc ?_
    simp only [impl_Lessened.l0]
    exact evNeg (by omega) (Ev.now _)
   | succ n ih =>
    intro hn
    have hlt : n < (O.take (n + 1)).length := by rw [List.length_take]; omega
    have hlO : n < O.length := by omega
    refine evSucc ?_
    simp only [impl_Lessened.l0]
    rw [w64 (x := ((n + 1 : Nat) : Int) - 1) (by omega) (by omega), show ((n + 1 : Nat) : Int) - 1 = (n : Int) by omega, rdRu _ n hlt, List.getElem_take, Int.toNat_natCast]
    unfold lessTo
    rw [getDR O n hlO]
    refine evPos (by omega) (evPos (by omega) (evPos (by omega) ?_))
    by_cases h2 : O[n].f2 = b
    ·by_cases h3 : O[n].f3 = d
     ·rw [if_pos ⟨h2, h3⟩, List.take_take, show min n (n + 1) = n by omega]
      exact evPos h2 (evPos h3 (evPos (by omega) (ih (by omega))))
     ·rw [if_neg (fun h => h3 h.2)]
      exact evPos h2 (evNeg h3 (Ev.now _))
    ·rw [if_neg (fun h => h2 h.1)]
     exact evNeg h2 (Ev.now _)
  have := key O.length (Nat.le_refl _)
  rw [List.take_length] at this
  exact this
 ·rw [if_neg hp]
  exact evNeg hp (Ev.now _)
theorem ev_LessenedS (a b d : Int) (l : List S53) (hl : polSmall l) : Ev (fun k => spec_Lessened.f k a b d l) (a, b, d, lessL a b d l) := by
 have hU := (unsL_small (a := a) (b := b) (d := d) hl).1
 simp only [spec_Lessened.f]
 refine Ev.bind (ev_UnshadowedS a b d l hl) (Ev.bind (ev_spec_PolicyOk a b d l hl) ?_)
 unfold lessL
 generalize unsL a b d l = O at hU ⊢
 by_cases hp : polB a b d l = true
 ·rw [if_pos hp]
  refine evPos hp ?_
  have key : ∀ n, n ≤ O.length → Ev (fun k => spec_Lessened.l0 k (n : Int) a b d l a b d O) (a, b, d, lessTo b d O n) := by
   intro n
   induction n with
   | zero =>
    intro _
    refine evSucc ?_
    simp only [spec_Lessened.l0]
    refine evNeg (by omega) (evBindS rfl (evPos (by omega) (evPos (by omega) (evBindS rfl (evPos ?_ (Ev.now _))))))
    rw [List.length_nil, List.length_take]
    omega
   | succ n ih =>
    intro hn
    have hlO : n < O.length := by omega
    have fin : Ev (fun _ => (some ([] : List S53)).bind fun y => if 0 ≤ ((n + 1 : Nat) : Int) then (if ((n + 1 : Nat) : Int) ≤ (O.length : Int) then ((some (O.take (((n + 1 : Nat) : Int)).toNat : List S53)).bind fun y2 => (if y.length + y2.length < 2199023255552 then (some (a, b, d, (y ++ y2))) else (none))) else (none)) else (none)) (a, b, d, O.take (n + 1)) := by
     refine evBindS rfl (evPos (by omega) (evPos (by omega) (evBindS rfl (evPos ?_ (evEq (Ev.now _) ?_)))))
     ·rw [List.length_nil, List.length_take]
      omega
     ·rw [Int.toNat_natCast, List.nil_append]
    refine evSucc ?_
    simp only [spec_Lessened.l0]
    rw [w64 (x := ((n + 1 : Nat) : Int) - 1) (by omega) (by omega), show ((n + 1 : Nat) : Int) - 1 = (n : Int) by omega, rdRu _ n hlO]
    unfold lessTo
    rw [getDR O n hlO]
    refine evPos (by omega) (evPos (by omega) (evPos (by omega) ?_))
    by_cases h2 : O[n].f2 = b
    ·by_cases h3 : O[n].f3 = d
     ·rw [if_pos ⟨h2, h3⟩]
      exact evPos h2 (evPos h3 (ih (by omega)))
     ·rw [if_neg (fun h => h3 h.2)]
      exact evPos h2 (evNeg h3 fin)
    ·rw [if_neg (fun h => h2 h.1)]
     exact evNeg h2 fin
  exact key O.length (Nat.le_refl _)
 ·rw [if_neg hp]
  exact evNeg hp (Ev.now _)
theorem ev_OnlyForS (a b d : Int) (l : List S53) (n : Int) (hl : polSmall l) : Ev (fun k => spec_OnlyFor.f k a b d l n) (a, b, d, onlyL a b d l n) := by
 have hz := hl.1
 simp only [spec_OnlyFor.f]
 refine Ev.bind (ev_l09Copy a b d l hl) (Ev.bind (ev_spec_PolicyOk a b d l hl) ?_)
 by_cases hp : polB a b d l = true
 ·refine evPos hp ?_
  unfold onlyL
  rw [if_pos hp]
  have key : ∀ e i acc, i + e = l.length → acc.length ≤ i → Ev (fun k => spec_OnlyFor.l0 k n acc (i : Int) a b d l) (a, b, d, acc ++ (l.drop i).filter (fun r => !pB n r)) := by
   intro e
   induction e with
   | zero =>
    intro i acc hi _
    refine evSucc ?_
    simp only [spec_OnlyFor.l0]
    rw [List.drop_of_length_le (by omega), List.filter_nil, List.append_nil]
    exact evNeg (by omega) (Ev.now _)
   | succ e ih =>
    intro i acc hi ha
    have hlt : i < l.length := by omega
    have hm := hl.2 _ (List.getElem_mem hlt)
    have hkeep : Ev (fun k => spec_OnlyFor.l0 k n (acc ++ [l[i]]) ((i + 1 : Nat) : Int) a b d l) (a, b, d, acc ++ l[i] :: (l.drop (i + 1)).filter (fun r => !pB n r)) := by
     have := ih (i + 1) (acc ++ [l[i]]) (by omega) (by rw [List.length_append, List.length_singleton]; omega)
     rw [List.append_assoc] at this
     exact this
    refine evSucc ?_
    simp only [spec_OnlyFor.l0]
    rw [rdRu l i hlt, w64 (by omega) (by omega), ci, List.drop_eq_getElem_cons hlt]
    by_cases h0 : (l[i].f0.length : Int) = 0
    ·rw [List.filter_cons_of_pos (by unfold pB; rw [decide_eq_false (by omega)]; rfl)]
     exact evPos (by omega) (evPos (by omega) (evPos h0 (evPos (by omega) hkeep)))
    ·by_cases hc : n ∈ l[i].f0
     ·rw [List.filter_cons_of_pos (by unfold pB; rw [decide_eq_true hc]; simp)]
      exact evPos (by omega) (evPos (by omega) (evNeg h0 (Ev.bind (ev_l09In l[i].f0 n (by omega)) (evPos (decide_eq_true hc) (evPos (by omega) hkeep)))))
     ·rw [List.filter_cons_of_neg (by unfold pB; rw [decide_eq_false hc, decide_eq_true (by omega)]; simp)]
      exact evPos (by omega) (evPos (by omega) (evNeg h0 (Ev.bind (ev_l09In l[i].f0 n (by omega)) (evNeg (by rw [decide_eq_true_eq]; exact hc) (ih (i + 1) acc (by omega) (by omega))))))
  have := key l.length 0 [] (by omega) (Nat.le_refl _)
  rw [List.drop_zero, List.nil_append] at this
  exact this
 ·refine evNeg hp (evEq (Ev.now _) ?_)
  unfold onlyL
  rw [if_neg hp]
theorem onlyL_small {a b d n : Int} {l : List S53} (hl : polSmall l) : polSmall (onlyL a b d l n) := by
 have hz := hl.1
 unfold onlyL
 split
 ·exact ⟨Nat.le_trans (List.length_filter_le _ _) hz, fun r hr => hl.2 r (List.mem_filter.1 hr).1⟩
 ·exact hl
theorem ev_l10Same (l : List Int) (hl : l.length ≤ 4194304) : Ev (fun k => spec_l10Same.f k l l) true := by
 have key := evUp (r := true) l.length (fun i k => spec_l10Same.l0 k l l (i : Int)) ?_ ?_
 ·refine Ev.congr (fun k => ?_) key
  unfold spec_l10Same.f
  rw [if_pos rfl]
  rfl
 ·intro i hi ih
  refine evSucc ?_
  simp only [spec_l10Same.l0]
  refine evPos (by omega) (evPos (by omega) (evPos (by omega) (evPos trivial ?_)))
  rw [w64 (by omega) (by omega), ci]
  exact ih
 ·refine evSucc ?_
  simp only [spec_l10Same.l0]
  exact evNeg (by omega) (Ev.now _)
theorem ev_SamePolicy (a b d : Int) (l : List S53) (hl : polSmall l) : Ev (fun k => spec_SamePolicy.f k a b d l a b d l) true := by
 have hz := hl.1
 simp only [spec_SamePolicy.f]
 refine evPos trivial (evPos trivial (evPos trivial (evSucc ?_)))
 simp only [spec_SamePolicy.j0]
 refine evNeg (by simp) ?_
 have key := evUp (r := true) l.length (fun i k => spec_SamePolicy.l0 k (i : Int) a b d l a b d l) ?_ ?_
 ·exact key
 ·intro i hi ih
  have hm := hl.2 _ (List.getElem_mem hi)
  refine evSucc ?_
  simp only [spec_SamePolicy.l0]
  rw [rdRu l i hi]
  refine evPos (by omega) (evPos (by omega) (evPos (by omega) (Ev.bind (ev_l10Same _ (by omega)) (evPos rfl (evPos trivial (evPos trivial (evSucc ?_)))))))
  simp only [spec_SamePolicy.j2]
  refine evNeg (by simp) ?_
  have inner := evUp (r := true) l[i].f1.length (fun j k => spec_SamePolicy.l1 k (i : Int) (j : Int) a b d l a b d l l[i].f0 l[i].f1 l[i].f2 l[i].f3 l[i].f0 l[i].f1 l[i].f2 l[i].f3) ?_ ?_
  ·exact inner
  ·intro j hj ihj
   refine evSucc ?_
   simp only [spec_SamePolicy.l1]
   rw [w64 (by omega) (by omega), ci]
   exact evPos (by omega) (evPos (by omega) (evPos (by omega) (evNeg (by simp) ihj)))
  ·refine evSucc ?_
   simp only [spec_SamePolicy.l1]
   rw [w64 (x := (i : Int) + 1) (by omega) (by omega), ci i]
   exact evNeg (by omega) ih
 ·refine evSucc ?_
  simp only [spec_SamePolicy.l0]
  exact evNeg (by omega) (Ev.now _)
theorem FnLessTold : laws_FnLessTold.Pure := by
 intro code hm hz hw
 refine Ev.rounds ?_
 simp only [laws_FnLessTold.f, laws_big.f, Option.bind_some]
 by_cases hc : (code.length : Int) > 1048576
 ·exact evPos (by simpa using hc) (Ev.now _)
 refine evNeg (by simpa using hc) ?_
 obtain ⟨a, b, d, l, e, hs⟩ := drawShadowed code (by omega)
 obtain ⟨a', b', d', l', n, e', hs'⟩ := drawOnlyFor code (by omega)
 have hS := shadL_len a b d l
 have hN := numsL_len a b d l
 have hz := hs.1
 refine Ev.bind e (Ev.bind e' (Ev.bind (ev_Shadowed a b d l hs) (Ev.bind (ev_ShadowedS a b d l hs) (Ev.bind (ev_sameIntsR _ (by omega)) (evPos rfl ?_)))))
 refine Ev.bind (ev_Unshadowed a b d l hs) (Ev.bind (ev_UnshadowedS a b d l hs) (Ev.bind (ev_SamePolicy a b d _ (unsL_small hs)) (evPos rfl ?_)))
 refine Ev.bind (ev_Lessened a b d l hs) (Ev.bind (ev_LessenedS a b d l hs) (Ev.bind (ev_SamePolicy a b d _ (lessL_small hs)) (evPos rfl ?_)))
 refine Ev.bind (ev_impl_NumsSaid a b d l hs) (Ev.bind (ev_spec_NumsSaid a b d l hs) (Ev.bind (ev_sameIntsR _ (by omega)) (evPos rfl ?_)))
 exact Ev.bind (ev_OnlyFor a' b' d' l' n hs') (Ev.bind (ev_OnlyForS a' b' d' l' n hs') (Ev.bind (ev_SamePolicy a' b' d' _ (onlyL_small hs')) (Ev.now _)))

end Go.Proofs.Ytjfmpodeenidnaa.Pure

namespace Go.Proofs.Ytjfmpodeenidnaa.fnLessTold
open Go.ChangeShapes Go.WideShapes Go.ChangeAt Go.RowKit
open Go.ChangeMaps (open_string shut_string)
set_option linter.unusedVariables false
theorem own : ownKnob Try.prog.godebug = none := by kernel_rfl
theorem laidOut : laidOutB Try.prog = true := by kernel_rfl
def IsRow (k : IntKind) (w : World) (a : Option Addr) (len cap : Nat) (zs : List Int) : Prop :=
 (a = none ∧ len = 0 ∧ cap = 0 ∧ zs = []) ∨
 ∃ x, a = some x ∧ len ≤ cap ∧ cap ≤ maxLen ∧ zs.length = cap ∧ (∀ i, i < zs.length → w.cell? (x.add i) = some (.int k (zs.getD i 0))) ∧ ∀ n ∈ zs, (Lit.int k n).wf = true
set_option maxRecDepth 100000 in
theorem lifted (os : Os) (started : os.Started) (H : Type) (enc : TypeId × Value → H) :
 ReturnsInHanded {} Try.checked os 6 .any (Rows.fnLessToldSpec.pre6 enc Try.prog Try.f6 Rows.fnLessToldRow.domain false) (Rows.fnLessToldSpec.post enc Try.prog Try.f6 false true false false) := by
 refine returnsInHanded_of_change_sized (C := Try.checked) own started (by kernel_rfl) Try.func6
  (ChangeSpec.witness6 (enc := enc) (C := Try.checked) false ⟨#[], #[.slice none 0 0], []⟩ 8 (by kernel_rfl) (by kernel_rfl) (by kernel_rfl) (by kernel_rfl)) ?_
 intro W base args ds gs before hval0 hW hcnd hsz0 _
 have hsz : (DataW.weightsEach Try.prog (Try.f6.params.toList ++ Rows.fnLessToldSpec.plain.varTypes Try.prog) (ds ++ gs)).all (· ≤ reachBytes) = true := hsz0
 have hval : ∀ (j : Nat) t v, Try.f6.params[j]? = some t → args[j]? = some v → Value.okWide Try.prog W .any base t v := hval0
 have hW' := hW
 obtain ⟨p, q, hA0, hV, rfl, hfz, hnd⟩ := hW
 have hA : DataW.TrodAll enc Try.prog W 0 (fun _ => true) true Try.f6.params.toList args.toList ds p := hA0
 rw [Try.params6] at hA hval hsz
 obtain ⟨v0, vs0, d0, ds0, p0, q0, hargs, rfl, rfl, h0, r0⟩ := trodAll_cons hA
 obtain ⟨rfl, rfl, rfl⟩ := trodAll_nil r0
 obtain rfl : args = #[v0] := by cases args; simp_all
 obtain ⟨rfl, rfl⟩ := trodVars_none hV
 obtain ⟨a0, len0, cap0, rfl⟩ := okWide_slice Try.underlying43 (hval 0 43 v0 rfl rfl)
 have k0 := h0
 have lt0 : ∀ x ∈ p0, x.block < W.heap.size := by obtain ⟨m, hm⟩ := k0; exact DataW.trod_lt m _ _ _ hm
 obtain ⟨z0, w0⟩ : ∃ zs, IsRow .u8 W a0 len0 cap0 zs := by
  obtain ⟨fuel, hf⟩ := h0
  rcases open_ints Try.underlying43 Try.underlying5 (by kernel_rfl) hf with ⟨hcs, _⟩ | ⟨x, l, c, zs, hcs, _, hl, hm, hz, _, hcell, hwz⟩
  ·simp [Value.cells] at hcs
   obtain ⟨rfl, rfl, rfl⟩ := hcs
   exact ⟨[], .inl ⟨rfl, rfl, rfl, rfl⟩⟩
  ·simp [Value.cells] at hcs
   obtain ⟨rfl, rfl, rfl⟩ := hcs
   exact ⟨zs, .inr ⟨_, rfl, hl, hm, by simpa using hz, hcell, hwz⟩⟩
 have y0 : len0 * 1 ≤ 140737488351232 := Go.Proofs.YtjfmpodeenidnaaW.PrintWords.sized_ints hsz (j := 0) (t := 43) rfl rfl Try.underlying43 Try.underlying5 (by kernel_rfl) (by kernel_rfl) h0
 clear hA0 hval0 hsz0 hsz
 refine (PC.laws_FnLessTold.walk Pure.FnLessTold a0 len0 cap0 z0 W w0 y0).mono fun e W' ⟨he, bel⟩ => ?_
 subst he
 exact ⟨_, rfl, _, _, _, [], _, [], hW', trodAll_mk1 (shut_bool Try.underlying4 _), (trodAll_cons_mk (Below.trod laidOut (by kernel_rfl) (of_decide_eq_true (by kernel_rfl)) k0 bel lt0) trodAll_mk0), rfl, bel.frame _, fun h => by cases h⟩
theorem over : Rows.fnLessToldRow.holds Try.pinned (OpenSpec.ofChange Rows.fnLessToldSpec) :=
 OpenClaim.holds_of_wide 6 Try.f6 rfl rfl rfl rfl rfl rfl rfl ⟨rfl, rfl, rfl, rfl, rfl⟩ rfl rfl rfl rfl rfl (by kernel_rfl) Try.func6 (by kernel_rfl)
  (of_decide_eq_true (by kernel_rfl)) (by unfold Func.isWrapper; first | (rw [if_pos (by decide +kernel)]; kernel_rfl) | (rw [if_neg (by decide +kernel)]; exact ⟨rfl, rfl⟩))
  (fun os started H enc _ => lifted os started H enc)
theorem proved : Rows.FnLessToldSaid := over
#print axioms proved
end Go.Proofs.Ytjfmpodeenidnaa.fnLessTold
namespace Go.Proofs.Ytjfmpodeenidnaa
theorem fnLessTold_holds : Rows.FnLessToldSaid := fnLessTold.proved
end Go.Proofs.Ytjfmpodeenidnaa

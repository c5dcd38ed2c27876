/- Contracts of functions of the program and of the reference, and plain lemmas on what they compute: a part of the proof of the law FnExactJoinSegments. No condition. -/
import Derived.Test.YtdhjolglbcoijaaDoorV0
import Derived.ChangeArms
import Derived.ChangeOld
import Derived.WideShapes
import Derived.OpenShut
import Derived.DataElems
import Derived.Test.YtdhjolglbcoijaaDoorGe6189x1
import Derived.Test.YtdhjolglbcoijaaDoorG8b2f3x0
import Derived.Test.YtdhjolglbcoijaaDoorGe1c07x0
import Derived.Test.YtdhjolglbcoijaaDoorRows
import Derived.WalkKit
import Derived.ProofKit
import Derived.ShutString
import Derived.Below
import Derived.SizedLaws
import Derived.Carry
import Derived.LaidLaws
import Derived.LaidMore
import Derived.MakeChecks
import Derived.Stop.Joined
import Derived.ChangeVars
import Derived.Lib.LaidTab
import Derived.Test.YtdhjolglbcoijaaDoorCards
import Derived.Test.YtdhjolglbcoijaaDoorTie
import Derived.SevenTiedAt
import Derived.Test.YtdhjolglbcoijaaDoorShortV
namespace Go.Proofs.YtdhjolglbcoijaaDoor.Op
open Go.RowKit Go.Proofs.YtdhjolglbcoijaaDoorW.PrintWords
set_option linter.unusedVariables false
set_option linter.unusedSimpArgs false

abbrev OkInt (k : IntKind) (n : Int) : Prop := (Lit.int k n).wf = true

structure Opens (P : Program) {α : Type} (d : Kd α) (t : TypeId) (G : α → Prop) : Prop where
 sz : d.sz = P.cellsOf t
 op : ∀ {H : Type} {enc : TypeId × Value → H} {w : World} {n : Nat} {cs : List Value} {x : DataW H × List MemPlace},
  DataW.trod enc P w 0 (fun _ => true) true n t cs = some x → ∃ a, d.K w a cs ∧ G a

theorem opInt {P : Program} {t : TypeId} {k : IntKind} (hu : P.underlying t = some (.int k)) (hc : P.cellsOf t = 1) : Opens P (Kd.int k) t (fun n => (Lit.int k n).wf = true) where
 sz := by rw [hc]; rfl
 op := fun h => by
  obtain ⟨n, rfl, _, hw⟩ := DataW.trod_int hu h
  exact ⟨n, rfl, hw⟩

theorem opBool {P : Program} {t : TypeId} (hu : P.underlying t = some .bool) (hc : P.cellsOf t = 1) : Opens P Kd.bool t (fun _ => True) where
 sz := by rw [hc]; rfl
 op := fun h => by
  obtain ⟨n, rfl, _⟩ := DataW.trod_bool hu h
  exact ⟨n, rfl, trivial⟩

theorem opStr {P : Program} {t : TypeId} (hu : P.underlying t = some .string) (hc : P.cellsOf t = 1) : Opens P Kd.string t (fun s => s.size ≤ 9223372036854775807) where
 sz := by rw [hc]; rfl
 op := fun h => by
  obtain ⟨s, rfl, _, hs⟩ := DataW.trod_string hu h
  exact ⟨s, rfl, hs⟩

theorem chooseList {α : Type} {Q : Nat → α → Prop} : ∀ (n : Nat), (∀ i, i < n → ∃ a, Q i a) → ∃ xs : List α, xs.length = n ∧ ∀ i a, xs[i]? = some a → Q i a
 | 0, _ => ⟨[], rfl, fun i a h => by simp at h⟩
 | n + 1, h => by
  obtain ⟨xs, hl, hx⟩ := chooseList n (fun i hi => h i (by omega))
  obtain ⟨a, ha⟩ := h n (by omega)
  refine ⟨xs ++ [a], by simp [hl], fun i b hb => ?_⟩
  by_cases hi : i < n
  ·rw [List.getElem?_append_left (by omega)] at hb
   exact hx i b hb
  ·rw [List.getElem?_append_right (by omega), hl] at hb
   have : i - n = 0 := by
    rcases Nat.eq_zero_or_pos (i - n) with h0 | h0
    ·exact h0
    ·rw [List.getElem?_eq_none (by simp; omega)] at hb
     simp at hb
   rw [this] at hb
   have hin : i = n := by omega
   simp at hb
   rw [hin, ← hb]
   exact ha

theorem cellsAt {w : World} {a : Addr} {n : Nat} {cs : List Value} (h : w.cells? 0 a n = some cs) : cs.length = n ∧ ∀ i u, cs[i]? = some u → w.cell? (a.add i) = some u := by
 unfold World.cells? at h
 rw [if_pos (Nat.zero_le _)] at h
 have hl : cs.length = n := by simpa using mapM_some_length h
 refine ⟨hl, fun i u hu => ?_⟩
 have hi : i < n := by
  rcases Nat.lt_or_ge i n with h1 | h1
  ·exact h1
  ·rw [List.getElem?_eq_none (by omega)] at hu
   simp at hu
 have := mapM_some_get h i i (by simp [hi])
 rw [this, hu]

theorem opSlice {P : Program} {α : Type} {d : Kd α} {t e : TypeId} {G : α → Prop} (hu : P.underlying t = some (.slice e)) (hc : P.cellsOf t = 1) (E : Nat) (o : Opens P d e G) :
 Opens P (Kd.slice E d) t (fun l => (∀ a ∈ l, G a) ∧ l.length ≤ 9223372036854775807) where
 sz := by rw [hc]; rfl
 op := fun {H enc w n cs x} h => by
  rcases DataW.trod_slice hu h with ⟨rfl, _⟩ | ⟨a, len, cap, elems, rest, m, _, rfl, _, _, hl, hcap, hlen, hel, _⟩
  ·exact ⟨[], ⟨none, 0, rfl, Nat.le_refl _, rfl, by simp, fun h0 => by simp at h0⟩, fun a ha => by simp at ha, by simp⟩
  ·have hcap' : cap ≤ 9223372036854775807 := hcap
   have key : ∀ i, i < len → ∃ b, ∃ c, d.K w b c ∧ G b ∧ c.length = d.sz ∧ ∀ j u, c[j]? = some u → w.cell? ((a.add (i * d.sz)).add j) = some u := by
    intro i hi
    have h1 := hel i hi
    rw [List.getElem?_eq_getElem (by omega)] at h1
    obtain ⟨cs', h2, h3⟩ := Option.bind_eq_some_iff.1 h1
    obtain ⟨b, hK, hG⟩ := o.op h3
    obtain ⟨h4, h5⟩ := cellsAt h2
    rw [← o.sz] at h5
    exact ⟨b, cs', hK, hG, d.K_len hK, h5⟩
   obtain ⟨xs, hx, hall⟩ := chooseList len key
   refine ⟨xs, ⟨some a, cap, by rw [hx], by omega, rfl, by omega, fun _ => ⟨a, rfl, fun j p hp => ?_⟩⟩, fun b hb => ?_, by omega⟩
   ·obtain ⟨c, hK, _, hs, hcell⟩ := hall j p hp
    exact ⟨c, hs, hK, fun i u hiu => by rw [← Addr.add_add]; exact hcell i u hiu⟩
   ·obtain ⟨i, hi, rfl⟩ := List.getElem_of_mem hb
    obtain ⟨_, _, hG, _⟩ := hall i _ (List.getElem?_eq_getElem hi)
    exact hG

structure Fields (P : Program) (off : Nat) (fs : List Field) {α : Type} (d : Kd α) (G : α → Prop) : Prop where
 op : ∀ {H : Type} {enc : TypeId × Value → H} {w : World} {n : Nat} {cs : List Value}, cs.length = off + d.sz →
  (∀ f ∈ fs, ∃ y, DataW.trod enc P w 0 (fun _ => true) true n f.type ((cs.drop f.offset).take (P.cellsOf f.type)) = some y) → ∃ a, d.K w a (cs.drop off) ∧ G a

theorem fieldsOne {P : Program} {off : Nat} {f : Field} {α : Type} {d : Kd α} {G : α → Prop} (o : Opens P d f.type G) (hf : f.offset = off) : Fields P off [f] d G where
 op := fun {H enc w n cs} hl h => by
  obtain ⟨y, hy⟩ := h f (by simp)
  rw [hf, List.take_of_length_le (by rw [← o.sz]; simp; omega)] at hy
  exact o.op hy

theorem fieldsCons {P : Program} {off : Nat} {f : Field} {fs : List Field} {α β : Type} {d : Kd α} {d' : Kd β} {G : α → Prop} {G' : β → Prop} (o : Opens P d f.type G) (hf : f.offset = off) (r : Fields P (off + d.sz) fs d' G') :
 Fields P off (f :: fs) (Kd.pair d d') (fun x => G x.1 ∧ G' x.2) where
 op := fun {H enc w n cs} hl h => by
  have hl' : cs.length = off + (d.sz + d'.sz) := hl
  obtain ⟨y, hy⟩ := h f (by simp)
  rw [hf] at hy
  obtain ⟨a, ha, hg⟩ := o.op hy
  obtain ⟨b, hb, hg'⟩ := r.op (by omega) (fun g hg => h g (by simp [hg]))
  refine ⟨(a, b), ⟨_, _, ?_, ha, hb⟩, hg, hg'⟩
  rw [← o.sz, show cs.drop (off + d.sz) = (cs.drop off).drop d.sz from (List.drop_drop ..).symm]
  exact (List.take_append_drop _ _).symm

theorem opStruct {P : Program} {t : TypeId} {fs : Array Field} {α β : Type} {d : Kd α} {f : β → α} {G : α → Prop} {G' : β → Prop} (hu : P.underlying t = some (.struct fs)) (hc : P.cellsOf t = d.sz)
 (r : Fields P 0 fs.toList d G) (g : α → β) (hfg : ∀ a, f (g a) = a) (hG : ∀ a, G a → G' (g a)) : Opens P (Kd.iso d f) t G' where
 sz := by rw [hc]; rfl
 op := fun {H enc w n cs x} h => by
  obtain ⟨xs, m, rfl, _, hl, hxs, hall⟩ := DataW.trod_struct hu h
  obtain ⟨a, ha, hGa⟩ := r.op (w := w) (n := m) (cs := cs) (by omega) (fun f' hf' => by
   obtain ⟨i, hi, rfl⟩ := List.getElem_of_mem hf'
   have hi' : i < fs.size := by simpa using hi
   have h1 := hall i fs.toList[i] (by simp [hi'])
   rw [List.getElem?_eq_getElem (by omega)] at h1
   exact ⟨_, h1⟩)
  rw [List.drop_zero] at ha
  refine ⟨g a, ?_, hG a hGa⟩
  show d.K w (f (g a)) cs
  rw [hfg]
  exact ha
end Go.Proofs.YtdhjolglbcoijaaDoor.Op

namespace Go.Proofs.YtdhjolglbcoijaaDoor.PureFnExactJoinSegments
open Go.RowKit Go.Proofs.YtdhjolglbcoijaaDoor.PA
def ok89 (x : S89) : Prop := (Op.OkInt .i64 x.f0) ∧ (Op.OkInt .i64 x.f1) ∧ (Op.OkInt .i64 x.f2) ∧ (Op.OkInt .i64 x.f3)
def ok91 (x : S91) : Prop := (Op.OkInt .i64 x.f0) ∧ (Op.OkInt .i64 x.f1) ∧ (ok89 x.f2)
def ok25 (x : S25) : Prop := (Op.OkInt .i64 x.f0) ∧ (x.f1.size ≤ 9223372036854775807) ∧ ((∀ e_ ∈ x.f2, ok91 e_) ∧ x.f2.length ≤ 9223372036854775807) ∧ (x.f3.size ≤ 9223372036854775807)
def Stated : Prop := ∀ (x0 : List S25), ((∀ e_ ∈ x0, ok25 e_) ∧ x0.length ≤ 9223372036854775807) → ∃ k, laws_FnExactJoinSegments.f k x0 = some true
end Go.Proofs.YtdhjolglbcoijaaDoor.PureFnExactJoinSegments

namespace Go.Proofs.YtdhjolglbcoijaaDoor.Kit
open Go.RowKit Go.Proofs.YtdhjolglbcoijaaDoorW.PrintWords Go.Proofs.YtdhjolglbcoijaaDoorW.PrintLast Go.Proofs.YtdhjolglbcoijaaDoorW.PrintMore
set_option linter.unusedVariables false
set_option linter.unusedSimpArgs false

theorem w64 {x : Int} (h0 : -9223372036854775808 ≤ x) (h1 : x ≤ 9223372036854775807) : wrap64 x = x := by unfold wrap64; omega

section
variable {α β : Type}
theorem evSucc {g : Nat → Option α} {r : α} (h : Ev (fun k => g (k + 1)) r) : Ev g r := Ev.step (fun _ => rfl) h
theorem evPos {c : Prop} [Decidable c] {g f : Nat → Option α} {r : α} (hc : c) (h : Ev g r) : Ev (fun k => if c then g k else f k) r := Ev.congr (fun k => if_pos hc) h
theorem evNeg {c : Prop} [Decidable c] {g f : Nat → Option α} {r : α} (hc : ¬ c) (h : Ev f r) : Ev (fun k => if c then g k else f k) r := Ev.congr (fun k => if_neg hc) h
theorem evIte {c : Prop} [Decidable c] {g f : Nat → Option α} {r s : α} (h : c → Ev g r) (h' : ¬ c → Ev f s) : Ev (fun k => if c then g k else f k) (if c then r else s) := by
 by_cases hc : c
 ·rw [if_pos hc]; exact evPos hc (h hc)
 ·rw [if_neg hc]; exact evNeg hc (h' hc)
theorem evSome (r : α) : Ev (fun _ => some r) r := Ev.now r
theorem evEq {g : Nat → Option α} {r s : α} (h : Ev g r) (e : r = s) : Ev g s := e ▸ h
theorem evBindS {x : Option α} {f : Nat → α → Option β} {a : α} {r : β} (h : x = some a) (k : Ev (fun n => f n a) r) : Ev (fun n => x.bind (f n)) r := by subst h; exact k
theorem evConst {x : Option α} {r : α} (h : x = some r) : Ev (fun _ => x) r := by subst h; exact Ev.now r
end

section
variable {α β : Type}
theorem evUp {r : α} (n : Nat) (g : Nat → Nat → Option α) (step : ∀ i, i < n → Ev (g (i + 1)) r → Ev (g i) r) (last : Ev (g n) r) : Ev (g 0) r := by
 have key : ∀ d i, i + d = n → Ev (g i) r := by
  intro d
  induction d with
  | zero => intro i hi; rw [show i = n by omega]; exact last
  | succ d ih => intro i hi; exact step i (by omega) (ih (i + 1) (by omega))
 exact key n 0 (by omega)
theorem fillStep (f : α → β) (z : β) (l : List α) (i : Nat) (hi : i < l.length) :
 ((l.take i).map f ++ List.replicate (l.length - i) z).set i (f l[i]) = (l.take (i + 1)).map f ++ List.replicate (l.length - (i + 1)) z := by
 have h1 : ((l.take i).map f).length = i := by simp; omega
 rw [show l.length - i = (l.length - (i + 1)) + 1 by omega, List.replicate_succ, List.set_append_right _ _ (by omega), h1, Nat.sub_self, List.set_cons_zero,
  List.take_succ_eq_append_getElem hi, List.map_append, List.append_assoc]
 rfl
theorem takeSnoc (l : List α) (i : Nat) (hi : i < l.length) : l.take (i + 1) = l.take i ++ [l[i]] := List.take_succ_eq_append_getElem hi
theorem ci (i : Nat) : (i : Int) + 1 = ((i + 1 : Nat) : Int) := by omega
theorem sizeApp (a b : ByteArray) : (a ++ b).size = a.size + b.size := ByteArray.size_append
end

theorem okI64 {n : Int} (h : (Lit.int .i64 n).wf = true) : -9223372036854775808 ≤ n ∧ n ≤ 9223372036854775807 := by
 simp [Lit.wf, IntKind.min, IntKind.max, IntKind.signed, IntKind.bits] at h
 omega
end Go.Proofs.YtdhjolglbcoijaaDoor.Kit

namespace Go.Proofs.YtdhjolglbcoijaaDoor.DigestEq
open Go.RowKit Go.Proofs.YtdhjolglbcoijaaDoorW.PrintWords Go.Proofs.YtdhjolglbcoijaaDoorW.PrintLast Go.Proofs.YtdhjolglbcoijaaDoorW.PrintMore Go.Proofs.YtdhjolglbcoijaaDoor.Kit Go.Proofs.YtdhjolglbcoijaaDoor.PA
open Go.Proofs.YtdhjolglbcoijaaDoor.PH (hs hs_len padS padS_size blocks f4 f4_len padBytes padZ hFirst shaB shaB_len outs strOfNums_size)
set_option linter.unusedVariables false
theorem strApp (a b : List Int) : strOfNums (a ++ b) = strOfNums a ++ strOfNums b := by
 apply ByteArray.ext
 simp [strOfNums]
theorem strBytes (s : ByteArray) : strOfNums (bytesOf s) = s := by
 apply ByteArray.ext
 apply Array.ext'
 simp [strOfNums, bytesOf, Function.comp_def]
theorem hi8 (N : Int) : (List.range 8).map (fun q => N / 2 ^ (8 * (7 - q)) % 256) = f4 (N / 4294967296) ++ f4 N := by
 have h0 : N / 72057594037927936 % 256 = N / 4294967296 / 16777216 % 256 := by omega
 have h1 : N / 281474976710656 % 256 = N / 4294967296 / 65536 % 256 := by omega
 have h2 : N / 1099511627776 % 256 = N / 4294967296 / 256 % 256 := by omega
 simp [List.range, List.range.loop, f4, h0, h1, h2]
theorem padEq (a0 : ByteArray) (hb : a0.size ≤ 1073741824) : impl_PadText.f a0 = some (padS a0) := by
 have e : Int.tmod (wrap64 (64 - (Int.tmod (wrap64 ((a0.size : Int) + 9)) 64))) 64 = (padZ a0.size : Int) := by
  have c1 : Int.tmod ((a0.size : Int) + 9) 64 = ((a0.size : Int) + 9) % 64 := Int.tmod_eq_emod_of_nonneg (by omega)
  rw [w64 (x := (a0.size : Int) + 9) (by omega) (by omega), c1, w64 (by omega) (by omega)]
  have c2 : Int.tmod (64 - ((a0.size : Int) + 9) % 64) 64 = (64 - ((a0.size : Int) + 9) % 64) % 64 := Int.tmod_eq_emod_of_nonneg (by omega)
  rw [c2]
  unfold padZ
  omega
 have hz : padZ a0.size < 64 := by unfold padZ; omega
 have e8 : wrap64 (8 * (a0.size : Int)) = 8 * (a0.size : Int) := w64 (by omega) (by omega)
 unfold impl_PadText.f impl_four.f
 rw [e, e8, if_pos (by omega), if_pos (by omega), if_pos (by omega)]
 simp only [Option.bind_some, Int.toNat_natCast]
 have s1 : (a0 ++ (⟨#[128]⟩ : ByteArray)).size = a0.size + 1 := by rw [ByteArray.size_append]; rfl
 have s2 : (strOfNums (List.replicate (padZ a0.size) 0)).size = padZ a0.size := by rw [strOfNums_size, List.length_replicate]
 have s3 (x : Int) : (strOfNums [x / 16777216 % 256, x / 65536 % 256, x / 256 % 256, x % 256]).size = 4 := by rw [strOfNums_size]; rfl
 rw [if_pos (by rw [s1, s2]; omega), if_pos (by rw [ByteArray.size_append, s1, s2, s3]; omega), if_pos (by rw [ByteArray.size_append, ByteArray.size_append, s1, s2, s3, s3]; omega)]
 unfold padS padBytes
 have c (l : List Int) : strOfNums (128 :: l) = (⟨#[128]⟩ : ByteArray) ++ strOfNums l := strApp [128] l
 rw [hi8, strApp, c, strApp, strApp, strBytes]
 simp only [← ByteArray.append_assoc]
 rfl
theorem half_first : ∀ x ∈ hFirst, 0 ≤ x ∧ x ≤ 4294967295 := by decide
theorem half_sha (l : List Int) (t : ByteArray) (h : l.length = 8) : ∀ x ∈ shaB l t, 0 ≤ x ∧ x ≤ 4294967295 := by
 intro x hx
 unfold PH.shaB PH.outs at hx
 rw [List.drop_of_length_le (by omega), List.append_nil] at hx
 obtain ⟨i, _, rfl⟩ := List.mem_map.1 hx
 constructor <;> omega
theorem half_hs (p : ByteArray) : ∀ j, ∀ x ∈ hs p j, 0 ≤ x ∧ x ≤ 4294967295
 | 0 => half_first
 | j + 1 => half_sha _ _ (hs_len p j)
theorem rdS (l : List Int) (i : Nat) (hi : i < l.length) : rd l (i : Int) = l[i] := by simp [rd, hi]
theorem ev_out (s : List Int) (h : s.length = 8) : Ev (fun k => impl_Digest.l1 k (⟨#[]⟩ : ByteArray) s (s.length : Int) 0) (strOfNums (s.flatMap f4)) := by
 have key := evUp (r := strOfNums (s.flatMap f4)) 8 (fun i k => impl_Digest.l1 k (strOfNums ((s.take i).flatMap f4)) s (s.length : Int) (i : Int)) ?_ ?_
 ·exact key
 ·intro i hi ih
  refine evSucc ?_
  simp only [impl_Digest.l1]
  have hsz : (strOfNums ((s.take i).flatMap f4)).size = 4 * i := by rw [strOfNums_size, f4_len, List.length_take]; omega
  refine evPos (by omega) (evPos (by omega) (evPos (by omega) (evBindS (a := strOfNums (f4 s[i])) (by rw [rdS s i (by omega)]; rfl) (evPos (by rw [hsz, strOfNums_size]; simp [f4]; omega) ?_))))
  rw [w64 (by omega) (by omega), ci, ← strApp]
  have e : (s.take i).flatMap f4 ++ f4 s[i] = (s.take (i + 1)).flatMap f4 := by
   rw [List.take_succ_eq_append_getElem (by omega), List.flatMap_append]; simp
  rw [e]
  exact ih
 ·refine evSucc ?_
  simp only [impl_Digest.l1]
  refine evNeg (by omega) (evEq (Ev.now _) ?_)
  rw [List.take_of_length_le (by omega)]
def dig (a0 : ByteArray) : ByteArray := strOfNums ((hs (padS a0) (blocks a0.size)).flatMap f4)
theorem dig_spec (a0 : ByteArray) (hb : a0.size ≤ 1073741824) : spec_Digest.f a0 = some (dig a0) := by
 unfold spec_Digest.f; rw [if_pos hb]; rfl
theorem dig_impl (a0 : ByteArray) (hb : a0.size ≤ 1073741824) : Ev (fun k => impl_Digest.f k a0) (dig a0) := by
 simp only [impl_Digest.f]
 refine evBindS (padEq a0 hb) (evBindS (a := hFirst) rfl ?_)
 have hp := padS_size a0
 have hn : blocks a0.size ≤ 16777218 := by unfold PH.blocks; omega
 unfold dig
 generalize blocks a0.size = nb at hp hn ⊢
 generalize padS a0 = p at hp ⊢
 have key := evUp (r := strOfNums ((hs p nb).flatMap f4)) nb (fun i k => impl_Digest.l0 k p (hs p i) (64 * (i : Int))) ?_ ?_
 ·exact key
 ·intro i hi ih
  refine evSucc ?_
  simp only [impl_Digest.l0]
  have hw : wrap64 (64 * (i : Int) + 64) = 64 * (i : Int) + 64 := w64 (by omega) (by omega)
  rw [hw]
  refine evPos (by omega) (evPos (by omega) (evPos (by omega) (evPos (by omega) (evBindS (a := hs p (i + 1)) ?_ ?_))))
  ·rw [show (64 * (i : Int)).toNat = 64 * i by omega, show (64 * (i : Int) + 64).toNat = 64 * i + 64 by omega]
   unfold impl_ShaBlock.f
   rw [if_pos ⟨hs_len p i, by rw [ByteArray.size_extract]; omega, half_hs p i⟩]
   rfl
  ·rw [show 64 * (i : Int) + 64 = 64 * ((i + 1 : Nat) : Int) by omega]
   exact ih
 ·refine evSucc ?_
  simp only [impl_Digest.l0]
  exact evNeg (by omega) (ev_out _ (hs_len p nb))
end Go.Proofs.YtdhjolglbcoijaaDoor.DigestEq

namespace Go.Proofs.YtdhjolglbcoijaaDoor.Pure
open Go.RowKit Go.Proofs.YtdhjolglbcoijaaDoor.PA Go.Proofs.YtdhjolglbcoijaaDoorW.PrintWords Go.Proofs.YtdhjolglbcoijaaDoorW.PrintLast Go.Proofs.YtdhjolglbcoijaaDoorW.PrintMore Go.Proofs.YtdhjolglbcoijaaDoor.Kit Go.Proofs.YtdhjolglbcoijaaDoor.PureFnExactJoinSegments
set_option linter.unusedVariables false
set_option linter.unusedSimpArgs false
theorem sizeData (s : ByteArray) : s.size = s.data.toList.length := by
 show s.data.size = _
 rw [Array.length_toList]
theorem toList_loop (bs : ByteArray) : ∀ (d i : Nat) (r : List UInt8), i + d = bs.size → ByteArray.toList.loop bs i r = r.reverse ++ bs.data.toList.drop i := by
 have hsz := sizeData bs
 intro d
 induction d with
 | zero =>
  intro i r h
  rw [ByteArray.toList.loop, if_neg (by omega), List.drop_of_length_le (by omega)]
  simp
 | succ d ih =>
  intro i r h
  rw [ByteArray.toList.loop, if_pos (by omega), ih (i + 1) _ (by omega)]
  have hi : i < bs.data.toList.length := by omega
  rw [List.drop_eq_getElem_cons hi]
  have hb : i < bs.data.size := by rw [← Array.length_toList]; exact hi
  have hg : bs.get! i = bs.data[i] := by
   show bs.data[i]! = _
   exact getElem!_pos bs.data i hb
  rw [List.reverse_cons, List.append_assoc, hg]
  simp
theorem toList_data (bs : ByteArray) : bs.toList = bs.data.toList := by
 unfold ByteArray.toList
 rw [toList_loop bs bs.size 0 [] (by omega)]
 simp
theorem toList_inj {a b : ByteArray} (h : a.toList = b.toList) : a = b := by
 rw [toList_data, toList_data] at h
 exact ByteArray.ext (Array.ext' h)
theorem toList_iff {a b : ByteArray} : a.toList = b.toList ↔ a = b := ⟨toList_inj, fun h => by rw [h]⟩
theorem toList_nil {a : ByteArray} : a.toList = ([] : List UInt8) ↔ a.size = 0 := by
 rw [toList_data, sizeData]
 exact List.length_eq_zero_iff.symm
def mtGo (n : Nat) (acc : ByteArray) : ByteArray := if h : n = 0 then (⟨#[109]⟩ : ByteArray) ++ acc else mtGo (n / 10) (strOfNums [((48 + n % 10 : Nat) : Int)] ++ acc)
 termination_by n
 decreasing_by omega
def markT (k : Int) : ByteArray := if k ≤ 0 then (⟨#[109, 48]⟩ : ByteArray) else mtGo k.toNat ⟨#[]⟩
theorem ev_markText (k0 : Int) (h1 : k0 ≤ 1000000000) : Ev (fun k => laws_markText.f k k0) (markT k0) := by
 simp only [laws_markText.f]
 unfold markT
 refine evIte (fun h => Ev.now _) (fun h => ?_)
 have key : ∀ (n : Nat) (acc : ByteArray), n ≤ 1000000000 → n + acc.size ≤ 2000000000 → Ev (fun k => laws_markText.l0 k (n : Int) acc) (mtGo n acc) := by
  intro n
  induction n using Nat.strongRecOn with
  | ind n ih =>
   intro acc hn ha
   refine evSucc ?_
   simp only [laws_markText.l0]
   rw [mtGo]
   by_cases h0 : n = 0
   ·rw [dif_pos h0]
    exact evNeg (by omega) (evPos (by omega) (Ev.now _))
   ·rw [dif_neg h0]
    simp only [Option.bind_some]
    have e1 : Int.tmod (n : Int) 10 = ((n % 10 : Nat) : Int) := by rw [Int.tmod_eq_emod_of_nonneg (by omega)]; omega
    have e2 : Int.tdiv (n : Int) 10 = ((n / 10 : Nat) : Int) := by rw [Int.tdiv_eq_ediv_of_nonneg (by omega)]; omega
    rw [e1, e2, w64 (x := 48 + ((n % 10 : Nat) : Int)) (by omega) (by omega), w64 (x := ((n / 10 : Nat) : Int)) (by omega) (by omega), show (48 + ((n % 10 : Nat) : Int)) % 256 = ((48 + n % 10 : Nat) : Int) by omega]
    have hs : (strOfNums [((48 + n % 10 : Nat) : Int)]).size = 1 := by rw [strOfNums_size]; rfl
    refine evPos (by omega) (evPos (by rw [hs]; omega) ?_)
    exact ih (n / 10) (by omega) _ (by omega) (by rw [sizeApp, hs]; omega)
 have := key k0.toNat ⟨#[]⟩ (by omega) (by show k0.toNat + 0 ≤ _; omega)
 rw [Int.toNat_of_nonneg (by omega)] at this
 exact this
def cvEntry (x : S91) : S70 := ⟨x.f0, x.f1, ⟨x.f2.f0, x.f2.f1, x.f2.f2, x.f2.f3⟩⟩
theorem rdLE (l : List S91) (i : Nat) (hi : i < l.length) : rd_T91 l (i : Int) = l[i] := by simp [rd_T91, hi]
theorem rdE (l : List S70) (i : Nat) (hi : i < l.length) : rd_T70 l (i : Int) = l[i] := by simp [rd_T70, hi]
theorem ev_toEntryS (l : List S91) (hl : l.length ≤ 1048576) : Ev (fun k => laws_toEntryS.f k l) (l.map cvEntry) := by
 have key := evUp (r := l.map cvEntry) l.length (fun i k => laws_toEntryS.l0 k l ((l.take i).map cvEntry ++ List.replicate (l.length - i) z70) (i : Int)) ?_ ?_
 ·refine Ev.congr (fun k => ?_) key
  unfold laws_toEntryS.f
  rw [if_pos (by omega), if_pos (by omega)]
  simp
 ·intro i hi ih
  refine evSucc ?_
  simp only [laws_toEntryS.l0]
  refine evPos (by omega) (evPos (by omega) ?_)
  simp only [laws_toEntry.f, laws_toItem.f, Option.bind_some, rdLE l i hi]
  refine evPos (by simp; omega) ?_
  rw [w64 (by omega) (by omega), ci, Int.toNat_natCast]
  rw [show (⟨l[i].f0, l[i].f1, ⟨l[i].f2.f0, l[i].f2.f1, l[i].f2.f2, l[i].f2.f3⟩⟩ : S70) = cvEntry l[i] from rfl, fillStep cvEntry _ l i hi]
  exact ih
 ·refine evSucc ?_
  simp only [laws_toEntryS.l0]
  refine evNeg (by omega) ?_
  simp
  exact Ev.now _
theorem eqEntryRefl (a b c d e f : Int) : laws_eqEntry.f a b c d e f a b c d e f = some true := by simp [laws_eqEntry.f, laws_eqItem.f]
theorem ev_eqEntryS (l : List S70) (hl : l.length ≤ 1048576) : Ev (fun k => laws_eqEntryS.f k l l) true := by
 have key := evUp (r := true) l.length (fun i k => laws_eqEntryS.l0 k l l (i : Int)) ?_ ?_
 ·refine Ev.congr (fun k => ?_) key
  unfold laws_eqEntryS.f
  rw [if_pos rfl]
  rfl
 ·intro i hi ih
  refine evSucc ?_
  simp only [laws_eqEntryS.l0]
  refine evPos (by omega) (evPos (by omega) (evPos (by omega) ?_))
  simp only [eqEntryRefl, Option.bind_some, if_true]
  rw [w64 (by omega) (by omega), ci]
  exact ih
 ·refine evSucc ?_
  simp only [laws_eqEntryS.l0]
  exact evNeg (by omega) (Ev.now _)
def mkdE (k : Int) : S70 := ⟨k, k + 1, ⟨k + 2, k + 3, k + 4, k + 5⟩⟩
def markE (l : List S70) (k : Int) : List S70 := (List.range l.length).map (fun (j : Nat) => mkdE (k + 6 * (j : Int)))
theorem rd_setE (l : List S70) (i : Nat) (x : S70) (hi : i < l.length) : rd_T70 (l.set i x) (i : Int) = x := by
 simp [rd_T70, hi]
theorem setsetE (l : List S70) (i : Nat) (x y : S70) : (l.set i x).set i y = l.set i y := by simp
theorem ev_markEntryS (l : List S70) (k0 : Int) (h0 : 0 ≤ k0) (h1 : k0 ≤ 1000000000) (hl : l.length ≤ 1048576) : Ev (fun k => laws_markEntryS.f k l k0) (k0 + 6 * (l.length : Int), markE l k0) := by
 have key : ∀ d i (cur : List S70), i + d = l.length → cur = (List.range i).map (fun (j : Nat) => mkdE (k0 + 6 * (j : Int))) ++ l.drop i → Ev (fun k => laws_markEntryS.l0 k cur (k0 + 6 * (i : Int)) (i : Int)) (k0 + 6 * (l.length : Int), markE l k0) := by
  intro d
  induction d with
  | zero =>
   intro i cur hi hc
   have hcl : cur.length = l.length := by rw [hc]; simp; omega
   refine evSucc ?_
   simp only [laws_markEntryS.l0]
   refine evNeg (by omega) (evEq (Ev.now _) ?_)
   rw [hc, List.drop_of_length_le (by omega), List.append_nil, show i = l.length by omega]
   rfl
  | succ d ih =>
   intro i cur hi hc
   have hcl : cur.length = l.length := by rw [hc]; simp; omega
   refine evSucc ?_
   simp only [laws_markEntryS.l0]
   refine evPos (by omega) (evPos (by omega) ?_)
   simp only [Option.bind_some, Int.toNat_natCast]
   rw [w64 (x := k0 + 6 * (i : Int) + 1) (by omega) (by omega), w64 (x := k0 + 6 * (i : Int) + 1 + 1) (by omega) (by omega), w64 (x := k0 + 6 * (i : Int) + 1 + 1 + 1) (by omega) (by omega), w64 (x := k0 + 6 * (i : Int) + 1 + 1 + 1 + 1) (by omega) (by omega), w64 (x := k0 + 6 * (i : Int) + 1 + 1 + 1 + 1 + 1) (by omega) (by omega), w64 (x := k0 + 6 * (i : Int) + 1 + 1 + 1 + 1 + 1 + 1) (by omega) (by omega), w64 (x := (i : Int) + 1) (by omega) (by omega)]
   have hi' : i < cur.length := by omega
   simp only [rd_setE _ _ _ hi', setsetE, rd_setE _ _ _ (show i < (cur.set i _).length by simpa using hi')]
   rw [ci, show k0 + 6 * (i : Int) + 1 + 1 + 1 + 1 + 1 + 1 = k0 + 6 * ((i + 1 : Nat) : Int) by omega]
   refine ih (i + 1) _ (by omega) ?_
   have hlt : i < l.length := by omega
   have hrl : ((List.range i).map (fun (j : Nat) => mkdE (k0 + 6 * (j : Int)))).length = i := by simp
   rw [hc, List.set_append_right _ _ (by rw [hrl]; omega), hrl, Nat.sub_self, List.drop_eq_getElem_cons hlt, List.set_cons_zero, List.range_succ, List.map_append, List.append_assoc]
   congr 1
   simp [mkdE]
   omega
 have := key l.length 0 l (by omega) (by simp)
 rw [show k0 + 6 * ((0 : Nat) : Int) = k0 by omega] at this
 exact this
theorem markE_len (l : List S70) (k : Int) : (markE l k).length = l.length := by simp [markE]
theorem rdMarkE (l : List S70) (k : Int) (i : Nat) (hi : i < l.length) : rd_T70 (markE l k) (i : Int) = mkdE (k + 6 * (i : Int)) := by
 simp [rd_T70, markE, hi]
theorem ev_heldEntryS (l : List S70) (k0 : Int) (h0 : 0 ≤ k0) (h1 : k0 ≤ 900000000) (hl : l.length ≤ 1048576) : Ev (fun k => laws_heldEntryS.f k (markE l k0) k0) (k0 + 6 * (l.length : Int)) := by
 have hml := markE_len l k0
 have key := evUp (r := k0 + 6 * (l.length : Int)) l.length (fun i k => laws_heldEntryS.l0 k (markE l k0) (k0 + 6 * (i : Int)) (i : Int)) ?_ ?_
 ·refine Ev.congr (fun k => ?_) key
  unfold laws_heldEntryS.f
  rw [show k0 + 6 * ((0 : Nat) : Int) = k0 by omega]
  rfl
 ·intro i hi ih
  refine evSucc ?_
  simp only [laws_heldEntryS.l0]
  rw [rdMarkE l k0 i hi, w64 (x := k0 + 6 * (i : Int) + 1) (by omega) (by omega), w64 (x := k0 + 6 * (i : Int) + 1 + 1) (by omega) (by omega), w64 (x := k0 + 6 * (i : Int) + 1 + 1 + 1) (by omega) (by omega), w64 (x := k0 + 6 * (i : Int) + 1 + 1 + 1 + 1) (by omega) (by omega), w64 (x := k0 + 6 * (i : Int) + 1 + 1 + 1 + 1 + 1) (by omega) (by omega), w64 (x := k0 + 6 * (i : Int) + 1 + 1 + 1 + 1 + 1 + 1) (by omega) (by omega), w64 (x := (i : Int) + 1) (by omega) (by omega)]
  simp only [mkdE]
  refine evPos (by omega) (evPos (by omega) (evPos trivial (evPos trivial (evPos (by omega) (evPos (by omega) (evPos (by omega) (evPos (by omega) ?_)))))))
  rw [show k0 + 6 * (i : Int) + 1 + 1 + 1 + 1 + 1 + 1 = k0 + 6 * ((i + 1 : Nat) : Int) by omega, ci]
  exact ih
 ·refine evSucc ?_
  simp only [laws_heldEntryS.l0]
  exact evNeg (by omega) (Ev.now _)
def rng (x lo hi : Int) : Bool := decide (lo ≤ x) && decide (x ≤ hi)
theorem spec_in (x lo hi : Int) : spec_l01In.f x lo hi = some (rng x lo hi) := by
 unfold spec_l01In.f rng
 by_cases h : x ≥ lo
 ·simp [h]
 ·simp [h]
  try omega
theorem impl_in (x lo hi : Int) : impl_within.f x lo hi = some (rng x lo hi) := by
 unfold impl_within.f rng
 by_cases h : x ≥ lo
 ·simp [h]
 ·simp [h]
  try omega
theorem bits_nat (op : BinOp) (k : IntKind) (x y : Int) : Go.bits op k x y = match op with
 | .and => k.wrap ((BitVec.ofInt k.bits x &&& BitVec.ofInt k.bits y).toNat : Int)
 | .or => k.wrap ((BitVec.ofInt k.bits x ||| BitVec.ofInt k.bits y).toNat : Int)
 | .xor => k.wrap ((BitVec.ofInt k.bits x ^^^ BitVec.ofInt k.bits y).toNat : Int)
 | .andNot => k.wrap ((BitVec.ofInt k.bits x &&& ~~~BitVec.ofInt k.bits y).toNat : Int)
 | _ => Go.bits op k x y := by
 cases op <;> rfl
theorem ofInt_nat32 (n : Nat) (h : n < 4294967296) : (BitVec.ofInt 32 (n : Int)).toNat = n := by
 rw [BitVec.toNat_ofInt]; omega
theorem ofInt_nat64 (n : Nat) (h : n < 18446744073709551616) : (BitVec.ofInt 64 (n : Int)).toNat = n := by
 rw [BitVec.toNat_ofInt]; omega
theorem wrap_u32 (x : Int) : IntKind.wrap .u32 x = x % 4294967296 := rfl
theorem wrap_i64 (x : Int) : IntKind.wrap .i64 x = wrap64 x := i64_w x
theorem xor_u32_rng (x y : Int) : 0 ≤ Go.bits .xor .u32 x y ∧ Go.bits .xor .u32 x y < 4294967296 := by
 rw [bits_nat]
 show 0 ≤ IntKind.wrap .u32 _ ∧ IntKind.wrap .u32 _ < _
 rw [wrap_u32]
 omega
theorem and_u32_one (x : Int) (h0 : 0 ≤ x) (h1 : x < 4294967296) : Go.bits .and .u32 x 1 = x % 2 := by
 rw [bits_nat]
 show IntKind.wrap .u32 ((BitVec.ofInt 32 x &&& BitVec.ofInt 32 ((1 : Nat) : Int)).toNat : Int) = _
 obtain ⟨n, rfl⟩ := Int.eq_ofNat_of_zero_le h0
 rw [BitVec.toNat_and, ofInt_nat32 n (by omega), ofInt_nat32 1 (by omega), Nat.and_one_is_mod, wrap_u32]
 omega
theorem var_byte (x : Int) (h0 : 0 ≤ x) (h1 : x ≤ 1000000000) : (Go.bits .or .i64 (Go.bits .and .i64 x 127) 128) % 256 = x % 128 + 128 := by
 obtain ⟨n, rfl⟩ := Int.eq_ofNat_of_zero_le h0
 have e1 : Go.bits .and .i64 (n : Int) 127 = ((n % 128 : Nat) : Int) := by
  rw [bits_nat]
  show IntKind.wrap .i64 ((BitVec.ofInt 64 (n : Int) &&& BitVec.ofInt 64 ((127 : Nat) : Int)).toNat : Int) = _
  rw [BitVec.toNat_and, ofInt_nat64 n (by omega), ofInt_nat64 127 (by omega), wrap_i64]
  have : n &&& 127 = n % 128 := Nat.and_two_pow_sub_one_eq_mod n 7
  rw [this, w64 (by omega) (by omega)]
 rw [e1, bits_nat]
 show IntKind.wrap .i64 ((BitVec.ofInt 64 ((n % 128 : Nat) : Int) ||| BitVec.ofInt 64 ((128 : Nat) : Int)).toNat : Int) % 256 = _
 rw [BitVec.toNat_or, ofInt_nat64 (n % 128) (by omega), ofInt_nat64 128 (by omega), wrap_i64]
 have h : ∀ m : Fin 128, (m.val ||| 128) = m.val + 128 := by decide
 have hm := h ⟨n % 128, by omega⟩
 have e2 : (n % 128 ||| 128) = n % 128 + 128 := hm
 rw [e2, w64 (by omega) (by omega)]
 omega
def varL (n : Nat) : List Int := if h : n ≤ 127 then [(n : Int)] else ((n % 128 + 128 : Nat) : Int) :: varL (n / 128)
 termination_by n
 decreasing_by omega
theorem varL_small (n : Nat) (h : n ≤ 127) : varL n = [(n : Int)] := by rw [varL, dif_pos h]
theorem varL_big (n : Nat) (h : 127 < n) : varL n = ((n % 128 + 128 : Nat) : Int) :: varL (n / 128) := by rw [varL, dif_neg (by omega)]
theorem varL_len (n : Nat) (h : n ≤ 1000000000) : (varL n).length ≤ 5 := by
 have key : ∀ (j n : Nat), n < 128 ^ (j + 1) → (varL n).length ≤ j + 1 := by
  intro j
  induction j with
  | zero => intro n h; rw [varL_small n (by omega)]; simp
  | succ j ih =>
   intro n h
   by_cases hn : n ≤ 127
   ·rw [varL_small n hn]; simp
   ·rw [varL_big n (by omega), List.length_cons]
    have := ih (n / 128) (by rw [Nat.pow_succ] at h; omega)
    omega
 exact key 4 n (by omega)
def varS (n : Int) : ByteArray := strOfNums (varL n.toNat)
theorem varS_size (n : Int) (h : n ≤ 1000000000) : (varS n).size ≤ 5 := by
 unfold varS; rw [strOfNums_size]; exact varL_len _ (by omega)
theorem ev_spec_l01Var (n : Int) (h0 : 0 ≤ n) (h1 : n ≤ 1000000000) : Ev (fun k => spec_l01Var.f k n) (varS n) := by
 have key : ∀ (m : Nat) (acc : List Int), m ≤ 1000000000 → acc.length + m ≤ 2000000000 → Ev (fun k => spec_l01Var.l0 k (m : Int) acc) (strOfNums (acc ++ varL m)) := by
  intro m
  induction m using Nat.strongRecOn with
  | ind m ih =>
   intro acc hm ha
   refine evSucc ?_
   simp only [spec_l01Var.l0]
   have e : Int.tdiv (m : Int) 128 = ((m / 128 : Nat) : Int) := by rw [Int.tdiv_eq_ediv_of_nonneg (by omega)]; omega
   have e2 : Int.tmod (m : Int) 128 = ((m % 128 : Nat) : Int) := by rw [Int.tmod_eq_emod_of_nonneg (by omega)]; omega
   by_cases hb : m ≤ 127
   ·refine evNeg (by omega) (evPos (by omega) ?_)
    rw [varL_small m hb, show (m : Int) % 256 = m by omega]
    exact Ev.now _
   ·refine evPos (by omega) (evPos (by omega) ?_)
    rw [e, e2, w64 (by omega) (by omega), w64 (by omega) (by omega), varL_big m (by omega)]
    have := ih (m / 128) (by omega) (acc ++ [((m % 128 + 128 : Nat) : Int)]) (by omega) (by simp; omega)
    rw [List.append_assoc] at this
    rw [show (((m % 128 : Nat) : Int) + 128) % 256 = ((m % 128 + 128 : Nat) : Int) by omega]
    exact this
 have := key n.toNat [] (by omega) (by simp; omega)
 rw [Int.toNat_of_nonneg h0] at this
 exact this
theorem ev_impl_VarText (n : Int) : Ev (fun k => impl_VarText.f k n) (if rng n 0 1000000000 = true then (varS n, true) else (⟨#[]⟩, false)) := by
 simp only [impl_VarText.f, impl_in, Option.bind_some]
 refine evIte (fun h => ?_) (fun h => Ev.now _)
 have hr : 0 ≤ n ∧ n ≤ 1000000000 := by unfold rng at h; simpa using h
 have key : ∀ (m : Nat) (acc : List Int), m ≤ 1000000000 → acc.length + m ≤ 2000000000 → Ev (fun k => impl_VarText.l0 k (m : Int) acc) (strOfNums (acc ++ varL m), true) := by
  intro m
  induction m using Nat.strongRecOn with
  | ind m ih =>
   intro acc hm ha
   refine evSucc ?_
   simp only [impl_VarText.l0]
   by_cases hb : m ≤ 127
   ·refine evNeg (by omega) (evPos (by omega) ?_)
    rw [varL_small m hb, show (m : Int) % 256 = m by omega]
    exact Ev.now _
   ·refine evPos (by omega) (evPos (by omega) ?_)
    rw [var_byte m (by omega) (by omega), varL_big m (by omega)]
    have := ih (m / 128) (by omega) (acc ++ [((m % 128 + 128 : Nat) : Int)]) (by omega) (by simp; omega)
    rw [List.append_assoc] at this
    rw [show (m : Int) / 128 = ((m / 128 : Nat) : Int) by omega, show (m : Int) % 128 + 128 = ((m % 128 + 128 : Nat) : Int) by omega]
    exact this
 have := key n.toNat [] (by omega) (by simp; omega)
 rw [Int.toNat_of_nonneg hr.1] at this
 exact this
theorem ev_impl_VarText_ok (n : Int) (h0 : 0 ≤ n) (h1 : n ≤ 1000000000) : Ev (fun k => impl_VarText.f k n) (varS n, true) :=
 evEq (ev_impl_VarText n) (if_pos (by unfold rng; simp [h0, h1]))
def itemB (a b c d : Int) : Bool := if a = 1 then rng b 0 4294967295 && (rng c 0 4294967295 && d == 0) else if a = 2 then rng d 1 1000000000 && (b == 0 && c == 0) else false
theorem spec_itemB (a b c d : Int) : spec_ItemOk.f a b c d = some (itemB a b c d) := by
 unfold spec_ItemOk.f itemB
 simp only [spec_HalfOk.f, spec_in, Option.bind_some]
 by_cases h1 : a = 1
 ·rw [if_pos h1, if_pos h1]
  cases rng b 0 4294967295 <;> cases rng c 0 4294967295 <;> simp
 ·rw [if_neg h1, if_neg h1]
  by_cases h2 : a = 2
  ·rw [if_pos h2, if_pos h2]
   by_cases hb : b = 0
   ·cases rng d 1 1000000000 <;> simp [hb]
   ·cases rng d 1 1000000000 <;> simp [hb]
  ·rw [if_neg h2, if_neg h2]
theorem impl_itemB (a b c d : Int) : impl_ItemOk.f a b c d = some (itemB a b c d) := by
 unfold impl_ItemOk.f itemB
 simp only [impl_HalfOk.f, impl_in, Option.bind_some]
 by_cases h1 : a = 1
 ·rw [if_pos h1, if_pos h1]
  cases rng b 0 4294967295 <;> cases rng c 0 4294967295 <;> simp
 ·rw [if_neg h1, if_neg h1]
  by_cases h2 : a = 2
  ·rw [if_pos h2, if_pos h2]
   by_cases hb : b = 0
   ·cases rng d 1 1000000000 <;> simp [hb]
   ·cases rng d 1 1000000000 <;> simp [hb]
  ·rw [if_neg h2, if_neg h2]
def frameB (a b c d e f g : Int) : Bool := rng b 0 2 && (rng c 1 1000000000 && (if a = 1 then itemB d e f g else if a = 2 then (d == 0 && (e == 0 && (f == 0 && (g == 0)))) else false))
theorem ev_spec_FrameOk (a b c d e f g : Int) : Ev (fun k => spec_FrameOk.f k a b c d e f g) (frameB a b c d e f g) := by
 simp only [spec_FrameOk.f, spec_in, Option.bind_some]
 unfold frameB
 cases rng b 0 2
 ·refine evNeg (by simp) (evSucc ?_)
  simp only [spec_FrameOk.j0, Bool.false_and]
  exact evPos (by simp) (Ev.now _)
 ·refine evPos rfl (evSucc ?_)
  simp only [spec_FrameOk.j0, spec_itemB, Option.bind_some, Bool.true_and]
  cases rng c 1 1000000000
  ·exact evPos (by decide) (Ev.now _)
  ·refine evNeg (by simp) ?_
   simp only [Bool.true_and]
   exact evIte (fun _ => Ev.now _) (fun _ => evIte (fun _ => Ev.now _) (fun _ => Ev.now _))
theorem ev_impl_FrameOk (a b c d e f g : Int) : Ev (fun k => impl_FrameOk.f k a b c d e f g) (frameB a b c d e f g) := by
 simp only [impl_FrameOk.f, impl_isPid.f, impl_in, Option.bind_some]
 unfold frameB
 cases rng b 0 2
 ·refine evNeg (by simp) (evSucc ?_)
  simp only [impl_FrameOk.j0, Bool.false_and]
  exact evPos (by simp) (Ev.now _)
 ·refine evPos rfl (evSucc ?_)
  simp only [impl_FrameOk.j0, impl_itemB, Option.bind_some, Bool.true_and]
  cases rng c 1 1000000000
  ·exact evPos (by decide) (Ev.now _)
  ·refine evNeg (by simp) ?_
   simp only [Bool.true_and]
   exact evIte (fun _ => Ev.now _) (fun _ => evIte (fun _ => Ev.now _) (fun _ => Ev.now _))
theorem itemB_count {a b c d : Int} (h : itemB a b c d = true) : 0 ≤ d ∧ d ≤ 1000000000 := by
 unfold itemB rng at h
 split at h
 ·simp at h; omega
 ·split at h
  ·simp at h; omega
  ·simp at h
theorem frameB_facts {a b c d e f g : Int} (h : frameB a b c d e f g = true) : (0 ≤ b ∧ b ≤ 2) ∧ (1 ≤ c ∧ c ≤ 1000000000) ∧ (0 ≤ g ∧ g ≤ 1000000000) ∧ (a = 1 ∨ a = 2) := by
 unfold frameB at h
 simp only [Bool.and_eq_true] at h
 obtain ⟨h1, h2, h3⟩ := h
 unfold rng at h1 h2
 simp at h1 h2
 refine ⟨h1, h2, ?_⟩
 split at h3
 ·rename_i ha
  exact ⟨itemB_count h3, Or.inl ha⟩
 ·split at h3
  ·rename_i ha
   simp at h3
   exact ⟨by omega, Or.inr ha⟩
  ·simp at h3
def sumBit (x : Int) : Int := if x % 2 = 1 then Go.bits .xor .u32 (x / 2) 3558460437 else x / 2
def sumByte (x b : Int) : Int := sumBit (sumBit (sumBit (sumBit (sumBit (sumBit (sumBit (sumBit (Go.bits .xor .u32 x b))))))))
def sumAll (x : Int) (s : ByteArray) : Nat → Int
 | 0 => x
 | i + 1 => sumByte (sumAll x s i) (bt s i)
theorem sumBit_rng (x : Int) (h : 0 ≤ x ∧ x < 4294967296) : 0 ≤ sumBit x ∧ sumBit x < 4294967296 := by
 unfold sumBit
 split
 ·exact xor_u32_rng _ _
 ·omega
theorem sumByte_rng (x b : Int) : 0 ≤ sumByte x b ∧ sumByte x b < 4294967296 := by
 unfold sumByte
 repeat (first | exact xor_u32_rng _ _ | apply sumBit_rng)
theorem sumAll_rng (x : Int) (s : ByteArray) (h : 0 ≤ x ∧ x < 4294967296) : ∀ i, 0 ≤ sumAll x s i ∧ sumAll x s i < 4294967296
 | 0 => h
 | _ + 1 => sumByte_rng _ _
theorem sum_impl_step (x : Int) (s : ByteArray) (i j r : Int) (h : 0 ≤ x ∧ x < 4294967296) (hj : j < 8 ∧ 0 ≤ j) (next : Ev (fun k => impl_SumMore.l1 k (sumBit x) s i (j + 1)) r) : Ev (fun k => impl_SumMore.l1 k x s i j) r := by
 refine evSucc ?_
 simp only [impl_SumMore.l1]
 refine evPos hj.1 ?_
 rw [and_u32_one x h.1 h.2, w64 (by omega) (by omega)]
 unfold sumBit at next
 by_cases hx : x % 2 = 1
 ·rw [if_pos hx] at next; exact evPos hx next
 ·rw [if_neg hx] at next; exact evNeg hx next
theorem sum_spec_step (x : Int) (s : ByteArray) (i j r : Int) (h : 0 ≤ x ∧ x < 4294967296) (hj : j < 8 ∧ 0 ≤ j) (next : Ev (fun k => spec_SumMore.l1 k (sumBit x) s i (j + 1)) r) : Ev (fun k => spec_SumMore.l1 k x s i j) r := by
 refine evSucc ?_
 simp only [spec_SumMore.l1]
 refine evPos hj.1 ?_
 rw [Int.tmod_eq_emod_of_nonneg h.1, Int.tdiv_eq_ediv_of_nonneg h.1, w64 (by omega) (by omega), show x / 2 % 4294967296 = x / 2 by omega]
 unfold sumBit at next
 by_cases hx : x % 2 = 1
 ·rw [if_pos hx] at next; exact evPos hx next
 ·rw [if_neg hx] at next; exact evNeg hx next
theorem ev_impl_SumMore (x : Int) (s : ByteArray) (h : 0 ≤ x ∧ x < 4294967296) (hs : s.size ≤ 140737488351232) : Ev (fun k => impl_SumMore.f k x s) (sumAll x s s.size) := by
 have key := evUp (r := sumAll x s s.size) s.size (fun i k => impl_SumMore.l0 k (sumAll x s i) s (i : Int)) ?_ ?_
 ·exact key
 ·intro i hi ih
  refine evSucc ?_
  simp only [impl_SumMore.l0]
  have hb := bt_range s (i : Int)
  refine evPos (by omega) (evPos (by omega) ?_)
  rw [show bt s (i : Int) % 4294967296 = bt s (i : Int) by omega]
  iterate 8 (refine sum_impl_step _ _ _ _ _ (by repeat (first | exact xor_u32_rng _ _ | apply sumBit_rng)) (by decide) ?_)
  refine evSucc ?_
  simp only [impl_SumMore.l1]
  refine evNeg (by decide) ?_
  rw [w64 (by omega) (by omega), ci]
  exact ih
 ·refine evSucc ?_
  simp only [impl_SumMore.l0]
  exact evNeg (by omega) (Ev.now _)
theorem ev_spec_SumMore (x : Int) (s : ByteArray) (h : 0 ≤ x ∧ x < 4294967296) (hs : s.size ≤ 140737488351232) : Ev (fun k => spec_SumMore.f k x s) (sumAll x s s.size) := by
 have key := evUp (r := sumAll x s s.size) s.size (fun i k => spec_SumMore.l0 k (sumAll x s i) s (i : Int)) ?_ ?_
 ·exact key
 ·intro i hi ih
  refine evSucc ?_
  simp only [spec_SumMore.l0]
  have hb := bt_range s (i : Int)
  refine evPos (by omega) (evPos (by omega) ?_)
  rw [show bt s (i : Int) % 4294967296 = bt s (i : Int) by omega]
  iterate 8 (refine sum_spec_step _ _ _ _ _ (by repeat (first | exact xor_u32_rng _ _ | apply sumBit_rng)) (by decide) ?_)
  refine evSucc ?_
  simp only [spec_SumMore.l1]
  refine evNeg (by decide) ?_
  rw [w64 (by omega) (by omega), ci]
  exact ih
 ·refine evSucc ?_
  simp only [spec_SumMore.l0]
  exact evNeg (by omega) (Ev.now _)
def sumS (s : ByteArray) : Int := sumAll 4294967295 s s.size
theorem sumS_rng (s : ByteArray) : 0 ≤ sumS s ∧ sumS s < 4294967296 := sumAll_rng _ _ (by omega) _
def four4 (n : Int) : ByteArray := strOfNums [(n / 16777216) % 256, (n / 65536) % 256, (n / 256) % 256, n % 256]
theorem four4_size (n : Int) : (four4 n).size = 4 := by simp [four4, strOfNums_size]
theorem impl_four4 (n : Int) : impl_four.f n = some (four4 n) := rfl
theorem spec_four4 (n : Int) : spec_l06Four.f n = some (four4 n) := rfl
theorem spec_four2 (n : Int) : spec_l02Four.f n = some (four4 n) := rfl
def sealB (s : ByteArray) : ByteArray × Bool := if s.size ≤ 20000 then (s ++ four4 (sumS s), true) else (⟨#[]⟩, false)
theorem ev_impl_Sealed (s : ByteArray) (hs : s.size ≤ 140737488351232) : Ev (fun k => impl_Sealed.f k s) (sealB s) := by
 simp only [impl_Sealed.f, impl_SumOf.f]
 unfold sealB
 by_cases h : s.size ≤ 20000
 ·have hr := sumS_rng s
  rw [if_pos h]
  refine evNeg (by omega) (Ev.bind (Ev.bind (ev_impl_SumMore _ s (by omega) hs) (Ev.now _)) ?_)
  rw [show sumAll 4294967295 s s.size = sumS s from rfl, w64 (by omega) (by omega)]
  simp only [impl_four4, Option.bind_some]
  exact evPos (by rw [four4_size]; omega) (Ev.now _)
 ·rw [if_neg h]
  exact evPos (by omega) (Ev.now _)
theorem ev_spec_Sealed (s : ByteArray) (hs : s.size ≤ 140737488351232) : Ev (fun k => spec_Sealed.f k s) (sealB s) := by
 simp only [spec_Sealed.f, spec_SumOf.f]
 unfold sealB
 by_cases h : s.size ≤ 20000
 ·rw [if_pos h]
  refine evNeg (by omega) (Ev.bind (Ev.bind (ev_spec_SumMore _ s (by omega) hs) (Ev.now _)) ?_)
  rw [show sumAll 4294967295 s s.size = sumS s from rfl]
  simp only [spec_four2, Option.bind_some]
  exact evPos (by rw [four4_size]; omega) (Ev.now _)
 ·rw [if_neg h]
  exact evPos (by omega) (Ev.now _)
def frameRaw (a b c d e f g : Int) : ByteArray := ((((strOfNums [a % 256, b % 256] ++ varS c) ++ strOfNums [d % 256]) ++ four4 e) ++ four4 f) ++ varS g
theorem frameRaw_size {a b c d e f g : Int} (hc : c ≤ 1000000000) (hg : g ≤ 1000000000) : (frameRaw a b c d e f g).size ≤ 21 := by
 have h1 := varS_size c hc
 have h2 := varS_size g hg
 unfold frameRaw
 simp only [sizeApp, strOfNums_size, four4_size, List.length_cons, List.length_nil]
 omega
def frameS (a b c d e f g : Int) : ByteArray × Bool := if frameB a b c d e f g = true then (frameRaw a b c d e f g ++ four4 (sumS (frameRaw a b c d e f g)), true) else (⟨#[]⟩, false)
theorem frameS_size (a b c d e f g : Int) : (frameS a b c d e f g).1.size ≤ 25 := by
 unfold frameS
 split
 ·rename_i h
  obtain ⟨_, ⟨_, h2⟩, ⟨_, h3⟩, _⟩ := frameB_facts h
  have := frameRaw_size (a := a) (b := b) (d := d) (e := e) (f := f) h2 h3
  rw [sizeApp, four4_size]
  omega
 ·decide
theorem ev_spec_FrameText (a b c d e f g : Int) : Ev (fun k => spec_FrameText.f k a b c d e f g) (frameS a b c d e f g) := by
 simp only [spec_FrameText.f]
 refine Ev.bind (ev_spec_FrameOk a b c d e f g) ?_
 unfold frameS
 by_cases h : frameB a b c d e f g = true
 ·obtain ⟨_, hc, hg, _⟩ := frameB_facts h
  have s1 := varS_size c hc.2
  have s2 := varS_size g hg.2
  have hr := frameRaw_size (a := a) (b := b) (d := d) (e := e) (f := f) hc.2 hg.2
  have hsz2 (x y : Int) : (strOfNums [x, y]).size = 2 := by rw [strOfNums_size]; rfl
  have hsz1 (x : Int) : (strOfNums [x]).size = 1 := by rw [strOfNums_size]; rfl
  rw [if_pos h]
  refine evPos h ?_
  simp only [Option.bind_some, spec_four4]
  refine Ev.bind (ev_spec_l01Var c (by omega) hc.2) (evPos (by rw [hsz2]; omega) (evPos (by simp only [sizeApp, hsz2, hsz1]; omega) (evPos (by simp only [sizeApp, hsz2, hsz1, four4_size]; omega) (evPos (by simp only [sizeApp, hsz2, hsz1, four4_size]; omega) ?_))))
  refine Ev.bind (ev_spec_l01Var g (by omega) hg.2) (evPos (by simp only [sizeApp, hsz2, hsz1, four4_size]; omega) ?_)
  refine Ev.bind (ev_spec_Sealed (frameRaw a b c d e f g) (by omega)) (evEq (Ev.now _) ?_)
  unfold sealB
  rw [if_pos (by omega)]
 ·rw [if_neg h]
  exact evNeg h (Ev.now _)
theorem ev_impl_FrameText (a b c d e f g : Int) : Ev (fun k => impl_FrameText.f k a b c d e f g) (frameS a b c d e f g) := by
 simp only [impl_FrameText.f]
 refine Ev.bind (ev_impl_FrameOk a b c d e f g) ?_
 unfold frameS
 by_cases h : frameB a b c d e f g = true
 ·obtain ⟨_, hc, hg, _⟩ := frameB_facts h
  have s1 := varS_size c hc.2
  have s2 := varS_size g hg.2
  have hr := frameRaw_size (a := a) (b := b) (d := d) (e := e) (f := f) hc.2 hg.2
  have hsz2 (x y : Int) : (strOfNums [x, y]).size = 2 := by rw [strOfNums_size]; rfl
  have hsz1 (x : Int) : (strOfNums [x]).size = 1 := by rw [strOfNums_size]; rfl
  rw [if_pos h]
  refine evPos h ?_
  refine Ev.bind (ev_impl_VarText_ok c (by omega) hc.2) (Ev.bind (ev_impl_VarText_ok g (by omega) hg.2) ?_)
  simp only [Option.bind_some, impl_four4]
  refine evPos (by rw [hsz2]; omega) (evPos (by simp only [sizeApp, hsz2, hsz1]; omega) (evPos (by simp only [sizeApp, hsz2, hsz1, four4_size]; omega) (evPos (by simp only [sizeApp, hsz2, hsz1, four4_size]; omega) (evPos (by simp only [sizeApp, hsz2, hsz1, four4_size]; omega) ?_))))
  refine Ev.bind (ev_impl_Sealed (frameRaw a b c d e f g) (by omega)) (evEq (Ev.now _) ?_)
  unfold sealB
  rw [if_pos (by omega)]
 ·rw [if_neg h]
  exact evNeg h (Ev.now _)
def entryS (b c d e f g : Int) : ByteArray := (frameS 1 b c d e f g).1
theorem entryS_size (b c d e f g : Int) : (entryS b c d e f g).size ≤ 25 := frameS_size 1 b c d e f g
theorem ev_spec_EntryText (b c d e f g : Int) : Ev (fun k => spec_EntryText.f k b c d e f g) (entryS b c d e f g) := by
 simp only [spec_EntryText.f]
 exact Ev.bind (ev_spec_FrameText 1 b c d e f g) (Ev.now _)
theorem ev_impl_EntryText (b c d e f g : Int) : Ev (fun k => impl_EntryText.f k b c d e f g) (entryS b c d e f g) := by
 simp only [impl_EntryText.f]
 exact Ev.bind (ev_impl_FrameText 1 b c d e f g) (Ev.now _)
open DigestEq (dig dig_spec dig_impl)
theorem dig_size (s : ByteArray) : (dig s).size = 32 := by
 unfold DigestEq.dig
 rw [strOfNums_size, PH.f4_len, PH.hs_len]
def entryT (x : S70) : ByteArray := entryS x.f0 x.f1 x.f2.f0 x.f2.f1 x.f2.f2 x.f2.f3
theorem entryT_size (x : S70) : (entryT x).size ≤ 25 := entryS_size _ _ _ _ _ _
def headStep (h : ByteArray) (x : S70) : ByteArray := dig (h ++ entryT x)
def headS (h : ByteArray) (l : List S70) : ByteArray := l.foldl headStep h
theorem headS_size (h : ByteArray) (l : List S70) : (headS h l).size ≤ h.size + 32 := by
 rcases List.eq_nil_or_concat l with rfl | ⟨l', x, rfl⟩
 ·exact Nat.le_add_right _ _
 ·unfold headS
  rw [List.concat_eq_append, List.foldl_append]
  show (dig _).size ≤ _
  rw [dig_size]; omega
theorem headS_step (h : ByteArray) (l : List S70) (i : Nat) (hi : i < l.length) : headS h (l.take (i + 1)) = dig (headS h (l.take i) ++ entryT l[i]) := by
 unfold headS
 rw [takeSnoc l i hi, List.foldl_append]
 rfl
theorem ev_spec_HeadFrom (h : ByteArray) (l : List S70) (hh : h.size ≤ 16777216) (hl : l.length ≤ 16777216) : Ev (fun k => spec_HeadFrom.f k h l) (headS h l) := by
 have key := evUp (r := headS h l) l.length (fun i k => spec_HeadFrom.l0 k l (headS h (l.take i)) (i : Int)) ?_ ?_
 ·exact key
 ·intro i hi ih
  refine evSucc ?_
  simp only [spec_HeadFrom.l0]
  have hs := headS_size h (l.take i)
  have he := entryT_size l[i]
  rw [rdE l i hi, w64 (by omega) (by omega), ci]
  refine evPos (by omega) (evPos (by omega) (Ev.bind (ev_spec_EntryText _ _ _ _ _ _) (evPos ?_ ?_)))
  ·show _ + (entryT l[i]).size ≤ _
   omega
  refine evBindS (dig_spec _ (by rw [sizeApp]; show _ + (entryT l[i]).size ≤ _; omega)) ?_
  rw [headS_step h l i hi] at ih
  exact ih
 ·refine evSucc ?_
  simp only [spec_HeadFrom.l0]
  refine evNeg (by omega) ?_
  rw [List.take_length]
  exact Ev.now _
theorem ev_impl_HeadFrom (h : ByteArray) (l : List S70) (hh : h.size ≤ 16777216) (hl : l.length ≤ 16777216) : Ev (fun k => impl_HeadFrom.f k h l) (headS h l) := by
 have key := evUp (r := headS h l) l.length (fun i k => impl_HeadFrom.l0 k (headS h (l.take i)) l (l.length : Int) (i : Int)) ?_ ?_
 ·exact key
 ·intro i hi ih
  refine evSucc ?_
  simp only [impl_HeadFrom.l0]
  have hs := headS_size h (l.take i)
  have he := entryT_size l[i]
  rw [rdE l i hi, w64 (by omega) (by omega), ci]
  refine evPos (by omega) (evPos (by omega) (evPos (by omega) (Ev.bind (ev_impl_EntryText _ _ _ _ _ _) (evPos ?_ ?_))))
  ·show _ + (entryT l[i]).size ≤ _
   omega
  refine Ev.bind (dig_impl _ (by rw [sizeApp]; show _ + (entryT l[i]).size ≤ _; omega)) ?_
  rw [headS_step h l i hi] at ih
  exact ih
 ·refine evSucc ?_
  simp only [impl_HeadFrom.l0]
  refine evNeg (by omega) ?_
  rw [List.take_length]
  exact Ev.now _
theorem evUpP {α : Type} {r : α} (n : Nat) (P : Nat → Prop) (g : Nat → Nat → Option α) (h0 : P 0) (step : ∀ i, i < n → P i → (P (i + 1) → Ev (g (i + 1)) r) → Ev (g i) r) (last : P n → Ev (g n) r) : Ev (g 0) r := by
 have key : ∀ d i, i + d = n → P i → Ev (g i) r := by
  intro d
  induction d with
  | zero => intro i hi hp; rw [show i = n by omega] at hp ⊢; exact last hp
  | succ d ih => intro i hi hp; exact step i (by omega) hp (fun hp' => ih (i + 1) (by omega) hp')
 exact key n 0 (by omega) h0
def okE (x : S70) : Bool := frameB 1 x.f0 x.f1 x.f2.f0 x.f2.f1 x.f2.f2 x.f2.f3
theorem entryT_no (x : S70) (h : okE x = false) : entryT x = ⟨#[]⟩ := by
 unfold okE at h
 unfold entryT entryS frameS
 rw [h]
 rfl
theorem entryT_yes (x : S70) (h : okE x = true) : 4 ≤ (entryT x).size := by
 unfold okE at h
 unfold entryT entryS frameS
 rw [if_pos h]
 show 4 ≤ (_ ++ four4 _).size
 rw [sizeApp, four4_size]
 omega
theorem entryT_nil (x : S70) : (entryT x).toList = ([] : List UInt8) ↔ okE x = false := by
 rw [toList_nil]
 constructor
 ·intro h
  cases hx : okE x
  ·rfl
  ·have := entryT_yes x hx
   omega
 ·intro h
  rw [entryT_no x h]
  rfl
theorem allSnoc (l : List S70) (i : Nat) (hi : i < l.length) : (l.take (i + 1)).all okE = ((l.take i).all okE && okE l[i]) := by
 rw [takeSnoc l i hi, List.all_append]
 simp
theorem notAll (l : List S70) (i : Nat) (hi : i < l.length) (ho : okE l[i] = false) : ¬ l.all okE = true := fun z => by
 rw [List.all_eq_true] at z
 have := z _ (List.getElem_mem hi)
 rw [ho] at this
 cases this
def segB (a : Int) (b : ByteArray) (l : List S70) (d : ByteArray) : Bool :=
 if 0 ≤ a ∧ a ≤ 200 ∧ b.size = 32 ∧ 1 ≤ l.length ∧ l.length ≤ 200 ∧ l.all okE = true then d.toList == (headS b l).toList else false
theorem ev_spec_SegmentOk (a : Int) (b : ByteArray) (l : List S70) (d : ByteArray) : Ev (fun k => spec_SegmentOk.f k a b l d) (segB a b l d) := by
 have no : ∀ x, x = false → Ev (fun k => spec_SegmentOk.j0 k true a b l d) x := fun x hx => by
  subst hx
  refine evSucc ?_
  simp only [spec_SegmentOk.j0]
  exact evPos (by simp) (Ev.now _)
 simp only [spec_SegmentOk.f, spec_in, Option.bind_some]
 by_cases h1 : 0 ≤ a ∧ a ≤ 200
 ·rw [show rng a 0 200 = true by unfold rng; simp [h1]]
  refine evPos rfl ?_
  by_cases h2 : b.size = 32
  ·refine evPos (by omega) ?_
   by_cases h3 : 1 ≤ l.length ∧ l.length ≤ 200
   ·rw [show rng (l.length : Int) 1 200 = true by unfold rng; simp; omega]
    refine evSucc ?_
    simp only [spec_SegmentOk.j0]
    refine evNeg (by simp) ?_
    refine evUpP l.length (fun i => (l.take i).all okE = true) (fun i k => spec_SegmentOk.l0 k (i : Int) a b l d) rfl ?_ ?_
    ·intro i hi hp ih
     refine evSucc ?_
     simp only [spec_SegmentOk.l0]
     rw [rdE l i hi, w64 (by omega) (by omega), ci]
     refine evPos (by omega) (evPos (by omega) (Ev.bind (ev_spec_EntryText _ _ _ _ _ _) ?_))
     show Ev (fun k => if (entryT l[i]).toList = ([] : List UInt8) then _ else _) _
     cases ho : okE l[i]
     ·refine evPos ((entryT_nil _).2 ho) (evEq (Ev.now _) ?_)
      unfold segB
      rw [if_neg (fun z => notAll l i hi ho z.2.2.2.2.2)]
     ·exact evNeg (fun z => by rw [(entryT_nil _).1 z] at ho; cases ho) (ih (by rw [allSnoc l i hi, hp, ho]; rfl))
    ·intro hp
     refine evSucc ?_
     simp only [spec_SegmentOk.l0]
     rw [List.take_length] at hp
     unfold segB
     rw [if_pos ⟨h1.1, h1.2, h2, h3.1, h3.2, hp⟩]
     exact evNeg (by omega) (Ev.bind (ev_spec_HeadFrom b l (by omega) (by omega)) (Ev.now _))
   ·rw [show rng (l.length : Int) 1 200 = false by unfold rng; simp; omega]
    exact no _ (by unfold segB; rw [if_neg (by omega)])
  ·exact evNeg (by omega) (no _ (by unfold segB; rw [if_neg (fun z => h2 z.2.2.1)]))
 ·rw [show rng a 0 200 = false by unfold rng; simp; omega]
  exact evNeg (by simp) (no _ (by unfold segB; rw [if_neg (fun z => h1 ⟨z.1, z.2.1⟩)]))
theorem ev_impl_SegmentOk (a : Int) (b : ByteArray) (l : List S70) (d : ByteArray) : Ev (fun k => impl_SegmentOk.f k a b l d) (segB a b l d) := by
 have no : ∀ x, x = false → Ev (fun k => impl_SegmentOk.j0 k true a b l d) x := fun x hx => by
  subst hx
  refine evSucc ?_
  simp only [impl_SegmentOk.j0]
  exact evPos (by simp) (Ev.now _)
 simp only [impl_SegmentOk.f, impl_in, Option.bind_some]
 by_cases h1 : 0 ≤ a ∧ a ≤ 200
 ·rw [show rng a 0 200 = true by unfold rng; simp [h1]]
  refine evPos rfl ?_
  by_cases h2 : b.size = 32
  ·refine evPos (by omega) ?_
   by_cases h3 : 1 ≤ l.length ∧ l.length ≤ 200
   ·rw [show rng (l.length : Int) 1 200 = true by unfold rng; simp; omega]
    refine evSucc ?_
    simp only [impl_SegmentOk.j0]
    refine evNeg (by simp) ?_
    refine evUpP l.length (fun i => (l.take i).all okE = true) (fun i k => impl_SegmentOk.l0 k l (l.length : Int) (i : Int) a b l d) rfl ?_ ?_
    ·intro i hi hp ih
     refine evSucc ?_
     simp only [impl_SegmentOk.l0]
     rw [rdE l i hi, w64 (by omega) (by omega), ci]
     refine evPos (by omega) (evPos (by omega) (evPos (by omega) (Ev.bind (ev_impl_EntryText _ _ _ _ _ _) ?_)))
     show Ev (fun k => if (entryT l[i]).toList = ([] : List UInt8) then _ else _) _
     cases ho : okE l[i]
     ·refine evPos ((entryT_nil _).2 ho) (evEq (Ev.now _) ?_)
      unfold segB
      rw [if_neg (fun z => notAll l i hi ho z.2.2.2.2.2)]
     ·exact evNeg (fun z => by rw [(entryT_nil _).1 z] at ho; cases ho) (ih (by rw [allSnoc l i hi, hp, ho]; rfl))
    ·intro hp
     refine evSucc ?_
     simp only [impl_SegmentOk.l0]
     rw [List.take_length] at hp
     unfold segB
     rw [if_pos ⟨h1.1, h1.2, h2, h3.1, h3.2, hp⟩]
     exact evNeg (by omega) (Ev.bind (ev_impl_HeadFrom b l (by omega) (by omega)) (Ev.now _))
   ·rw [show rng (l.length : Int) 1 200 = false by unfold rng; simp; omega]
    exact no _ (by unfold segB; rw [if_neg (by omega)])
  ·exact evNeg (by omega) (no _ (by unfold segB; rw [if_neg (fun z => h2 z.2.2.1)]))
 ·rw [show rng a 0 200 = false by unfold rng; simp; omega]
  exact evNeg (by simp) (no _ (by unfold segB; rw [if_neg (fun z => h1 ⟨z.1, z.2.1⟩)]))
def joinGd : List S30 → List S70 → ByteArray → List S70 × Bool
 | [], out, _ => (out, true)
 | s :: r, out, h => if segB s.f0 s.f1 s.f2 s.f3 = true ∧ s.f0 = (out.length : Int) ∧ s.f1 = h then joinGd r (out ++ s.f2) s.f3 else ([], false)
theorem segB_lens {a : Int} {b : ByteArray} {l : List S70} {d : ByteArray} (h : segB a b l d = true) : a ≤ 200 ∧ l.length ≤ 200 := by
 unfold segB at h
 split at h
 ·rename_i hc
  exact ⟨hc.2.1, hc.2.2.2.2.1⟩
 ·simp at h
theorem joinGd_len : ∀ (r : List S30) (out : List S70) (h : ByteArray), out.length ≤ 400 → (joinGd r out h).1.length ≤ 400 := by
 intro r
 induction r with
 | nil => intro out h ho; exact ho
 | cons s r ih =>
  intro out h ho
  unfold joinGd
  split
  ·rename_i hc
   have := segB_lens hc.1
   refine ih _ _ ?_
   rw [List.length_append]; omega
  ·exact Nat.zero_le _
theorem rdSeg (l : List S30) (i : Nat) (hi : i < l.length) : rd_T30 l (i : Int) = l[i] := by simp [rd_T30, hi]
theorem ev_impl_join (l : List S30) (hl : l.length ≤ 9223372036854775807) : ∀ (d i : Nat) (out : List S70) (h : ByteArray), i + d = l.length → Ev (fun k => impl_JoinSegments.l0 k out h l (l.length : Int) (i : Int)) (joinGd (l.drop i) out h) := by
 intro d
 induction d with
 | zero =>
  intro i out h hi
  refine evSucc ?_
  simp only [impl_JoinSegments.l0]
  rw [List.drop_of_length_le (by omega)]
  exact evNeg (by omega) (Ev.now _)
 | succ d ih =>
  intro i out h hi
  have hlt : i < l.length := by omega
  refine evSucc ?_
  simp only [impl_JoinSegments.l0]
  rw [List.drop_eq_getElem_cons hlt, rdSeg l i hlt, w64 (x := (i : Int) + 1) (by omega) (by omega), ci]
  unfold joinGd
  refine evPos (by omega) (evPos (by omega) (evPos (by omega) (Ev.bind (ev_impl_SegmentOk _ _ _ _) ?_)))
  by_cases h1 : segB l[i].f0 l[i].f1 l[i].f2 l[i].f3 = true
  ·have hb := segB_lens h1
   refine evPos h1 ?_
   by_cases h2 : l[i].f0 = (out.length : Int)
   ·refine evPos h2 ?_
    by_cases h3 : l[i].f1 = h
    ·rw [if_pos ⟨h1, h2, h3⟩]
     exact evPos (toList_iff.2 h3) (evPos (by omega) (ih (i + 1) _ _ (by omega)))
    ·rw [if_neg (fun z => h3 z.2.2)]
     exact evNeg (fun z => h3 (toList_inj z)) (Ev.now _)
   ·rw [if_neg (fun z => h2 z.2.1)]
    exact evNeg h2 (Ev.now _)
  ·rw [if_neg (fun z => h1 z.1)]
   exact evNeg h1 (Ev.now _)
theorem ev_spec_join (l : List S30) (hl : l.length ≤ 9223372036854775807) : ∀ (d i : Nat) (out : List S70) (h : ByteArray), i + d = l.length → Ev (fun k => spec_JoinSegments.l0 k l out h (i : Int)) (joinGd (l.drop i) out h) := by
 intro d
 induction d with
 | zero =>
  intro i out h hi
  refine evSucc ?_
  simp only [spec_JoinSegments.l0]
  rw [List.drop_of_length_le (by omega)]
  exact evNeg (by omega) (Ev.now _)
 | succ d ih =>
  intro i out h hi
  have hlt : i < l.length := by omega
  refine evSucc ?_
  simp only [spec_JoinSegments.l0]
  rw [List.drop_eq_getElem_cons hlt, rdSeg l i hlt, w64 (x := (i : Int) + 1) (by omega) (by omega), ci]
  unfold joinGd
  refine evPos (by omega) (evPos (by omega) (Ev.bind (ev_spec_SegmentOk _ _ _ _) ?_))
  by_cases h1 : segB l[i].f0 l[i].f1 l[i].f2 l[i].f3 = true
  ·have hb := segB_lens h1
   refine evPos h1 ?_
   by_cases h2 : l[i].f0 = (out.length : Int)
   ·refine evPos h2 ?_
    by_cases h3 : l[i].f1 = h
    ·rw [if_pos ⟨h1, h2, h3⟩]
     exact evPos (toList_iff.2 h3) (evPos (by omega) (ih (i + 1) _ _ (by omega)))
    ·rw [if_neg (fun z => h3 z.2.2)]
     exact evNeg (fun z => h3 (toList_inj z)) (Ev.now _)
   ·rw [if_neg (fun z => h2 z.2.1)]
    exact evNeg h2 (Ev.now _)
  ·rw [if_neg (fun z => h1 z.1)]
   exact evNeg h1 (Ev.now _)
def joinSd (l : List S30) : List S70 × Bool := joinGd l [] (dig ⟨#[]⟩)
theorem joinSd_len (l : List S30) : (joinSd l).1.length ≤ 400 := joinGd_len l [] _ (Nat.zero_le _)
theorem ev_impl_JoinSegmentsD (l : List S30) (hl : l.length ≤ 9223372036854775807) : Ev (fun k => impl_JoinSegments.f k l) (joinSd l) := by
 simp only [impl_JoinSegments.f]
 exact Ev.bind (dig_impl _ (by show (⟨#[]⟩ : ByteArray).size ≤ _; decide)) (ev_impl_join l hl l.length 0 [] _ (by omega))
theorem ev_spec_JoinSegmentsD (l : List S30) (hl : l.length ≤ 9223372036854775807) : Ev (fun k => spec_JoinSegments.f k l) (joinSd l) := by
 simp only [spec_JoinSegments.f]
 exact evBindS (dig_spec _ (by show (⟨#[]⟩ : ByteArray).size ≤ _; decide)) (ev_spec_join l hl l.length 0 [] _ (by omega))
theorem szSegment_cases (a : Int) (b : ByteArray) (l : List S91) (d : ByteArray) (left : Int) (h0 : 0 ≤ left) (h1 : left ≤ 1048576) (hb : b.size ≤ 9223372036854775807) (hl : l.length ≤ 9223372036854775807) (hd : d.size ≤ 9223372036854775807) :
 laws_szSegment.f a b l d left = some (-1) ∨ (laws_szSegment.f a b l d left = some (left - b.size - l.length - d.size) ∧ (b.size + l.length + d.size : Int) ≤ left) := by
 unfold laws_szSegment.f laws_szEntryS.f
 rw [w64 (x := left - (b.size : Int)) (by omega) (by omega)]
 by_cases h2 : left - (b.size : Int) < 0
 ·left; rw [if_pos h2]
 rw [if_neg h2, w64 (x := left - (b.size : Int) - (l.length : Int)) (by omega) (by omega)]
 by_cases h3 : left - (b.size : Int) - (l.length : Int) < 0
 ·left; rw [if_pos h3]; rfl
 rw [if_neg h3]
 simp only [Option.bind_some]
 rw [if_neg h3, w64 (by omega) (by omega)]
 by_cases h4 : left - (b.size : Int) - (l.length : Int) - (d.size : Int) < 0
 ·left; rw [if_pos h4]
 ·right; rw [if_neg h4]; exact ⟨rfl, by omega⟩
theorem ev_toSegment (a : Int) (b : ByteArray) (l : List S91) (d : ByteArray) (hl : l.length ≤ 1048576) : Ev (fun k => laws_toSegment.f k a b l d) (a, b, l.map cvEntry, d) := by
 simp only [laws_toSegment.f]
 exact Ev.bind (ev_toEntryS l hl) (Ev.now _)
theorem ev_eqSegment (a : Int) (b : ByteArray) (l : List S70) (d : ByteArray) (hl : l.length ≤ 1048576) : Ev (fun k => laws_eqSegment.f k a b l d a b l d) true := by
 simp only [laws_eqSegment.f]
 exact evPos (by simp) (evPos (by simp) (Ev.bind (ev_eqEntryS l hl) (evPos (by simp) (evPos (by simp) (Ev.now _)))))
theorem rdMidSeg (d : List S30) (s : S30) (r : List S30) (i : Nat) (hi : d.length = i) : rd_T30 (d ++ s :: r) (i : Int) = s := by
 subst hi
 rw [rdSeg _ _ (by simp)]
 simp
theorem setMidSeg (d : List S30) (s x : S30) (r : List S30) (i : Nat) (hi : d.length = i) : (d ++ s :: r).set i x = d ++ x :: r := by
 subst hi
 simp
def segCost : List S30 → Int
 | [] => 0
 | s :: r => 3 + 6 * (s.f2.length : Int) + segCost r
theorem segCost_pos (l : List S30) : 0 ≤ segCost l := by
 induction l with
 | nil => exact Int.le_refl _
 | cons s r ih => unfold segCost; omega
def markSegL : List S30 → Int → List S30
 | [], _ => []
 | s :: r, k => ⟨k, markT (k + 1), markE s.f2 (k + 2), markT (k + 2 + 6 * (s.f2.length : Int))⟩ :: markSegL r (k + 3 + 6 * (s.f2.length : Int))
theorem ev_markSegG : ∀ (r d : List S30) (k0 : Int) (i : Nat), d.length = i → i + r.length ≤ 1048576 → 0 ≤ k0 → k0 + segCost r ≤ 900000000 → (∀ s ∈ r, s.f2.length ≤ 1048576) → Ev (fun k => laws_markSegmentS.l0 k (d ++ r) k0 (i : Int)) (k0 + segCost r, d ++ markSegL r k0) := by
 intro r
 induction r with
 | nil =>
  intro d k0 i hi h1 h2 h3 hs
  refine evSucc ?_
  simp only [laws_markSegmentS.l0]
  refine evNeg (by simp; omega) (evEq (Ev.now _) ?_)
  show (k0, d ++ []) = (k0 + 0, d ++ [])
  rw [Int.add_zero]
 | cons s r ih =>
  intro d k0 i hi h1 h2 h3 hs
  have hc := segCost_pos r
  rw [show segCost (s :: r) = 3 + 6 * (s.f2.length : Int) + segCost r from rfl] at h3 ⊢
  rw [List.length_cons] at h1
  generalize segCost r = c at hc h3 ih ⊢
  refine evSucc ?_
  simp only [laws_markSegmentS.l0, Option.bind_some, Int.toNat_natCast, rdMidSeg d _ r i hi, setMidSeg d _ _ r i hi]
  have w1 : wrap64 (k0 + 1) = k0 + 1 := w64 (by omega) (by omega)
  have w2 : wrap64 (k0 + 1 + 1) = k0 + 2 := by rw [w64 (by omega) (by omega)]; omega
  have w3 : wrap64 (k0 + 2 + 6 * (s.f2.length : Int) + 1) = k0 + 3 + 6 * (s.f2.length : Int) := by rw [w64 (by omega) (by omega)]; omega
  have w4 : wrap64 ((i : Int) + 1) = ((i + 1 : Nat) : Int) := by rw [w64 (by omega) (by omega)]; omega
  rw [w1, w2, w4]
  refine evPos (by simp; omega) ?_
  refine evPos (by omega) ?_
  refine Ev.bind (ev_markText _ (by omega)) ?_
  refine Ev.bind (ev_markEntryS s.f2 (k0 + 2) (by omega) (by omega) (hs s List.mem_cons_self)) ?_
  refine Ev.bind (ev_markText _ (by omega)) ?_
  rw [w3]
  have := ih (d ++ [⟨k0, markT (k0 + 1), markE s.f2 (k0 + 2), markT (k0 + 2 + 6 * (s.f2.length : Int))⟩]) (k0 + 3 + 6 * (s.f2.length : Int)) (i + 1) (by rw [List.length_append, hi]; rfl) (by omega) (by omega) (by omega) (fun s' h => hs s' (List.mem_cons_of_mem _ h))
  rw [List.append_assoc, List.append_assoc] at this
  refine evEq this ?_
  rw [show k0 + 3 + 6 * (s.f2.length : Int) + c = k0 + (3 + 6 * (s.f2.length : Int) + c) by omega]
  rfl
theorem ev_markSegmentS (l : List S30) (hl : l.length ≤ 1048576) (hc : segCost l ≤ 800000000) (hs : ∀ s ∈ l, s.f2.length ≤ 1048576) : Ev (fun k => laws_markSegmentS.f k l 1) (1 + segCost l, markSegL l 1) := by
 simp only [laws_markSegmentS.f]
 exact ev_markSegG l [] 1 0 rfl (by omega) (by omega) (by omega) hs
theorem ev_eqSegmentS (l : List S30) (hl : l.length ≤ 1048576) (hs : ∀ s ∈ l, s.f2.length ≤ 1048576) : Ev (fun k => laws_eqSegmentS.f k l l) true := by
 have key := evUp (r := true) l.length (fun i k => laws_eqSegmentS.l0 k l l (i : Int)) ?_ ?_
 ·refine Ev.congr (fun k => ?_) key
  unfold laws_eqSegmentS.f
  rw [if_pos rfl]
  rfl
 ·intro i hi ih
  refine evSucc ?_
  simp only [laws_eqSegmentS.l0]
  rw [rdSeg l i hi, w64 (by omega) (by omega), ci]
  exact evPos (by omega) (evPos (by omega) (evPos (by omega) (Ev.bind (ev_eqSegment _ _ _ _ (hs _ (List.getElem_mem hi))) (evPos rfl ih))))
 ·refine evSucc ?_
  simp only [laws_eqSegmentS.l0]
  exact evNeg (by omega) (Ev.now _)
def cvSegment (x : S25) : S30 := ⟨x.f0, x.f1, x.f2.map cvEntry, x.f3⟩
theorem rdLSeg (l : List S25) (i : Nat) (hi : i < l.length) : rd_T25 l (i : Int) = l[i] := by simp [rd_T25, hi]
theorem ev_toSegmentS (l : List S25) (hl : l.length ≤ 1048576) (hs : ∀ s ∈ l, s.f2.length ≤ 1048576) : Ev (fun k => laws_toSegmentS.f k l) (l.map cvSegment) := by
 have key := evUp (r := l.map cvSegment) l.length (fun i k => laws_toSegmentS.l0 k l ((l.take i).map cvSegment ++ List.replicate (l.length - i) z30) (i : Int)) ?_ ?_
 ·refine Ev.congr (fun k => ?_) key
  unfold laws_toSegmentS.f
  rw [if_pos (by omega), if_pos (by omega)]
  simp
 ·intro i hi ih
  refine evSucc ?_
  simp only [laws_toSegmentS.l0, rdLSeg l i hi]
  refine evPos (by omega) (evPos (by omega) (Ev.bind (ev_toSegment _ _ _ _ (hs _ (List.getElem_mem hi))) (evPos (by simp; omega) ?_)))
  rw [w64 (by omega) (by omega), ci, Int.toNat_natCast]
  show Ev (fun k => laws_toSegmentS.l0 k l ((((l.take i).map cvSegment ++ List.replicate (l.length - i) z30)).set i (cvSegment l[i])) ((i + 1 : Nat) : Int)) _
  rw [fillStep cvSegment _ l i hi]
  exact ih
 ·refine evSucc ?_
  simp only [laws_toSegmentS.l0]
  refine evNeg (by omega) ?_
  simp
  exact Ev.now _
def segLen : List S25 → Int
 | [] => 0
 | s :: r => (s.f2.length : Int) + segLen r
theorem segLen_pos (l : List S25) : 0 ≤ segLen l := by
 induction l with
 | nil => exact Int.le_refl _
 | cons s r ih => unfold segLen; omega
theorem segLen_mem (l : List S25) : ∀ s ∈ l, (s.f2.length : Int) ≤ segLen l := by
 induction l with
 | nil => intro s h; simp at h
 | cons s r ih =>
  intro s' h
  have := segLen_pos r
  unfold segLen
  rcases List.mem_cons.1 h with rfl | h
  ·omega
  ·have := ih s' h; omega
theorem segLen_cost (l : List S25) : segCost (l.map cvSegment) = 3 * (l.length : Int) + 6 * segLen l := by
 induction l with
 | nil => rfl
 | cons s r ih =>
  rw [List.map_cons, List.length_cons]
  unfold segCost segLen
  rw [ih]
  show 3 + 6 * ((s.f2.map cvEntry).length : Int) + _ = _
  rw [List.length_map]
  omega
theorem ev_szSegG (l : List S25) (hl : l.length ≤ 9223372036854775807) (hb : ∀ s ∈ l, s.f1.size ≤ 9223372036854775807 ∧ s.f2.length ≤ 9223372036854775807 ∧ s.f3.size ≤ 9223372036854775807) : ∀ (d i : Nat) (left : Int), i + d = l.length → 0 ≤ left → left ≤ 1048576 → ∃ v : Int, Ev (fun k => laws_szSegmentS.l0 k l left (i : Int)) v ∧ (v = -1 ∨ 0 ≤ v ∧ segLen (l.drop i) ≤ left) := by
 intro d
 induction d with
 | zero =>
  intro i left hi h0 h1
  refine ⟨left, evSucc ?_, .inr ⟨h0, ?_⟩⟩
  ·simp only [laws_szSegmentS.l0]
   exact evNeg (by omega) (Ev.now _)
  ·rw [List.drop_of_length_le (by omega)]; exact h0
 | succ d ih =>
  intro i left hi h0 h1
  have hlt : i < l.length := by omega
  obtain ⟨b1, b2, b3⟩ := hb _ (List.getElem_mem hlt)
  have w4 : wrap64 ((i : Int) + 1) = ((i + 1 : Nat) : Int) := by rw [w64 (by omega) (by omega)]; omega
  rcases szSegment_cases l[i].f0 l[i].f1 l[i].f2 l[i].f3 left h0 h1 b1 b2 b3 with h | ⟨h, h2⟩
  ·refine ⟨-1, evSucc ?_, .inl rfl⟩
   simp only [laws_szSegmentS.l0, rdLSeg l i hlt]
   exact evPos (by omega) (evPos (by omega) (evBindS h (evPos (by omega) (Ev.now _))))
  ·obtain ⟨v, hv, hc⟩ := ih (i + 1) (left - l[i].f1.size - l[i].f2.length - l[i].f3.size) (by omega) (by omega) (by omega)
   refine ⟨v, evSucc ?_, ?_⟩
   ·simp only [laws_szSegmentS.l0, rdLSeg l i hlt, w4]
    exact evPos (by omega) (evPos (by omega) (evBindS h (evNeg (by omega) hv)))
   ·rcases hc with hc | ⟨hc, hd⟩
    ·exact .inl hc
    ·refine .inr ⟨hc, ?_⟩
     rw [List.drop_eq_getElem_cons hlt]
     unfold segLen
     omega
theorem ev_szSegmentS (l : List S25) (hl : l.length ≤ 9223372036854775807) (hb : ∀ s ∈ l, s.f1.size ≤ 9223372036854775807 ∧ s.f2.length ≤ 9223372036854775807 ∧ s.f3.size ≤ 9223372036854775807) : ∃ v : Int, Ev (fun k => laws_szSegmentS.f k l 1048576) v ∧ (v = -1 ∨ 0 ≤ v ∧ l.length ≤ 1048576 ∧ segLen l ≤ 1048576) := by
 simp only [laws_szSegmentS.f]
 rw [w64 (by omega) (by omega)]
 by_cases h : (1048576 : Int) - (l.length : Int) < 0
 ·exact ⟨-1, evPos h (Ev.now _), .inl rfl⟩
 ·obtain ⟨v, hv, hc⟩ := ev_szSegG l hl hb l.length 0 (1048576 - (l.length : Int)) (by omega) (by omega) (by omega)
  refine ⟨v, evNeg h hv, ?_⟩
  rcases hc with hc | ⟨hc, hd⟩
  ·exact .inl hc
  ·rw [List.drop_zero] at hd
   exact .inr ⟨hc, by omega, by omega⟩
theorem FnExactJoinSegments : PureFnExactJoinSegments.Stated := by
 intro l ⟨hb, hl⟩
 refine Ev.rounds ?_
 simp only [laws_FnExactJoinSegments.f]
 obtain ⟨v, hv, hc⟩ := ev_szSegmentS l hl (fun s h => ⟨(hb s h).2.1, (hb s h).2.2.1.2, (hb s h).2.2.2⟩)
 refine Ev.bind hv ?_
 rcases hc with hc | ⟨h0, h2, h3⟩
 ·exact evPos (by omega) (Ev.now _)
 have hs : ∀ s ∈ l, s.f2.length ≤ 1048576 := fun s h => by have := segLen_mem l s h; omega
 have hnn := segLen_pos l
 have hcost := segLen_cost l
 have hm : (l.map cvSegment).length ≤ 1048576 := by simpa using h2
 have hsm : ∀ s ∈ l.map cvSegment, s.f2.length ≤ 1048576 := by
  intro s h
  obtain ⟨s', h', rfl⟩ := List.mem_map.1 h
  show (s'.f2.map cvEntry).length ≤ _
  rw [List.length_map]
  exact hs s' h'
 have et := ev_toSegmentS l h2 hs
 generalize l.map cvSegment = p at *
 have e1 := ev_spec_JoinSegmentsD p (by omega)
 have e2 := ev_impl_JoinSegmentsD p (by omega)
 have hj := joinSd_len p
 generalize joinSd p = x at e1 e2 hj
 obtain ⟨o, ok⟩ := x
 simp only at hj
 have ho : o.length ≤ 1048576 := by omega
 refine evNeg (by omega) (Ev.bind et (Ev.bind e1 (Ev.bind et (Ev.bind e2 (Ev.bind (ev_eqEntryS o ho) (evPos rfl (evSucc ?_)))))))
 simp only [laws_FnExactJoinSegments.j0]
 refine evNeg (by simp) (Ev.bind et (Ev.bind (ev_eqSegmentS p hm hsm) (evPos rfl (Ev.bind (ev_markSegmentS p hm (by omega) hsm) (evNeg ?_ (Ev.bind (ev_eqEntryS o ho) (evPos rfl (evSucc ?_))))))))
 ·show ¬ 1 + segCost p < 0
  omega
 simp only [laws_FnExactJoinSegments.j1]
 refine evNeg (by simp) (Ev.bind (ev_markEntryS o 1 (by omega) (by omega) ho) (Ev.bind (ev_heldEntryS o 1 (by omega) (by omega) ho) (evNeg (by omega) (evPos rfl ?_))))
 refine Ev.bind et (Ev.bind e2 (Ev.bind (ev_eqEntryS o ho) (evPos rfl (evSucc ?_))))
 simp only [laws_FnExactJoinSegments.j2]
 exact evNeg (by simp) (Ev.bind (ev_heldEntryS o 1 (by omega) (by omega) ho) (evNeg (by omega) (evPos rfl (Ev.now _))))

end Go.Proofs.YtdhjolglbcoijaaDoor.Pure

namespace Go.Proofs.YtdhjolglbcoijaaDoor.fnExactJoinSegments
open Go.ChangeShapes Go.WideShapes Go.ChangeAt Go.RowKit Go.Proofs.YtdhjolglbcoijaaDoor.PA Go.Proofs.YtdhjolglbcoijaaDoor.PureFnExactJoinSegments Go.Proofs.YtdhjolglbcoijaaDoorW.PrintWords
open Go.ChangeMaps (open_string shut_string)
set_option linter.unusedVariables false
set_option linter.unusedSimpArgs false
theorem own : ownKnob Tryd.prog.godebug = none := by kernel_rfl
theorem laidOut : laidOutB Tryd.prog = true := by kernel_rfl
def laidV : List (String × DataW Unit) := [("loop.example/g00397/impl.shaWords", Rows.laid_loop_example_g00397_impl_shaWords)]
theorem gTab : Tryd.prog.globalNamed "loop.example/g00397/impl.shaWords" = some 0 := by kernel_rfl
theorem gTabType : (Tryd.prog.globals[0]?).map (·.type) = some 107 := by kernel_rfl
theorem door_met (os : Os) (args : Array Value) : laidMetH Tryd.prog laidV ((World.doorLaid Tryd.prog 4000 os).forCall (fun _ _ => 0) ⟨#[], args, []⟩).memory :=
 laidMetH_of_parts3 (fuel := 8) (laidMet_of_run' 8 (by kernel_rfl) (by kernel_rfl)) (by kernel_rfl) (by kernel_rfl)
theorem vars_back {H : Type} {enc : TypeId × Value → H} {W W' : World} (hb : Below W.heap.size W W') {gs : List (DataW H)} {ps : List MemPlace} (h : DataW.TrodVars enc Tryd.prog W (fun _ => true) ["loop.example/g00397/impl.shaWords"] gs ps) :
 DataW.TrodVars enc Tryd.prog W' (fun b => decide (b < W.heap.size)) ["loop.example/g00397/impl.shaWords"] gs ps := by
 obtain ⟨g, t, cs, fu, d, p, rfl, hg, ht, hv, htr, rfl⟩ := trodVars_one h
 have hg2 := hg
 have ht2 := ht
 obtain rfl := Option.some.inj (gTab.symm.trans hg)
 obtain rfl := Option.some.inj (gTabType.symm.trans ht)
 have lt := DataW.trod_lt _ _ _ _ htr
 have hk : DataW.Trod enc Tryd.prog W' 0 (fun b => decide (b < W.heap.size)) true 107 (.agg cs) d p := Below.trod laidOut (by kernel_rfl) (of_decide_eq_true (by kernel_rfl)) (show DataW.Trod enc Tryd.prog W 0 (fun _ => true) true 107 (.agg cs) d p from ⟨fu, htr⟩) hb lt
 obtain ⟨m, hm⟩ := hk
 have hv2 : W'.var? Tryd.prog "loop.example/g00397/impl.shaWords" = some cs := by
  unfold World.var? at hv ⊢
  rw [gTab, Option.bind_some] at hv ⊢
  have hlt : 0 < W.heap.size := by
   rcases Nat.lt_or_ge 0 W.heap.size with h' | h'
   ·exact h'
   ·rw [Array.getElem?_eq_none h'] at hv; cases hv
  rw [hb.block 0 hlt]
  exact hv
 exact trodVars_mk1 hg2 ht2 hv2 hm
theorem op89 : Op.Opens Tryd.prog k89 89 ok89 := Op.opStruct Tryd.underlying89 (by kernel_rfl) (Op.fieldsCons (Op.opInt Tryd.underlying3 (by kernel_rfl)) rfl (Op.fieldsCons (Op.opInt Tryd.underlying3 (by kernel_rfl)) rfl (Op.fieldsCons (Op.opInt Tryd.underlying3 (by kernel_rfl)) rfl (Op.fieldsOne (Op.opInt Tryd.underlying3 (by kernel_rfl)) rfl)))) (fun a => ⟨a.1, a.2.1, a.2.2.1, a.2.2.2⟩) (fun a => rfl) (fun a h => h)
theorem op91 : Op.Opens Tryd.prog k91 91 ok91 := Op.opStruct Tryd.underlying91 (by kernel_rfl) (Op.fieldsCons (Op.opInt Tryd.underlying3 (by kernel_rfl)) rfl (Op.fieldsCons (Op.opInt Tryd.underlying3 (by kernel_rfl)) rfl (Op.fieldsOne op89 rfl))) (fun a => ⟨a.1, a.2.1, a.2.2⟩) (fun a => rfl) (fun a h => h)
theorem op25 : Op.Opens Tryd.prog k25 25 ok25 := Op.opStruct Tryd.underlying25 (by kernel_rfl) (Op.fieldsCons (Op.opInt Tryd.underlying3 (by kernel_rfl)) rfl (Op.fieldsCons (Op.opStr Tryd.underlying9 (by kernel_rfl)) rfl (Op.fieldsCons (Op.opSlice Tryd.underlying23 (by kernel_rfl) 91 op91) rfl (Op.fieldsOne (Op.opStr Tryd.underlying9 (by kernel_rfl)) rfl)))) (fun a => ⟨a.1, a.2.1, a.2.2.1, a.2.2.2⟩) (fun a => rfl) (fun a h => h)
set_option maxRecDepth 100000 in
theorem lifted (os : Os) (started : os.Started) (H : Type) (enc : TypeId × Value → H) :
 ReturnsInHanded {} Tryd.checked os 8 .any (fun w args => (Rows.fnExactJoinSegmentsSpec.pre enc Tryd.prog Tryd.f8 [] false w args ∧ laidMetH Tryd.prog laidV w) ∧ sizedMet enc Tryd.prog Tryd.f8 (OpenSpec.ofChange Rows.fnExactJoinSegmentsSpec) false w args) (Rows.fnExactJoinSegmentsSpec.post enc Tryd.prog Tryd.f8 false true false false) := by
 refine returnsInHanded_of_change_and (C := Tryd.checked) (X := fun w _ => laidMetH Tryd.prog laidV w) (fun _ _ _ hh h => h.of_heap hh) own started (by kernel_rfl) Tryd.func8
  (ChangeSpec.witness_shaped (enc := enc) (C := Tryd.checked) (os := os) (X := fun w _ => laidMetH Tryd.prog laidV w) false (World.doorLaid Tryd.prog 4000 os) #[.slice none 0 0] 8 rfl (World.shaped_of_RefB (by kernel_rfl) (by kernel_rfl)) (by kernel_rfl) (by kernel_rfl) (by kernel_rfl) (door_met os _)) ?_
 intro W base args ds gs before hval0 hW _ _ hL _
 have hT : PA.Tab W := by
  rw [MakeChecks.laidMetH_plain _ _ _ (by kernel_rfl)] at hL
  exact Lib.tabIs_of_head (rest := []) gTab gTabType (t := 107) (e := 104) (n := 64) (by kernel_rfl) (by kernel_rfl) (by kernel_rfl) (by kernel_rfl) hL
 have hval : ∀ (j : Nat) t v, Tryd.f8.params[j]? = some t → args[j]? = some v → Value.okWide Tryd.prog W .any base t v := hval0
 have hW' := hW
 obtain ⟨p, q, hA0, hV, rfl, hfz, hnd⟩ := hW
 have hA : DataW.TrodAll enc Tryd.prog W 0 (fun _ => true) true Tryd.f8.params.toList args.toList ds p := hA0
 rw [Tryd.params8] at hA hval
 obtain ⟨v0, vs0, d0, ds0, p0, q0, hargs, rfl, rfl, h0, r0⟩ := trodAll_cons hA
 obtain ⟨rfl, rfl, rfl⟩ := trodAll_nil r0
 obtain rfl : args = #[v0] := by cases args; simp_all
 obtain ⟨g1, t1, cs1, fu1, dv, pv1, rfl, _⟩ := trodVars_one hV
 have k0 := h0
 have lt0 : ∀ x ∈ p0, x.block < W.heap.size := by obtain ⟨m, hm⟩ := k0; exact DataW.trod_lt m _ _ _ hm
 obtain ⟨m0, hm0⟩ := h0
 obtain ⟨A0, n0, c0, rfl⟩ := okWide_slice Tryd.underlying51 (hval 0 51 v0 rfl rfl)
 obtain ⟨x0, ⟨A0', c0', hs0, hc0, hr0⟩, hG0⟩ := (Op.opSlice Tryd.underlying51 (by kernel_rfl) 25 op25).op hm0
 obtain ⟨rfl, rfl, rfl⟩ : A0 = A0' ∧ n0 = x0.length ∧ c0 = c0' := by simpa [Value.cells] using hs0
 obtain ⟨k, h⟩ := Pure.FnExactJoinSegments x0 hG0
 refine (laws_FnExactJoinSegments.calls k A0 c0 x0 true W hr0 hc0 hT rfl h).mono fun e W' ⟨he, bel⟩ => ?_
 subst he
 exact ⟨_, rfl, _, _, _, [], _, _, hW', trodAll_mk1 (shut_bool Tryd.underlying4 _), (trodAll_cons_mk (Below.trod laidOut (by kernel_rfl) (of_decide_eq_true (by kernel_rfl)) k0 bel lt0) trodAll_mk0), vars_back bel hV, bel.frame _, fun h => by cases h⟩
theorem over : Rows.fnExactJoinSegmentsRow.holds Tryd.pinned (OpenSpec.ofChange Rows.fnExactJoinSegmentsSpec) :=
 OpenClaim.holds_of_wide 8 Tryd.f8 rfl rfl rfl rfl rfl rfl rfl ⟨rfl, rfl, rfl, rfl, rfl⟩ rfl rfl rfl rfl rfl (by kernel_rfl) Tryd.func8 (by kernel_rfl)
  (of_decide_eq_true (by kernel_rfl)) (by unfold Func.isWrapper; first | (rw [if_pos (by decide +kernel)]; kernel_rfl) | (rw [if_neg (by decide +kernel)]; exact ⟨rfl, rfl⟩))
  (fun os started H enc _ => lifted os started H enc)
theorem proved : Rows.FnExactJoinSegmentsSaid := over
#print axioms proved
end Go.Proofs.YtdhjolglbcoijaaDoor.fnExactJoinSegments
namespace Go.Proofs.YtdhjolglbcoijaaDoor
theorem fnExactJoinSegments_holds : Rows.FnExactJoinSegmentsCardSaid :=
 Claim7.holds_tied_plain_at .later [] [.data] true (true, "86c5b83168afbe62a9fd9dd9b188a8bbcb0f32602a88b45c4d3f3879959306bb") false
  fnExactJoinSegments.proved (fun _ h => by cases h) (by kernel_rfl) (fun _ h => by cases h) fnExactJoinSegments_row_tie rfl ⟨rfl, rfl⟩ (by kernel_rfl) rfl
  (fun f fn hf hfn => by
   obtain rfl : f = 8 := Option.some.inj ((show Tryd.prog.funcNamed "loop.example/g00397/laws.FnExactJoinSegments" = some 8 by kernel_rfl).symm.trans hf) |>.symm
   obtain rfl : fn = Tryd.f8 := (Option.some.inj (Tryd.func8.symm.trans hfn)).symm
   exact ⟨by kernel_rfl, fun j t ht => by
    rw [Tryd.params8] at ht
    have h3 : t = 51 := by
     match j, ht with
     | 0, ht => simp at ht; subst ht; simp
     | _ + 1, ht => simp at ht
    rcases h3 with rfl
    ·exact (show Tryd.prog.wantsStandIn 51 = false by kernel_rfl)⟩)
  (by kernel_rfl)
end Go.Proofs.YtdhjolglbcoijaaDoor

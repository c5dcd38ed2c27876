/- Contracts of functions of the program and of the reference, and plain lemmas on what they compute: a part of the proof of the law FnSegments. No condition. -/
import Derived.Test.YtdhjolglbcoijaaDoorV0
import Derived.ChangeArms
import Derived.ChangeOld
import Derived.WideShapes
import Derived.OpenShut
import Derived.DataElems
import Derived.Test.YtdhjolglbcoijaaDoorJFnSegments3
import Derived.Test.YtdhjolglbcoijaaDoorG88178x2
import Derived.Test.YtdhjolglbcoijaaDoorG88178x0
import Derived.Test.YtdhjolglbcoijaaDoorRows
import Derived.WalkKit
import Derived.ProofKit
import Derived.ShutString
import Derived.Below
import Derived.SizedLaws
import Derived.Carry
import Derived.LaidLaws
import Derived.LaidMore
import Derived.MakeChecks
import Derived.Stop.Joined
import Derived.ChangeVars
import Derived.Lib.LaidTab
import Derived.Test.YtdhjolglbcoijaaDoorCards
import Derived.Test.YtdhjolglbcoijaaDoorTie
import Derived.SevenTiedAt
import Derived.Test.YtdhjolglbcoijaaDoorShortV
namespace Go.Proofs.YtdhjolglbcoijaaDoor.Op
open Go.RowKit Go.Proofs.YtdhjolglbcoijaaDoorW.PrintWords
set_option linter.unusedVariables false
set_option linter.unusedSimpArgs false

abbrev OkInt (k : IntKind) (n : Int) : Prop := (Lit.int k n).wf = true

structure Opens (P : Program) {α : Type} (d : Kd α) (t : TypeId) (G : α → Prop) : Prop where
 sz : d.sz = P.cellsOf t
 op : ∀ {H : Type} {enc : TypeId × Value → H} {w : World} {n : Nat} {cs : List Value} {x : DataW H × List MemPlace},
  DataW.trod enc P w 0 (fun _ => true) true n t cs = some x → ∃ a, d.K w a cs ∧ G a

theorem opInt {P : Program} {t : TypeId} {k : IntKind} (hu : P.underlying t = some (.int k)) (hc : P.cellsOf t = 1) : Opens P (Kd.int k) t (fun n => (Lit.int k n).wf = true) where
 sz := by rw [hc]; rfl
 op := fun h => by
  obtain ⟨n, rfl, _, hw⟩ := DataW.trod_int hu h
  exact ⟨n, rfl, hw⟩

theorem opBool {P : Program} {t : TypeId} (hu : P.underlying t = some .bool) (hc : P.cellsOf t = 1) : Opens P Kd.bool t (fun _ => True) where
 sz := by rw [hc]; rfl
 op := fun h => by
  obtain ⟨n, rfl, _⟩ := DataW.trod_bool hu h
  exact ⟨n, rfl, trivial⟩

theorem opStr {P : Program} {t : TypeId} (hu : P.underlying t = some .string) (hc : P.cellsOf t = 1) : Opens P Kd.string t (fun s => s.size ≤ 9223372036854775807) where
 sz := by rw [hc]; rfl
 op := fun h => by
  obtain ⟨s, rfl, _, hs⟩ := DataW.trod_string hu h
  exact ⟨s, rfl, hs⟩

theorem chooseList {α : Type} {Q : Nat → α → Prop} : ∀ (n : Nat), (∀ i, i < n → ∃ a, Q i a) → ∃ xs : List α, xs.length = n ∧ ∀ i a, xs[i]? = some a → Q i a
 | 0, _ => ⟨[], rfl, fun i a h => by simp at h⟩
 | n + 1, h => by
  obtain ⟨xs, hl, hx⟩ := chooseList n (fun i hi => h i (by omega))
  obtain ⟨a, ha⟩ := h n (by omega)
  refine ⟨xs ++ [a], by simp [hl], fun i b hb => ?_⟩
  by_cases hi : i < n
  ·rw [List.getElem?_append_left (by omega)] at hb
   exact hx i b hb
  ·rw [List.getElem?_append_right (by omega), hl] at hb
   have : i - n = 0 := by
    rcases Nat.eq_zero_or_pos (i - n) with h0 | h0
    ·exact h0
    ·rw [List.getElem?_eq_none (by simp; omega)] at hb
     simp at hb
   rw [this] at hb
   have hin : i = n := by omega
   simp at hb
   rw [hin, ← hb]
   exact ha

theorem cellsAt {w : World} {a : Addr} {n : Nat} {cs : List Value} (h : w.cells? 0 a n = some cs) : cs.length = n ∧ ∀ i u, cs[i]? = some u → w.cell? (a.add i) = some u := by
 unfold World.cells? at h
 rw [if_pos (Nat.zero_le _)] at h
 have hl : cs.length = n := by simpa using mapM_some_length h
 refine ⟨hl, fun i u hu => ?_⟩
 have hi : i < n := by
  rcases Nat.lt_or_ge i n with h1 | h1
  ·exact h1
  ·rw [List.getElem?_eq_none (by omega)] at hu
   simp at hu
 have := mapM_some_get h i i (by simp [hi])
 rw [this, hu]

theorem opSlice {P : Program} {α : Type} {d : Kd α} {t e : TypeId} {G : α → Prop} (hu : P.underlying t = some (.slice e)) (hc : P.cellsOf t = 1) (E : Nat) (o : Opens P d e G) :
 Opens P (Kd.slice E d) t (fun l => (∀ a ∈ l, G a) ∧ l.length ≤ 9223372036854775807) where
 sz := by rw [hc]; rfl
 op := fun {H enc w n cs x} h => by
  rcases DataW.trod_slice hu h with ⟨rfl, _⟩ | ⟨a, len, cap, elems, rest, m, _, rfl, _, _, hl, hcap, hlen, hel, _⟩
  ·exact ⟨[], ⟨none, 0, rfl, Nat.le_refl _, rfl, by simp, fun h0 => by simp at h0⟩, fun a ha => by simp at ha, by simp⟩
  ·have hcap' : cap ≤ 9223372036854775807 := hcap
   have key : ∀ i, i < len → ∃ b, ∃ c, d.K w b c ∧ G b ∧ c.length = d.sz ∧ ∀ j u, c[j]? = some u → w.cell? ((a.add (i * d.sz)).add j) = some u := by
    intro i hi
    have h1 := hel i hi
    rw [List.getElem?_eq_getElem (by omega)] at h1
    obtain ⟨cs', h2, h3⟩ := Option.bind_eq_some_iff.1 h1
    obtain ⟨b, hK, hG⟩ := o.op h3
    obtain ⟨h4, h5⟩ := cellsAt h2
    rw [← o.sz] at h5
    exact ⟨b, cs', hK, hG, d.K_len hK, h5⟩
   obtain ⟨xs, hx, hall⟩ := chooseList len key
   refine ⟨xs, ⟨some a, cap, by rw [hx], by omega, rfl, by omega, fun _ => ⟨a, rfl, fun j p hp => ?_⟩⟩, fun b hb => ?_, by omega⟩
   ·obtain ⟨c, hK, _, hs, hcell⟩ := hall j p hp
    exact ⟨c, hs, hK, fun i u hiu => by rw [← Addr.add_add]; exact hcell i u hiu⟩
   ·obtain ⟨i, hi, rfl⟩ := List.getElem_of_mem hb
    obtain ⟨_, _, hG, _⟩ := hall i _ (List.getElem?_eq_getElem hi)
    exact hG

structure Fields (P : Program) (off : Nat) (fs : List Field) {α : Type} (d : Kd α) (G : α → Prop) : Prop where
 op : ∀ {H : Type} {enc : TypeId × Value → H} {w : World} {n : Nat} {cs : List Value}, cs.length = off + d.sz →
  (∀ f ∈ fs, ∃ y, DataW.trod enc P w 0 (fun _ => true) true n f.type ((cs.drop f.offset).take (P.cellsOf f.type)) = some y) → ∃ a, d.K w a (cs.drop off) ∧ G a

theorem fieldsOne {P : Program} {off : Nat} {f : Field} {α : Type} {d : Kd α} {G : α → Prop} (o : Opens P d f.type G) (hf : f.offset = off) : Fields P off [f] d G where
 op := fun {H enc w n cs} hl h => by
  obtain ⟨y, hy⟩ := h f (by simp)
  rw [hf, List.take_of_length_le (by rw [← o.sz]; simp; omega)] at hy
  exact o.op hy

theorem fieldsCons {P : Program} {off : Nat} {f : Field} {fs : List Field} {α β : Type} {d : Kd α} {d' : Kd β} {G : α → Prop} {G' : β → Prop} (o : Opens P d f.type G) (hf : f.offset = off) (r : Fields P (off + d.sz) fs d' G') :
 Fields P off (f :: fs) (Kd.pair d d') (fun x => G x.1 ∧ G' x.2) where
 op := fun {H enc w n cs} hl h => by
  have hl' : cs.length = off + (d.sz + d'.sz) := hl
  obtain ⟨y, hy⟩ := h f (by simp)
  rw [hf] at hy
  obtain ⟨a, ha, hg⟩ := o.op hy
  obtain ⟨b, hb, hg'⟩ := r.op (by omega) (fun g hg => h g (by simp [hg]))
  refine ⟨(a, b), ⟨_, _, ?_, ha, hb⟩, hg, hg'⟩
  rw [← o.sz, show cs.drop (off + d.sz) = (cs.drop off).drop d.sz from (List.drop_drop ..).symm]
  exact (List.take_append_drop _ _).symm

theorem opStruct {P : Program} {t : TypeId} {fs : Array Field} {α β : Type} {d : Kd α} {f : β → α} {G : α → Prop} {G' : β → Prop} (hu : P.underlying t = some (.struct fs)) (hc : P.cellsOf t = d.sz)
 (r : Fields P 0 fs.toList d G) (g : α → β) (hfg : ∀ a, f (g a) = a) (hG : ∀ a, G a → G' (g a)) : Opens P (Kd.iso d f) t G' where
 sz := by rw [hc]; rfl
 op := fun {H enc w n cs x} h => by
  obtain ⟨xs, m, rfl, _, hl, hxs, hall⟩ := DataW.trod_struct hu h
  obtain ⟨a, ha, hGa⟩ := r.op (w := w) (n := m) (cs := cs) (by omega) (fun f' hf' => by
   obtain ⟨i, hi, rfl⟩ := List.getElem_of_mem hf'
   have hi' : i < fs.size := by simpa using hi
   have h1 := hall i fs.toList[i] (by simp [hi'])
   rw [List.getElem?_eq_getElem (by omega)] at h1
   exact ⟨_, h1⟩)
  rw [List.drop_zero] at ha
  refine ⟨g a, ?_, hG a hGa⟩
  show d.K w (f (g a)) cs
  rw [hfg]
  exact ha
end Go.Proofs.YtdhjolglbcoijaaDoor.Op

namespace Go.Proofs.YtdhjolglbcoijaaDoor.PureFnSegments
open Go.RowKit Go.Proofs.YtdhjolglbcoijaaDoor.PA
def Stated : Prop := ∀ (x0 : List Int), ((∀ e_ ∈ x0, Op.OkInt .u8 e_) ∧ x0.length ≤ 9223372036854775807) → ∃ k, laws_FnSegments.f k x0 = some true
end Go.Proofs.YtdhjolglbcoijaaDoor.PureFnSegments

namespace Go.Proofs.YtdhjolglbcoijaaDoor.Kit
open Go.RowKit Go.Proofs.YtdhjolglbcoijaaDoorW.PrintWords Go.Proofs.YtdhjolglbcoijaaDoorW.PrintLast Go.Proofs.YtdhjolglbcoijaaDoorW.PrintMore
set_option linter.unusedVariables false
set_option linter.unusedSimpArgs false

theorem w64 {x : Int} (h0 : -9223372036854775808 ≤ x) (h1 : x ≤ 9223372036854775807) : wrap64 x = x := by unfold wrap64; omega

section
variable {α β : Type}
theorem evSucc {g : Nat → Option α} {r : α} (h : Ev (fun k => g (k + 1)) r) : Ev g r := Ev.step (fun _ => rfl) h
theorem evPos {c : Prop} [Decidable c] {g f : Nat → Option α} {r : α} (hc : c) (h : Ev g r) : Ev (fun k => if c then g k else f k) r := Ev.congr (fun k => if_pos hc) h
theorem evNeg {c : Prop} [Decidable c] {g f : Nat → Option α} {r : α} (hc : ¬ c) (h : Ev f r) : Ev (fun k => if c then g k else f k) r := Ev.congr (fun k => if_neg hc) h
theorem evIte {c : Prop} [Decidable c] {g f : Nat → Option α} {r s : α} (h : c → Ev g r) (h' : ¬ c → Ev f s) : Ev (fun k => if c then g k else f k) (if c then r else s) := by
 by_cases hc : c
 ·rw [if_pos hc]; exact evPos hc (h hc)
 ·rw [if_neg hc]; exact evNeg hc (h' hc)
theorem evSome (r : α) : Ev (fun _ => some r) r := Ev.now r
theorem evEq {g : Nat → Option α} {r s : α} (h : Ev g r) (e : r = s) : Ev g s := e ▸ h
theorem evBindS {x : Option α} {f : Nat → α → Option β} {a : α} {r : β} (h : x = some a) (k : Ev (fun n => f n a) r) : Ev (fun n => x.bind (f n)) r := by subst h; exact k
theorem evConst {x : Option α} {r : α} (h : x = some r) : Ev (fun _ => x) r := by subst h; exact Ev.now r
end

section
variable {α β : Type}
theorem evUp {r : α} (n : Nat) (g : Nat → Nat → Option α) (step : ∀ i, i < n → Ev (g (i + 1)) r → Ev (g i) r) (last : Ev (g n) r) : Ev (g 0) r := by
 have key : ∀ d i, i + d = n → Ev (g i) r := by
  intro d
  induction d with
  | zero => intro i hi; rw [show i = n by omega]; exact last
  | succ d ih => intro i hi; exact step i (by omega) (ih (i + 1) (by omega))
 exact key n 0 (by omega)
theorem fillStep (f : α → β) (z : β) (l : List α) (i : Nat) (hi : i < l.length) :
 ((l.take i).map f ++ List.replicate (l.length - i) z).set i (f l[i]) = (l.take (i + 1)).map f ++ List.replicate (l.length - (i + 1)) z := by
 have h1 : ((l.take i).map f).length = i := by simp; omega
 rw [show l.length - i = (l.length - (i + 1)) + 1 by omega, List.replicate_succ, List.set_append_right _ _ (by omega), h1, Nat.sub_self, List.set_cons_zero,
  List.take_succ_eq_append_getElem hi, List.map_append, List.append_assoc]
 rfl
theorem takeSnoc (l : List α) (i : Nat) (hi : i < l.length) : l.take (i + 1) = l.take i ++ [l[i]] := List.take_succ_eq_append_getElem hi
theorem ci (i : Nat) : (i : Int) + 1 = ((i + 1 : Nat) : Int) := by omega
theorem sizeApp (a b : ByteArray) : (a ++ b).size = a.size + b.size := ByteArray.size_append
end

theorem okI64 {n : Int} (h : (Lit.int .i64 n).wf = true) : -9223372036854775808 ≤ n ∧ n ≤ 9223372036854775807 := by
 simp [Lit.wf, IntKind.min, IntKind.max, IntKind.signed, IntKind.bits] at h
 omega
end Go.Proofs.YtdhjolglbcoijaaDoor.Kit

namespace Go.Proofs.YtdhjolglbcoijaaDoor.DigestEq
open Go.RowKit Go.Proofs.YtdhjolglbcoijaaDoorW.PrintWords Go.Proofs.YtdhjolglbcoijaaDoorW.PrintLast Go.Proofs.YtdhjolglbcoijaaDoorW.PrintMore Go.Proofs.YtdhjolglbcoijaaDoor.Kit Go.Proofs.YtdhjolglbcoijaaDoor.PA
open Go.Proofs.YtdhjolglbcoijaaDoor.PH (hs hs_len padS padS_size blocks f4 f4_len padBytes padZ hFirst shaB shaB_len outs strOfNums_size)
set_option linter.unusedVariables false
theorem strApp (a b : List Int) : strOfNums (a ++ b) = strOfNums a ++ strOfNums b := by
 apply ByteArray.ext
 simp [strOfNums]
theorem strBytes (s : ByteArray) : strOfNums (bytesOf s) = s := by
 apply ByteArray.ext
 apply Array.ext'
 simp [strOfNums, bytesOf, Function.comp_def]
theorem hi8 (N : Int) : (List.range 8).map (fun q => N / 2 ^ (8 * (7 - q)) % 256) = f4 (N / 4294967296) ++ f4 N := by
 have h0 : N / 72057594037927936 % 256 = N / 4294967296 / 16777216 % 256 := by omega
 have h1 : N / 281474976710656 % 256 = N / 4294967296 / 65536 % 256 := by omega
 have h2 : N / 1099511627776 % 256 = N / 4294967296 / 256 % 256 := by omega
 simp [List.range, List.range.loop, f4, h0, h1, h2]
theorem padEq (a0 : ByteArray) (hb : a0.size ≤ 1073741824) : impl_PadText.f a0 = some (padS a0) := by
 have e : Int.tmod (wrap64 (64 - (Int.tmod (wrap64 ((a0.size : Int) + 9)) 64))) 64 = (padZ a0.size : Int) := by
  have c1 : Int.tmod ((a0.size : Int) + 9) 64 = ((a0.size : Int) + 9) % 64 := Int.tmod_eq_emod_of_nonneg (by omega)
  rw [w64 (x := (a0.size : Int) + 9) (by omega) (by omega), c1, w64 (by omega) (by omega)]
  have c2 : Int.tmod (64 - ((a0.size : Int) + 9) % 64) 64 = (64 - ((a0.size : Int) + 9) % 64) % 64 := Int.tmod_eq_emod_of_nonneg (by omega)
  rw [c2]
  unfold padZ
  omega
 have hz : padZ a0.size < 64 := by unfold padZ; omega
 have e8 : wrap64 (8 * (a0.size : Int)) = 8 * (a0.size : Int) := w64 (by omega) (by omega)
 unfold impl_PadText.f impl_four.f
 rw [e, e8, if_pos (by omega), if_pos (by omega), if_pos (by omega)]
 simp only [Option.bind_some, Int.toNat_natCast]
 have s1 : (a0 ++ (⟨#[128]⟩ : ByteArray)).size = a0.size + 1 := by rw [ByteArray.size_append]; rfl
 have s2 : (strOfNums (List.replicate (padZ a0.size) 0)).size = padZ a0.size := by rw [strOfNums_size, List.length_replicate]
 have s3 (x : Int) : (strOfNums [x / 16777216 % 256, x / 65536 % 256, x / 256 % 256, x % 256]).size = 4 := by rw [strOfNums_size]; rfl
 rw [if_pos (by rw [s1, s2]; omega), if_pos (by rw [ByteArray.size_append, s1, s2, s3]; omega), if_pos (by rw [ByteArray.size_append, ByteArray.size_append, s1, s2, s3, s3]; omega)]
 unfold padS padBytes
 have c (l : List Int) : strOfNums (128 :: l) = (⟨#[128]⟩ : ByteArray) ++ strOfNums l := strApp [128] l
 rw [hi8, strApp, c, strApp, strApp, strBytes]
 simp only [← ByteArray.append_assoc]
 rfl
theorem half_first : ∀ x ∈ hFirst, 0 ≤ x ∧ x ≤ 4294967295 := by decide
theorem half_sha (l : List Int) (t : ByteArray) (h : l.length = 8) : ∀ x ∈ shaB l t, 0 ≤ x ∧ x ≤ 4294967295 := by
 intro x hx
 unfold PH.shaB PH.outs at hx
 rw [List.drop_of_length_le (by omega), List.append_nil] at hx
 obtain ⟨i, _, rfl⟩ := List.mem_map.1 hx
 constructor <;> omega
theorem half_hs (p : ByteArray) : ∀ j, ∀ x ∈ hs p j, 0 ≤ x ∧ x ≤ 4294967295
 | 0 => half_first
 | j + 1 => half_sha _ _ (hs_len p j)
theorem rdS (l : List Int) (i : Nat) (hi : i < l.length) : rd l (i : Int) = l[i] := by simp [rd, hi]
theorem ev_out (s : List Int) (h : s.length = 8) : Ev (fun k => impl_Digest.l1 k (⟨#[]⟩ : ByteArray) s (s.length : Int) 0) (strOfNums (s.flatMap f4)) := by
 have key := evUp (r := strOfNums (s.flatMap f4)) 8 (fun i k => impl_Digest.l1 k (strOfNums ((s.take i).flatMap f4)) s (s.length : Int) (i : Int)) ?_ ?_
 ·exact key
 ·intro i hi ih
  refine evSucc ?_
  simp only [impl_Digest.l1]
  have hsz : (strOfNums ((s.take i).flatMap f4)).size = 4 * i := by rw [strOfNums_size, f4_len, List.length_take]; omega
  refine evPos (by omega) (evPos (by omega) (evPos (by omega) (evBindS (a := strOfNums (f4 s[i])) (by rw [rdS s i (by omega)]; rfl) (evPos (by rw [hsz, strOfNums_size]; simp [f4]; omega) ?_))))
  rw [w64 (by omega) (by omega), ci, ← strApp]
  have e : (s.take i).flatMap f4 ++ f4 s[i] = (s.take (i + 1)).flatMap f4 := by
   rw [List.take_succ_eq_append_getElem (by omega), List.flatMap_append]; simp
  rw [e]
  exact ih
 ·refine evSucc ?_
  simp only [impl_Digest.l1]
  refine evNeg (by omega) (evEq (Ev.now _) ?_)
  rw [List.take_of_length_le (by omega)]
def dig (a0 : ByteArray) : ByteArray := strOfNums ((hs (padS a0) (blocks a0.size)).flatMap f4)
theorem dig_spec (a0 : ByteArray) (hb : a0.size ≤ 1073741824) : spec_Digest.f a0 = some (dig a0) := by
 unfold spec_Digest.f; rw [if_pos hb]; rfl
theorem dig_impl (a0 : ByteArray) (hb : a0.size ≤ 1073741824) : Ev (fun k => impl_Digest.f k a0) (dig a0) := by
 simp only [impl_Digest.f]
 refine evBindS (padEq a0 hb) (evBindS (a := hFirst) rfl ?_)
 have hp := padS_size a0
 have hn : blocks a0.size ≤ 16777218 := by unfold PH.blocks; omega
 unfold dig
 generalize blocks a0.size = nb at hp hn ⊢
 generalize padS a0 = p at hp ⊢
 have key := evUp (r := strOfNums ((hs p nb).flatMap f4)) nb (fun i k => impl_Digest.l0 k p (hs p i) (64 * (i : Int))) ?_ ?_
 ·exact key
 ·intro i hi ih
  refine evSucc ?_
  simp only [impl_Digest.l0]
  have hw : wrap64 (64 * (i : Int) + 64) = 64 * (i : Int) + 64 := w64 (by omega) (by omega)
  rw [hw]
  refine evPos (by omega) (evPos (by omega) (evPos (by omega) (evPos (by omega) (evBindS (a := hs p (i + 1)) ?_ ?_))))
  ·rw [show (64 * (i : Int)).toNat = 64 * i by omega, show (64 * (i : Int) + 64).toNat = 64 * i + 64 by omega]
   unfold impl_ShaBlock.f
   rw [if_pos ⟨hs_len p i, by rw [ByteArray.size_extract]; omega, half_hs p i⟩]
   rfl
  ·rw [show 64 * (i : Int) + 64 = 64 * ((i + 1 : Nat) : Int) by omega]
   exact ih
 ·refine evSucc ?_
  simp only [impl_Digest.l0]
  exact evNeg (by omega) (ev_out _ (hs_len p nb))
end Go.Proofs.YtdhjolglbcoijaaDoor.DigestEq

namespace Go.Proofs.YtdhjolglbcoijaaDoor.Pure
open Go.RowKit Go.Proofs.YtdhjolglbcoijaaDoor.PA Go.Proofs.YtdhjolglbcoijaaDoorW.PrintWords Go.Proofs.YtdhjolglbcoijaaDoorW.PrintLast Go.Proofs.YtdhjolglbcoijaaDoorW.PrintMore Go.Proofs.YtdhjolglbcoijaaDoor.Kit Go.Proofs.YtdhjolglbcoijaaDoor.PureFnSegments
set_option linter.unusedVariables false
set_option linter.unusedSimpArgs false
def rng (x lo hi : Int) : Bool := decide (lo ≤ x) && decide (x ≤ hi)
theorem spec_in (x lo hi : Int) : spec_l01In.f x lo hi = some (rng x lo hi) := by
 unfold spec_l01In.f rng
 by_cases h : x ≥ lo
 ·simp [h]
 ·simp [h]
  try omega
theorem impl_in (x lo hi : Int) : impl_within.f x lo hi = some (rng x lo hi) := by
 unfold impl_within.f rng
 by_cases h : x ≥ lo
 ·simp [h]
 ·simp [h]
  try omega
theorem bits_nat (op : BinOp) (k : IntKind) (x y : Int) : Go.bits op k x y = match op with
 | .and => k.wrap ((BitVec.ofInt k.bits x &&& BitVec.ofInt k.bits y).toNat : Int)
 | .or => k.wrap ((BitVec.ofInt k.bits x ||| BitVec.ofInt k.bits y).toNat : Int)
 | .xor => k.wrap ((BitVec.ofInt k.bits x ^^^ BitVec.ofInt k.bits y).toNat : Int)
 | .andNot => k.wrap ((BitVec.ofInt k.bits x &&& ~~~BitVec.ofInt k.bits y).toNat : Int)
 | _ => Go.bits op k x y := by
 cases op <;> rfl
theorem ofInt_nat32 (n : Nat) (h : n < 4294967296) : (BitVec.ofInt 32 (n : Int)).toNat = n := by
 rw [BitVec.toNat_ofInt]; omega
theorem ofInt_nat64 (n : Nat) (h : n < 18446744073709551616) : (BitVec.ofInt 64 (n : Int)).toNat = n := by
 rw [BitVec.toNat_ofInt]; omega
theorem wrap_u32 (x : Int) : IntKind.wrap .u32 x = x % 4294967296 := rfl
theorem wrap_i64 (x : Int) : IntKind.wrap .i64 x = wrap64 x := i64_w x
theorem xor_u32_rng (x y : Int) : 0 ≤ Go.bits .xor .u32 x y ∧ Go.bits .xor .u32 x y < 4294967296 := by
 rw [bits_nat]
 show 0 ≤ IntKind.wrap .u32 _ ∧ IntKind.wrap .u32 _ < _
 rw [wrap_u32]
 omega
theorem and_u32_one (x : Int) (h0 : 0 ≤ x) (h1 : x < 4294967296) : Go.bits .and .u32 x 1 = x % 2 := by
 rw [bits_nat]
 show IntKind.wrap .u32 ((BitVec.ofInt 32 x &&& BitVec.ofInt 32 ((1 : Nat) : Int)).toNat : Int) = _
 obtain ⟨n, rfl⟩ := Int.eq_ofNat_of_zero_le h0
 rw [BitVec.toNat_and, ofInt_nat32 n (by omega), ofInt_nat32 1 (by omega), Nat.and_one_is_mod, wrap_u32]
 omega
theorem var_byte (x : Int) (h0 : 0 ≤ x) (h1 : x ≤ 1000000000) : (Go.bits .or .i64 (Go.bits .and .i64 x 127) 128) % 256 = x % 128 + 128 := by
 obtain ⟨n, rfl⟩ := Int.eq_ofNat_of_zero_le h0
 have e1 : Go.bits .and .i64 (n : Int) 127 = ((n % 128 : Nat) : Int) := by
  rw [bits_nat]
  show IntKind.wrap .i64 ((BitVec.ofInt 64 (n : Int) &&& BitVec.ofInt 64 ((127 : Nat) : Int)).toNat : Int) = _
  rw [BitVec.toNat_and, ofInt_nat64 n (by omega), ofInt_nat64 127 (by omega), wrap_i64]
  have : n &&& 127 = n % 128 := Nat.and_two_pow_sub_one_eq_mod n 7
  rw [this, w64 (by omega) (by omega)]
 rw [e1, bits_nat]
 show IntKind.wrap .i64 ((BitVec.ofInt 64 ((n % 128 : Nat) : Int) ||| BitVec.ofInt 64 ((128 : Nat) : Int)).toNat : Int) % 256 = _
 rw [BitVec.toNat_or, ofInt_nat64 (n % 128) (by omega), ofInt_nat64 128 (by omega), wrap_i64]
 have h : ∀ m : Fin 128, (m.val ||| 128) = m.val + 128 := by decide
 have hm := h ⟨n % 128, by omega⟩
 have e2 : (n % 128 ||| 128) = n % 128 + 128 := hm
 rw [e2, w64 (by omega) (by omega)]
 omega
def varL (n : Nat) : List Int := if h : n ≤ 127 then [(n : Int)] else ((n % 128 + 128 : Nat) : Int) :: varL (n / 128)
 termination_by n
 decreasing_by omega
theorem varL_small (n : Nat) (h : n ≤ 127) : varL n = [(n : Int)] := by rw [varL, dif_pos h]
theorem varL_big (n : Nat) (h : 127 < n) : varL n = ((n % 128 + 128 : Nat) : Int) :: varL (n / 128) := by rw [varL, dif_neg (by omega)]
theorem varL_len (n : Nat) (h : n ≤ 1000000000) : (varL n).length ≤ 5 := by
 have key : ∀ (j n : Nat), n < 128 ^ (j + 1) → (varL n).length ≤ j + 1 := by
  intro j
  induction j with
  | zero => intro n h; rw [varL_small n (by omega)]; simp
  | succ j ih =>
   intro n h
   by_cases hn : n ≤ 127
   ·rw [varL_small n hn]; simp
   ·rw [varL_big n (by omega), List.length_cons]
    have := ih (n / 128) (by rw [Nat.pow_succ] at h; omega)
    omega
 exact key 4 n (by omega)
def varS (n : Int) : ByteArray := strOfNums (varL n.toNat)
theorem varS_size (n : Int) (h : n ≤ 1000000000) : (varS n).size ≤ 5 := by
 unfold varS; rw [strOfNums_size]; exact varL_len _ (by omega)
theorem ev_spec_l01Var (n : Int) (h0 : 0 ≤ n) (h1 : n ≤ 1000000000) : Ev (fun k => spec_l01Var.f k n) (varS n) := by
 have key : ∀ (m : Nat) (acc : List Int), m ≤ 1000000000 → acc.length + m ≤ 2000000000 → Ev (fun k => spec_l01Var.l0 k (m : Int) acc) (strOfNums (acc ++ varL m)) := by
  intro m
  induction m using Nat.strongRecOn with
  | ind m ih =>
   intro acc hm ha
   refine evSucc ?_
   simp only [spec_l01Var.l0]
   have e : Int.tdiv (m : Int) 128 = ((m / 128 : Nat) : Int) := by rw [Int.tdiv_eq_ediv_of_nonneg (by omega)]; omega
   have e2 : Int.tmod (m : Int) 128 = ((m % 128 : Nat) : Int) := by rw [Int.tmod_eq_emod_of_nonneg (by omega)]; omega
   by_cases hb : m ≤ 127
   ·refine evNeg (by omega) (evPos (by omega) ?_)
    rw [varL_small m hb, show (m : Int) % 256 = m by omega]
    exact Ev.now _
   ·refine evPos (by omega) (evPos (by omega) ?_)
    rw [e, e2, w64 (by omega) (by omega), w64 (by omega) (by omega), varL_big m (by omega)]
    have := ih (m / 128) (by omega) (acc ++ [((m % 128 + 128 : Nat) : Int)]) (by omega) (by simp; omega)
    rw [List.append_assoc] at this
    rw [show (((m % 128 : Nat) : Int) + 128) % 256 = ((m % 128 + 128 : Nat) : Int) by omega]
    exact this
 have := key n.toNat [] (by omega) (by simp; omega)
 rw [Int.toNat_of_nonneg h0] at this
 exact this
theorem ev_impl_VarText (n : Int) : Ev (fun k => impl_VarText.f k n) (if rng n 0 1000000000 = true then (varS n, true) else (⟨#[]⟩, false)) := by
 simp only [impl_VarText.f, impl_in, Option.bind_some]
 refine evIte (fun h => ?_) (fun h => Ev.now _)
 have hr : 0 ≤ n ∧ n ≤ 1000000000 := by unfold rng at h; simpa using h
 have key : ∀ (m : Nat) (acc : List Int), m ≤ 1000000000 → acc.length + m ≤ 2000000000 → Ev (fun k => impl_VarText.l0 k (m : Int) acc) (strOfNums (acc ++ varL m), true) := by
  intro m
  induction m using Nat.strongRecOn with
  | ind m ih =>
   intro acc hm ha
   refine evSucc ?_
   simp only [impl_VarText.l0]
   by_cases hb : m ≤ 127
   ·refine evNeg (by omega) (evPos (by omega) ?_)
    rw [varL_small m hb, show (m : Int) % 256 = m by omega]
    exact Ev.now _
   ·refine evPos (by omega) (evPos (by omega) ?_)
    rw [var_byte m (by omega) (by omega), varL_big m (by omega)]
    have := ih (m / 128) (by omega) (acc ++ [((m % 128 + 128 : Nat) : Int)]) (by omega) (by simp; omega)
    rw [List.append_assoc] at this
    rw [show (m : Int) / 128 = ((m / 128 : Nat) : Int) by omega, show (m : Int) % 128 + 128 = ((m % 128 + 128 : Nat) : Int) by omega]
    exact this
 have := key n.toNat [] (by omega) (by simp; omega)
 rw [Int.toNat_of_nonneg hr.1] at this
 exact this
theorem ev_impl_VarText_ok (n : Int) (h0 : 0 ≤ n) (h1 : n ≤ 1000000000) : Ev (fun k => impl_VarText.f k n) (varS n, true) :=
 evEq (ev_impl_VarText n) (if_pos (by unfold rng; simp [h0, h1]))
def itemB (a b c d : Int) : Bool := if a = 1 then rng b 0 4294967295 && (rng c 0 4294967295 && d == 0) else if a = 2 then rng d 1 1000000000 && (b == 0 && c == 0) else false
theorem spec_itemB (a b c d : Int) : spec_ItemOk.f a b c d = some (itemB a b c d) := by
 unfold spec_ItemOk.f itemB
 simp only [spec_HalfOk.f, spec_in, Option.bind_some]
 by_cases h1 : a = 1
 ·rw [if_pos h1, if_pos h1]
  cases rng b 0 4294967295 <;> cases rng c 0 4294967295 <;> simp
 ·rw [if_neg h1, if_neg h1]
  by_cases h2 : a = 2
  ·rw [if_pos h2, if_pos h2]
   by_cases hb : b = 0
   ·cases rng d 1 1000000000 <;> simp [hb]
   ·cases rng d 1 1000000000 <;> simp [hb]
  ·rw [if_neg h2, if_neg h2]
theorem impl_itemB (a b c d : Int) : impl_ItemOk.f a b c d = some (itemB a b c d) := by
 unfold impl_ItemOk.f itemB
 simp only [impl_HalfOk.f, impl_in, Option.bind_some]
 by_cases h1 : a = 1
 ·rw [if_pos h1, if_pos h1]
  cases rng b 0 4294967295 <;> cases rng c 0 4294967295 <;> simp
 ·rw [if_neg h1, if_neg h1]
  by_cases h2 : a = 2
  ·rw [if_pos h2, if_pos h2]
   by_cases hb : b = 0
   ·cases rng d 1 1000000000 <;> simp [hb]
   ·cases rng d 1 1000000000 <;> simp [hb]
  ·rw [if_neg h2, if_neg h2]
def frameB (a b c d e f g : Int) : Bool := rng b 0 2 && (rng c 1 1000000000 && (if a = 1 then itemB d e f g else if a = 2 then (d == 0 && (e == 0 && (f == 0 && (g == 0)))) else false))
theorem ev_spec_FrameOk (a b c d e f g : Int) : Ev (fun k => spec_FrameOk.f k a b c d e f g) (frameB a b c d e f g) := by
 simp only [spec_FrameOk.f, spec_in, Option.bind_some]
 unfold frameB
 cases rng b 0 2
 ·refine evNeg (by simp) (evSucc ?_)
  simp only [spec_FrameOk.j0, Bool.false_and]
  exact evPos (by simp) (Ev.now _)
 ·refine evPos rfl (evSucc ?_)
  simp only [spec_FrameOk.j0, spec_itemB, Option.bind_some, Bool.true_and]
  cases rng c 1 1000000000
  ·exact evPos (by decide) (Ev.now _)
  ·refine evNeg (by simp) ?_
   simp only [Bool.true_and]
   exact evIte (fun _ => Ev.now _) (fun _ => evIte (fun _ => Ev.now _) (fun _ => Ev.now _))
theorem ev_impl_FrameOk (a b c d e f g : Int) : Ev (fun k => impl_FrameOk.f k a b c d e f g) (frameB a b c d e f g) := by
 simp only [impl_FrameOk.f, impl_isPid.f, impl_in, Option.bind_some]
 unfold frameB
 cases rng b 0 2
 ·refine evNeg (by simp) (evSucc ?_)
  simp only [impl_FrameOk.j0, Bool.false_and]
  exact evPos (by simp) (Ev.now _)
 ·refine evPos rfl (evSucc ?_)
  simp only [impl_FrameOk.j0, impl_itemB, Option.bind_some, Bool.true_and]
  cases rng c 1 1000000000
  ·exact evPos (by decide) (Ev.now _)
  ·refine evNeg (by simp) ?_
   simp only [Bool.true_and]
   exact evIte (fun _ => Ev.now _) (fun _ => evIte (fun _ => Ev.now _) (fun _ => Ev.now _))
theorem itemB_count {a b c d : Int} (h : itemB a b c d = true) : 0 ≤ d ∧ d ≤ 1000000000 := by
 unfold itemB rng at h
 split at h
 ·simp at h; omega
 ·split at h
  ·simp at h; omega
  ·simp at h
theorem frameB_facts {a b c d e f g : Int} (h : frameB a b c d e f g = true) : (0 ≤ b ∧ b ≤ 2) ∧ (1 ≤ c ∧ c ≤ 1000000000) ∧ (0 ≤ g ∧ g ≤ 1000000000) ∧ (a = 1 ∨ a = 2) := by
 unfold frameB at h
 simp only [Bool.and_eq_true] at h
 obtain ⟨h1, h2, h3⟩ := h
 unfold rng at h1 h2
 simp at h1 h2
 refine ⟨h1, h2, ?_⟩
 split at h3
 ·rename_i ha
  exact ⟨itemB_count h3, Or.inl ha⟩
 ·split at h3
  ·rename_i ha
   simp at h3
   exact ⟨by omega, Or.inr ha⟩
  ·simp at h3
def sumBit (x : Int) : Int := if x % 2 = 1 then Go.bits .xor .u32 (x / 2) 3558460437 else x / 2
def sumByte (x b : Int) : Int := sumBit (sumBit (sumBit (sumBit (sumBit (sumBit (sumBit (sumBit (Go.bits .xor .u32 x b))))))))
def sumAll (x : Int) (s : ByteArray) : Nat → Int
 | 0 => x
 | i + 1 => sumByte (sumAll x s i) (bt s i)
theorem sumBit_rng (x : Int) (h : 0 ≤ x ∧ x < 4294967296) : 0 ≤ sumBit x ∧ sumBit x < 4294967296 := by
 unfold sumBit
 split
 ·exact xor_u32_rng _ _
 ·omega
theorem sumByte_rng (x b : Int) : 0 ≤ sumByte x b ∧ sumByte x b < 4294967296 := by
 unfold sumByte
 repeat (first | exact xor_u32_rng _ _ | apply sumBit_rng)
theorem sumAll_rng (x : Int) (s : ByteArray) (h : 0 ≤ x ∧ x < 4294967296) : ∀ i, 0 ≤ sumAll x s i ∧ sumAll x s i < 4294967296
 | 0 => h
 | _ + 1 => sumByte_rng _ _
theorem sum_impl_step (x : Int) (s : ByteArray) (i j r : Int) (h : 0 ≤ x ∧ x < 4294967296) (hj : j < 8 ∧ 0 ≤ j) (next : Ev (fun k => impl_SumMore.l1 k (sumBit x) s i (j + 1)) r) : Ev (fun k => impl_SumMore.l1 k x s i j) r := by
 refine evSucc ?_
 simp only [impl_SumMore.l1]
 refine evPos hj.1 ?_
 rw [and_u32_one x h.1 h.2, w64 (by omega) (by omega)]
 unfold sumBit at next
 by_cases hx : x % 2 = 1
 ·rw [if_pos hx] at next; exact evPos hx next
 ·rw [if_neg hx] at next; exact evNeg hx next
theorem sum_spec_step (x : Int) (s : ByteArray) (i j r : Int) (h : 0 ≤ x ∧ x < 4294967296) (hj : j < 8 ∧ 0 ≤ j) (next : Ev (fun k => spec_SumMore.l1 k (sumBit x) s i (j + 1)) r) : Ev (fun k => spec_SumMore.l1 k x s i j) r := by
 refine evSucc ?_
 simp only [spec_SumMore.l1]
 refine evPos hj.1 ?_
 rw [Int.tmod_eq_emod_of_nonneg h.1, Int.tdiv_eq_ediv_of_nonneg h.1, w64 (by omega) (by omega), show x / 2 % 4294967296 = x / 2 by omega]
 unfold sumBit at next
 by_cases hx : x % 2 = 1
 ·rw [if_pos hx] at next; exact evPos hx next
 ·rw [if_neg hx] at next; exact evNeg hx next
theorem ev_impl_SumMore (x : Int) (s : ByteArray) (h : 0 ≤ x ∧ x < 4294967296) (hs : s.size ≤ 140737488351232) : Ev (fun k => impl_SumMore.f k x s) (sumAll x s s.size) := by
 have key := evUp (r := sumAll x s s.size) s.size (fun i k => impl_SumMore.l0 k (sumAll x s i) s (i : Int)) ?_ ?_
 ·exact key
 ·intro i hi ih
  refine evSucc ?_
  simp only [impl_SumMore.l0]
  have hb := bt_range s (i : Int)
  refine evPos (by omega) (evPos (by omega) ?_)
  rw [show bt s (i : Int) % 4294967296 = bt s (i : Int) by omega]
  iterate 8 (refine sum_impl_step _ _ _ _ _ (by repeat (first | exact xor_u32_rng _ _ | apply sumBit_rng)) (by decide) ?_)
  refine evSucc ?_
  simp only [impl_SumMore.l1]
  refine evNeg (by decide) ?_
  rw [w64 (by omega) (by omega), ci]
  exact ih
 ·refine evSucc ?_
  simp only [impl_SumMore.l0]
  exact evNeg (by omega) (Ev.now _)
theorem ev_spec_SumMore (x : Int) (s : ByteArray) (h : 0 ≤ x ∧ x < 4294967296) (hs : s.size ≤ 140737488351232) : Ev (fun k => spec_SumMore.f k x s) (sumAll x s s.size) := by
 have key := evUp (r := sumAll x s s.size) s.size (fun i k => spec_SumMore.l0 k (sumAll x s i) s (i : Int)) ?_ ?_
 ·exact key
 ·intro i hi ih
  refine evSucc ?_
  simp only [spec_SumMore.l0]
  have hb := bt_range s (i : Int)
  refine evPos (by omega) (evPos (by omega) ?_)
  rw [show bt s (i : Int) % 4294967296 = bt s (i : Int) by omega]
  iterate 8 (refine sum_spec_step _ _ _ _ _ (by repeat (first | exact xor_u32_rng _ _ | apply sumBit_rng)) (by decide) ?_)
  refine evSucc ?_
  simp only [spec_SumMore.l1]
  refine evNeg (by decide) ?_
  rw [w64 (by omega) (by omega), ci]
  exact ih
 ·refine evSucc ?_
  simp only [spec_SumMore.l0]
  exact evNeg (by omega) (Ev.now _)
def sumS (s : ByteArray) : Int := sumAll 4294967295 s s.size
theorem sumS_rng (s : ByteArray) : 0 ≤ sumS s ∧ sumS s < 4294967296 := sumAll_rng _ _ (by omega) _
def four4 (n : Int) : ByteArray := strOfNums [(n / 16777216) % 256, (n / 65536) % 256, (n / 256) % 256, n % 256]
theorem four4_size (n : Int) : (four4 n).size = 4 := by simp [four4, strOfNums_size]
theorem impl_four4 (n : Int) : impl_four.f n = some (four4 n) := rfl
theorem spec_four4 (n : Int) : spec_l06Four.f n = some (four4 n) := rfl
theorem spec_four2 (n : Int) : spec_l02Four.f n = some (four4 n) := rfl
def sealB (s : ByteArray) : ByteArray × Bool := if s.size ≤ 20000 then (s ++ four4 (sumS s), true) else (⟨#[]⟩, false)
theorem ev_impl_Sealed (s : ByteArray) (hs : s.size ≤ 140737488351232) : Ev (fun k => impl_Sealed.f k s) (sealB s) := by
 simp only [impl_Sealed.f, impl_SumOf.f]
 unfold sealB
 by_cases h : s.size ≤ 20000
 ·have hr := sumS_rng s
  rw [if_pos h]
  refine evNeg (by omega) (Ev.bind (Ev.bind (ev_impl_SumMore _ s (by omega) hs) (Ev.now _)) ?_)
  rw [show sumAll 4294967295 s s.size = sumS s from rfl, w64 (by omega) (by omega)]
  simp only [impl_four4, Option.bind_some]
  exact evPos (by rw [four4_size]; omega) (Ev.now _)
 ·rw [if_neg h]
  exact evPos (by omega) (Ev.now _)
theorem ev_spec_Sealed (s : ByteArray) (hs : s.size ≤ 140737488351232) : Ev (fun k => spec_Sealed.f k s) (sealB s) := by
 simp only [spec_Sealed.f, spec_SumOf.f]
 unfold sealB
 by_cases h : s.size ≤ 20000
 ·rw [if_pos h]
  refine evNeg (by omega) (Ev.bind (Ev.bind (ev_spec_SumMore _ s (by omega) hs) (Ev.now _)) ?_)
  rw [show sumAll 4294967295 s s.size = sumS s from rfl]
  simp only [spec_four2, Option.bind_some]
  exact evPos (by rw [four4_size]; omega) (Ev.now _)
 ·rw [if_neg h]
  exact evPos (by omega) (Ev.now _)
def frameRaw (a b c d e f g : Int) : ByteArray := ((((strOfNums [a % 256, b % 256] ++ varS c) ++ strOfNums [d % 256]) ++ four4 e) ++ four4 f) ++ varS g
theorem frameRaw_size {a b c d e f g : Int} (hc : c ≤ 1000000000) (hg : g ≤ 1000000000) : (frameRaw a b c d e f g).size ≤ 21 := by
 have h1 := varS_size c hc
 have h2 := varS_size g hg
 unfold frameRaw
 simp only [sizeApp, strOfNums_size, four4_size, List.length_cons, List.length_nil]
 omega
def frameS (a b c d e f g : Int) : ByteArray × Bool := if frameB a b c d e f g = true then (frameRaw a b c d e f g ++ four4 (sumS (frameRaw a b c d e f g)), true) else (⟨#[]⟩, false)
theorem frameS_size (a b c d e f g : Int) : (frameS a b c d e f g).1.size ≤ 25 := by
 unfold frameS
 split
 ·rename_i h
  obtain ⟨_, ⟨_, h2⟩, ⟨_, h3⟩, _⟩ := frameB_facts h
  have := frameRaw_size (a := a) (b := b) (d := d) (e := e) (f := f) h2 h3
  rw [sizeApp, four4_size]
  omega
 ·decide
theorem ev_spec_FrameText (a b c d e f g : Int) : Ev (fun k => spec_FrameText.f k a b c d e f g) (frameS a b c d e f g) := by
 simp only [spec_FrameText.f]
 refine Ev.bind (ev_spec_FrameOk a b c d e f g) ?_
 unfold frameS
 by_cases h : frameB a b c d e f g = true
 ·obtain ⟨_, hc, hg, _⟩ := frameB_facts h
  have s1 := varS_size c hc.2
  have s2 := varS_size g hg.2
  have hr := frameRaw_size (a := a) (b := b) (d := d) (e := e) (f := f) hc.2 hg.2
  have hsz2 (x y : Int) : (strOfNums [x, y]).size = 2 := by rw [strOfNums_size]; rfl
  have hsz1 (x : Int) : (strOfNums [x]).size = 1 := by rw [strOfNums_size]; rfl
  rw [if_pos h]
  refine evPos h ?_
  simp only [Option.bind_some, spec_four4]
  refine Ev.bind (ev_spec_l01Var c (by omega) hc.2) (evPos (by rw [hsz2]; omega) (evPos (by simp only [sizeApp, hsz2, hsz1]; omega) (evPos (by simp only [sizeApp, hsz2, hsz1, four4_size]; omega) (evPos (by simp only [sizeApp, hsz2, hsz1, four4_size]; omega) ?_))))
  refine Ev.bind (ev_spec_l01Var g (by omega) hg.2) (evPos (by simp only [sizeApp, hsz2, hsz1, four4_size]; omega) ?_)
  refine Ev.bind (ev_spec_Sealed (frameRaw a b c d e f g) (by omega)) (evEq (Ev.now _) ?_)
  unfold sealB
  rw [if_pos (by omega)]
 ·rw [if_neg h]
  exact evNeg h (Ev.now _)
theorem ev_impl_FrameText (a b c d e f g : Int) : Ev (fun k => impl_FrameText.f k a b c d e f g) (frameS a b c d e f g) := by
 simp only [impl_FrameText.f]
 refine Ev.bind (ev_impl_FrameOk a b c d e f g) ?_
 unfold frameS
 by_cases h : frameB a b c d e f g = true
 ·obtain ⟨_, hc, hg, _⟩ := frameB_facts h
  have s1 := varS_size c hc.2
  have s2 := varS_size g hg.2
  have hr := frameRaw_size (a := a) (b := b) (d := d) (e := e) (f := f) hc.2 hg.2
  have hsz2 (x y : Int) : (strOfNums [x, y]).size = 2 := by rw [strOfNums_size]; rfl
  have hsz1 (x : Int) : (strOfNums [x]).size = 1 := by rw [strOfNums_size]; rfl
  rw [if_pos h]
  refine evPos h ?_
  refine Ev.bind (ev_impl_VarText_ok c (by omega) hc.2) (Ev.bind (ev_impl_VarText_ok g (by omega) hg.2) ?_)
  simp only [Option.bind_some, impl_four4]
  refine evPos (by rw [hsz2]; omega) (evPos (by simp only [sizeApp, hsz2, hsz1]; omega) (evPos (by simp only [sizeApp, hsz2, hsz1, four4_size]; omega) (evPos (by simp only [sizeApp, hsz2, hsz1, four4_size]; omega) (evPos (by simp only [sizeApp, hsz2, hsz1, four4_size]; omega) ?_))))
  refine Ev.bind (ev_impl_Sealed (frameRaw a b c d e f g) (by omega)) (evEq (Ev.now _) ?_)
  unfold sealB
  rw [if_pos (by omega)]
 ·rw [if_neg h]
  exact evNeg h (Ev.now _)
def entryS (b c d e f g : Int) : ByteArray := (frameS 1 b c d e f g).1
theorem entryS_size (b c d e f g : Int) : (entryS b c d e f g).size ≤ 25 := frameS_size 1 b c d e f g
theorem ev_spec_EntryText (b c d e f g : Int) : Ev (fun k => spec_EntryText.f k b c d e f g) (entryS b c d e f g) := by
 simp only [spec_EntryText.f]
 exact Ev.bind (ev_spec_FrameText 1 b c d e f g) (Ev.now _)
theorem ev_impl_EntryText (b c d e f g : Int) : Ev (fun k => impl_EntryText.f k b c d e f g) (entryS b c d e f g) := by
 simp only [impl_EntryText.f]
 exact Ev.bind (ev_impl_FrameText 1 b c d e f g) (Ev.now _)
open DigestEq (dig dig_spec dig_impl)
theorem rdE (l : List S70) (i : Nat) (hi : i < l.length) : rd_T70 l (i : Int) = l[i] := by simp [rd_T70, hi]
theorem dig_size (s : ByteArray) : (dig s).size = 32 := by
 unfold DigestEq.dig
 rw [strOfNums_size, PH.f4_len, PH.hs_len]
def entryT (x : S70) : ByteArray := entryS x.f0 x.f1 x.f2.f0 x.f2.f1 x.f2.f2 x.f2.f3
theorem entryT_size (x : S70) : (entryT x).size ≤ 25 := entryS_size _ _ _ _ _ _
def headStep (h : ByteArray) (x : S70) : ByteArray := dig (h ++ entryT x)
def headS (h : ByteArray) (l : List S70) : ByteArray := l.foldl headStep h
theorem headS_size (h : ByteArray) (l : List S70) : (headS h l).size ≤ h.size + 32 := by
 rcases List.eq_nil_or_concat l with rfl | ⟨l', x, rfl⟩
 ·exact Nat.le_add_right _ _
 ·unfold headS
  rw [List.concat_eq_append, List.foldl_append]
  show (dig _).size ≤ _
  rw [dig_size]; omega
theorem headS_step (h : ByteArray) (l : List S70) (i : Nat) (hi : i < l.length) : headS h (l.take (i + 1)) = dig (headS h (l.take i) ++ entryT l[i]) := by
 unfold headS
 rw [takeSnoc l i hi, List.foldl_append]
 rfl
theorem ev_impl_HeadFrom (h : ByteArray) (l : List S70) (hh : h.size ≤ 16777216) (hl : l.length ≤ 16777216) : Ev (fun k => impl_HeadFrom.f k h l) (headS h l) := by
 have key := evUp (r := headS h l) l.length (fun i k => impl_HeadFrom.l0 k (headS h (l.take i)) l (l.length : Int) (i : Int)) ?_ ?_
 ·exact key
 ·intro i hi ih
  refine evSucc ?_
  simp only [impl_HeadFrom.l0]
  have hs := headS_size h (l.take i)
  have he := entryT_size l[i]
  rw [rdE l i hi, w64 (by omega) (by omega), ci]
  refine evPos (by omega) (evPos (by omega) (evPos (by omega) (Ev.bind (ev_impl_EntryText _ _ _ _ _ _) (evPos ?_ ?_))))
  ·show _ + (entryT l[i]).size ≤ _
   omega
  refine Ev.bind (dig_impl _ (by rw [sizeApp]; show _ + (entryT l[i]).size ≤ _; omega)) ?_
  rw [headS_step h l i hi] at ih
  exact ih
 ·refine evSucc ?_
  simp only [impl_HeadFrom.l0]
  refine evNeg (by omega) ?_
  rw [List.take_length]
  exact Ev.now _
theorem evUpP {α : Type} {r : α} (n : Nat) (P : Nat → Prop) (g : Nat → Nat → Option α) (h0 : P 0) (step : ∀ i, i < n → P i → (P (i + 1) → Ev (g (i + 1)) r) → Ev (g i) r) (last : P n → Ev (g n) r) : Ev (g 0) r := by
 have key : ∀ d i, i + d = n → P i → Ev (g i) r := by
  intro d
  induction d with
  | zero => intro i hi hp; rw [show i = n by omega] at hp ⊢; exact last hp
  | succ d ih => intro i hi hp; exact step i (by omega) hp (fun hp' => ih (i + 1) (by omega) hp')
 exact key n 0 (by omega) h0
theorem sizeData (s : ByteArray) : s.size = s.data.toList.length := by
 show s.data.size = _
 rw [Array.length_toList]
theorem toList_loop (bs : ByteArray) : ∀ (d i : Nat) (r : List UInt8), i + d = bs.size → ByteArray.toList.loop bs i r = r.reverse ++ bs.data.toList.drop i := by
 have hsz := sizeData bs
 intro d
 induction d with
 | zero =>
  intro i r h
  rw [ByteArray.toList.loop, if_neg (by omega), List.drop_of_length_le (by omega)]
  simp
 | succ d ih =>
  intro i r h
  rw [ByteArray.toList.loop, if_pos (by omega), ih (i + 1) _ (by omega)]
  have hi : i < bs.data.toList.length := by omega
  rw [List.drop_eq_getElem_cons hi]
  have hb : i < bs.data.size := by rw [← Array.length_toList]; exact hi
  have hg : bs.get! i = bs.data[i] := by
   show bs.data[i]! = _
   exact getElem!_pos bs.data i hb
  rw [List.reverse_cons, List.append_assoc, hg]
  simp
theorem toList_data (bs : ByteArray) : bs.toList = bs.data.toList := by
 unfold ByteArray.toList
 rw [toList_loop bs bs.size 0 [] (by omega)]
 simp
theorem toList_inj {a b : ByteArray} (h : a.toList = b.toList) : a = b := by
 rw [toList_data, toList_data] at h
 exact ByteArray.ext (Array.ext' h)
theorem toList_iff {a b : ByteArray} : a.toList = b.toList ↔ a = b := ⟨toList_inj, fun h => by rw [h]⟩
theorem toList_nil {a : ByteArray} : a.toList = ([] : List UInt8) ↔ a.size = 0 := by
 rw [toList_data, sizeData]
 exact List.length_eq_zero_iff.symm
def okE (x : S70) : Bool := frameB 1 x.f0 x.f1 x.f2.f0 x.f2.f1 x.f2.f2 x.f2.f3
theorem entryT_no (x : S70) (h : okE x = false) : entryT x = ⟨#[]⟩ := by
 unfold okE at h
 unfold entryT entryS frameS
 rw [h]
 rfl
theorem entryT_yes (x : S70) (h : okE x = true) : 4 ≤ (entryT x).size := by
 unfold okE at h
 unfold entryT entryS frameS
 rw [if_pos h]
 show 4 ≤ (_ ++ four4 _).size
 rw [sizeApp, four4_size]
 omega
theorem entryT_nil (x : S70) : (entryT x).toList = ([] : List UInt8) ↔ okE x = false := by
 rw [toList_nil]
 constructor
 ·intro h
  cases hx : okE x
  ·rfl
  ·have := entryT_yes x hx
   omega
 ·intro h
  rw [entryT_no x h]
  rfl
def logStep (s : ByteArray) (x : S70) : ByteArray := (s ++ varS ((entryT x).size : Int)) ++ entryT x
def logRaw (l : List S70) : ByteArray := l.foldl logStep ⟨#[]⟩
theorem logRaw_step (l : List S70) (i : Nat) (hi : i < l.length) : logRaw (l.take (i + 1)) = (logRaw (l.take i) ++ varS ((entryT l[i]).size : Int)) ++ entryT l[i] := by
 unfold logRaw
 rw [takeSnoc l i hi, List.foldl_append]
 rfl
theorem logRaw_snoc (l : List S70) (x : S70) : logRaw (l ++ [x]) = (logRaw l ++ varS ((entryT x).size : Int)) ++ entryT x := by
 unfold logRaw
 rw [List.foldl_append]
 rfl
theorem logRaw_size (l : List S70) : (logRaw l).size ≤ 30 * l.length := by
 have key : ∀ (l : List S70) (s : ByteArray), (l.foldl logStep s).size ≤ s.size + 30 * l.length := by
  intro l
  induction l with
  | nil => intro s; simp
  | cons x l ih =>
   intro s
   have h1 := ih (logStep s x)
   have h2 := entryT_size x
   have h3 := varS_size ((entryT x).size : Int) (by omega)
   rw [List.foldl_cons, List.length_cons]
   have h4 : (logStep s x).size ≤ s.size + 30 := by unfold logStep; rw [sizeApp, sizeApp]; omega
   omega
 have h := key l ⟨#[]⟩
 have h0 : (⟨#[]⟩ : ByteArray).size = 0 := rfl
 unfold logRaw
 omega
def logB (l : List S70) : ByteArray × Bool := if l.length ≤ 200 ∧ l.all okE = true then (logRaw l, true) else (⟨#[]⟩, false)
theorem allSnoc (l : List S70) (i : Nat) (hi : i < l.length) : (l.take (i + 1)).all okE = ((l.take i).all okE && okE l[i]) := by
 rw [takeSnoc l i hi, List.all_append]
 simp
theorem notAll (l : List S70) (i : Nat) (hi : i < l.length) (ho : okE l[i] = false) : ¬ l.all okE = true := fun z => by
 rw [List.all_eq_true] at z
 have := z _ (List.getElem_mem hi)
 rw [ho] at this
 cases this
def segB (a : Int) (b : ByteArray) (l : List S70) (d : ByteArray) : Bool :=
 if 0 ≤ a ∧ a ≤ 200 ∧ b.size = 32 ∧ 1 ≤ l.length ∧ l.length ≤ 200 ∧ l.all okE = true then d.toList == (headS b l).toList else false
theorem ev_impl_SegmentOk (a : Int) (b : ByteArray) (l : List S70) (d : ByteArray) : Ev (fun k => impl_SegmentOk.f k a b l d) (segB a b l d) := by
 have no : ∀ x, x = false → Ev (fun k => impl_SegmentOk.j0 k true a b l d) x := fun x hx => by
  subst hx
  refine evSucc ?_
  simp only [impl_SegmentOk.j0]
  exact evPos (by simp) (Ev.now _)
 simp only [impl_SegmentOk.f, impl_in, Option.bind_some]
 by_cases h1 : 0 ≤ a ∧ a ≤ 200
 ·rw [show rng a 0 200 = true by unfold rng; simp [h1]]
  refine evPos rfl ?_
  by_cases h2 : b.size = 32
  ·refine evPos (by omega) ?_
   by_cases h3 : 1 ≤ l.length ∧ l.length ≤ 200
   ·rw [show rng (l.length : Int) 1 200 = true by unfold rng; simp; omega]
    refine evSucc ?_
    simp only [impl_SegmentOk.j0]
    refine evNeg (by simp) ?_
    refine evUpP l.length (fun i => (l.take i).all okE = true) (fun i k => impl_SegmentOk.l0 k l (l.length : Int) (i : Int) a b l d) rfl ?_ ?_
    ·intro i hi hp ih
     refine evSucc ?_
     simp only [impl_SegmentOk.l0]
     rw [rdE l i hi, w64 (by omega) (by omega), ci]
     refine evPos (by omega) (evPos (by omega) (evPos (by omega) (Ev.bind (ev_impl_EntryText _ _ _ _ _ _) ?_)))
     show Ev (fun k => if (entryT l[i]).toList = ([] : List UInt8) then _ else _) _
     cases ho : okE l[i]
     ·refine evPos ((entryT_nil _).2 ho) (evEq (Ev.now _) ?_)
      unfold segB
      rw [if_neg (fun z => notAll l i hi ho z.2.2.2.2.2)]
     ·exact evNeg (fun z => by rw [(entryT_nil _).1 z] at ho; cases ho) (ih (by rw [allSnoc l i hi, hp, ho]; rfl))
    ·intro hp
     refine evSucc ?_
     simp only [impl_SegmentOk.l0]
     rw [List.take_length] at hp
     unfold segB
     rw [if_pos ⟨h1.1, h1.2, h2, h3.1, h3.2, hp⟩]
     exact evNeg (by omega) (Ev.bind (ev_impl_HeadFrom b l (by omega) (by omega)) (Ev.now _))
   ·rw [show rng (l.length : Int) 1 200 = false by unfold rng; simp; omega]
    exact no _ (by unfold segB; rw [if_neg (by omega)])
  ·exact evNeg (by omega) (no _ (by unfold segB; rw [if_neg (fun z => h2 z.2.2.1)]))
 ·rw [show rng a 0 200 = false by unfold rng; simp; omega]
  exact evNeg (by simp) (no _ (by unfold segB; rw [if_neg (fun z => h1 ⟨z.1, z.2.1⟩)]))
def joinGo : List S30 → List S70 → ByteArray → List S70 × Bool
 | [], out, _ => (out, true)
 | s :: l, out, h => if segB s.f0 s.f1 s.f2 s.f3 = true ∧ s.f0 = (out.length : Int) ∧ s.f1 = h then joinGo l (out ++ s.f2) s.f3 else ([], false)
def joinS (l : List S30) : List S70 × Bool := joinGo l [] (dig ⟨#[]⟩)
theorem rdG (l : List S30) (i : Nat) (hi : i < l.length) : rd_T30 l (i : Int) = l[i] := by simp [rd_T30, hi]
theorem segB_len {a : Int} {b : ByteArray} {l : List S70} {d : ByteArray} (h : segB a b l d = true) : l.length ≤ 200 := by
 unfold segB at h
 split at h
 ·rename_i hc; exact hc.2.2.2.2.1
 ·simp at h
theorem ev_impl_JoinSegments (l : List S30) (hl : l.length ≤ 1048576) : Ev (fun k => impl_JoinSegments.f k l) (joinS l) := by
 have key : ∀ (d i : Nat) (out : List S70) (h : ByteArray), i + d = l.length → out.length ≤ 200 * i → Ev (fun k => impl_JoinSegments.l0 k out h l (l.length : Int) (i : Int)) (joinGo (l.drop i) out h) := by
  intro d
  induction d with
  | zero =>
   intro i out h hi ho
   refine evSucc ?_
   simp only [impl_JoinSegments.l0]
   rw [List.drop_of_length_le (by omega)]
   exact evNeg (by omega) (Ev.now _)
  | succ d ih =>
   intro i out h hi ho
   have hlt : i < l.length := by omega
   refine evSucc ?_
   simp only [impl_JoinSegments.l0]
   rw [rdG l i hlt, w64 (x := (i : Int) + 1) (by omega) (by omega), ci, List.drop_eq_getElem_cons hlt]
   unfold joinGo
   refine evPos (by omega) (evPos (by omega) (evPos (by omega) (Ev.bind (ev_impl_SegmentOk _ _ _ _) ?_)))
   cases hs : segB l[i].f0 l[i].f1 l[i].f2 l[i].f3
   ·exact evEq (evNeg (by simp) (Ev.now _)) (if_neg (fun z => by cases z.1)).symm
   ·have hn := segB_len hs
    refine evPos rfl ?_
    by_cases h1 : l[i].f0 = (out.length : Int)
    ·refine evPos h1 ?_
     by_cases h2 : l[i].f1 = h
     ·refine evPos (by rw [h2]) (evPos (by omega) ?_)
      rw [if_pos (⟨rfl, h1, h2⟩ : true = true ∧ _ ∧ _)]
      exact ih (i + 1) _ _ (by omega) (by rw [List.length_append]; omega)
     ·exact evEq (evNeg (fun z => h2 (toList_inj z)) (Ev.now _)) (if_neg (fun z => h2 z.2.2)).symm
    ·exact evEq (evNeg h1 (Ev.now _)) (if_neg (fun z => h1 z.2.1)).symm
 simp only [impl_JoinSegments.f]
 exact Ev.bind (dig_impl _ (by show (⟨#[]⟩ : ByteArray).size ≤ _; decide)) (key l.length 0 [] _ (by omega) (by simp))
def Chain : Nat → ByteArray → List S30 → Nat → ByteArray → Prop
 | a, h, [], a', h' => a' = a ∧ h' = h
 | a, h, s :: l, a', h' => segB s.f0 s.f1 s.f2 s.f3 = true ∧ s.f0 = (a : Int) ∧ s.f1 = h ∧ Chain (a + s.f2.length) s.f3 l a' h'
theorem chain_join : ∀ (p : List S30) (a : Nat) (h : ByteArray) (a' : Nat) (h' : ByteArray) (out : List S70), Chain a h p a' h' → out.length = a →
 ∃ o : List S70, o.length = a' ∧ o = out ++ (p.map (fun s => s.f2)).flatten ∧ ∀ q, joinGo (p ++ q) out h = joinGo q o h' := by
 intro p
 induction p with
 | nil =>
  intro a h a' h' out hc ho
  obtain ⟨rfl, rfl⟩ := hc
  exact ⟨out, ho, by simp, fun q => rfl⟩
 | cons s l ih =>
  intro a h a' h' out hc ho
  obtain ⟨h1, h2, h3, h4⟩ := hc
  obtain ⟨o, o1, o2, o3⟩ := ih _ _ _ _ (out ++ s.f2) h4 (by rw [List.length_append, ho])
  refine ⟨o, o1, by rw [o2]; simp, fun q => ?_⟩
  show (if segB s.f0 s.f1 s.f2 s.f3 = true ∧ s.f0 = (out.length : Int) ∧ s.f1 = h then joinGo (l ++ q) (out ++ s.f2) s.f3 else ([], false)) = _
  rw [if_pos ⟨h1, by rw [h2, ho], h3⟩]
  exact o3 q
theorem chain_split : ∀ (p q : List S30) (a : Nat) (h : ByteArray) (a' : Nat) (h' : ByteArray), Chain a h (p ++ q) a' h' → ∃ a1 h1, Chain a h p a1 h1 ∧ Chain a1 h1 q a' h' := by
 intro p
 induction p with
 | nil => intro q a h a' h' hc; exact ⟨a, h, ⟨rfl, rfl⟩, hc⟩
 | cons s l ih =>
  intro q a h a' h' hc
  obtain ⟨h1, h2, h3, h4⟩ := hc
  obtain ⟨a1, h1', c1, c2⟩ := ih q _ _ _ _ h4
  exact ⟨a1, h1', ⟨h1, h2, h3, c1⟩, c2⟩
def partS (l : List S70) (n a : Nat) : List S70 := (l.take (min (a + n) l.length)).drop a
def cutGo (l : List S70) (n a : Nat) (h : ByteArray) : List S30 :=
 if hc : a < l.length ∧ 0 < n then ⟨(a : Int), h, partS l n a, headS h (partS l n a)⟩ :: cutGo l n (a + n) (headS h (partS l n a)) else []
 termination_by l.length - a
 decreasing_by omega
theorem cutGo_len (l : List S70) (n : Nat) : ∀ (d a : Nat) (h : ByteArray), l.length - a = d → (cutGo l n a h).length ≤ l.length - a := by
 intro d
 induction d using Nat.strongRecOn with
 | ind d ih =>
  intro a h hd
  rw [cutGo]
  split
  ·rename_i hc
   have := ih (l.length - (a + n)) (by omega) (a + n) (headS h (partS l n a)) rfl
   rw [List.length_cons]
   omega
  ·exact Nat.zero_le _
theorem partS_len (l : List S70) (n a : Nat) (h : a < l.length) : (partS l n a).length = min (a + n) l.length - a := by
 unfold partS
 rw [List.length_drop, List.length_take]
 omega
theorem allPart (l : List S70) (n a : Nat) (h : l.all okE = true) : (partS l n a).all okE = true := by
 rw [List.all_eq_true] at h ⊢
 intro x hx
 exact h x (List.mem_of_mem_take (List.mem_of_mem_drop hx))
theorem headS_32 (h : ByteArray) (l : List S70) (hh : h.size = 32) : (headS h l).size = 32 := by
 rcases List.eq_nil_or_concat l with rfl | ⟨l', x, rfl⟩
 ·exact hh
 ·unfold headS
  rw [List.concat_eq_append, List.foldl_append]
  exact dig_size _
theorem cut_chain (l : List S70) (n : Nat) (hl : l.length ≤ 200) (hn : 0 < n) (ha : l.all okE = true) : ∀ (d a : Nat) (h : ByteArray), l.length - a = d → h.size = 32 → ∃ a' h', Chain a h (cutGo l n a h) a' h' := by
 intro d
 induction d using Nat.strongRecOn with
 | ind d ih =>
  intro a h hd hh
  rw [cutGo]
  by_cases hc : a < l.length ∧ 0 < n
  ·rw [dif_pos hc]
   have hp := partS_len l n a hc.1
   have h3 := headS_32 h (partS l n a) hh
   have hseg : segB (a : Int) h (partS l n a) (headS h (partS l n a)) = true := by
    unfold segB
    rw [if_pos ⟨by omega, by omega, hh, by omega, by omega, allPart l n a ha⟩]
    simp
   by_cases hlast : a + n ≤ l.length
   ·obtain ⟨a', h', c⟩ := ih (l.length - (a + n)) (by omega) (a + n) (headS h (partS l n a)) rfl h3
    refine ⟨a', h', hseg, rfl, rfl, ?_⟩
    rw [show a + (partS l n a).length = a + n by omega]
    exact c
   ·refine ⟨a + (partS l n a).length, headS h (partS l n a), hseg, rfl, rfl, ?_⟩
    rw [cutGo, dif_neg (by omega)]
    exact ⟨rfl, rfl⟩
  ·rw [dif_neg hc]
   exact ⟨a, h, rfl, rfl⟩
theorem ev_impl_ShortText (s : ByteArray) (h : s.size ≤ 20000) : Ev (fun k => impl_ShortText.f k s) (varS (s.size : Int) ++ s, true) := by
 have hv := varS_size (s.size : Int) (by omega)
 simp only [impl_ShortText.f]
 refine evNeg (by omega) (Ev.bind (ev_impl_VarText_ok (s.size : Int) (by omega) (by omega)) (evPos ?_ (Ev.now _)))
 show (varS _).size + _ ≤ _
 omega
theorem ev_impl_LogText (l : List S70) : Ev (fun k => impl_LogText.f k l) (logB l) := by
 simp only [impl_LogText.f]
 unfold logB
 by_cases h : l.length ≤ 200
 ·refine evNeg (by omega) ?_
  refine evUpP l.length (fun i => (l.take i).all okE = true) (fun i k => impl_LogText.l0 k (logRaw (l.take i)) l (l.length : Int) (i : Int)) rfl ?_ ?_
  ·intro i hi hp ih
   refine evSucc ?_
   simp only [impl_LogText.l0]
   have hs := logRaw_size (l.take i)
   have hln : (l.take i).length ≤ i := by simp; omega
   have he := entryT_size l[i]
   have hv := varS_size ((entryT l[i]).size : Int) (by omega)
   rw [rdE l i hi, w64 (by omega) (by omega), ci]
   refine evPos (by omega) (evPos (by omega) (evPos (by omega) (Ev.bind (ev_impl_EntryText _ _ _ _ _ _) ?_)))
   show Ev (fun k => if (entryT l[i]).toList = ([] : List UInt8) then _ else _) _
   cases ho : okE l[i]
   ·refine evPos ((entryT_nil _).2 ho) (evEq (Ev.now _) ?_)
    rw [if_neg (fun z => notAll l i hi ho z.2)]
   ·refine evNeg (fun z => by rw [(entryT_nil _).1 z] at ho; cases ho) (Ev.bind (ev_impl_ShortText (entryT l[i]) (by omega)) (evPos ?_ ?_))
    ·show _ + (varS _ ++ entryT l[i]).size ≤ _
     rw [sizeApp]; omega
    ·rw [← ByteArray.append_assoc]
     have := ih (by rw [allSnoc l i hi, hp, ho]; rfl)
     rw [logRaw_step l i hi] at this
     exact this
  ·intro hp
   refine evSucc ?_
   simp only [impl_LogText.l0]
   rw [List.take_length] at hp ⊢
   rw [if_pos ⟨h, hp⟩]
   exact evNeg (by omega) (Ev.now _)
 ·rw [if_neg (fun z => h z.1)]
  exact evPos (by omega) (Ev.now _)
def segTextS (a : Int) (b : ByteArray) (l : List S70) (d : ByteArray) : ByteArray × Bool :=
 if segB a b l d = true ∧ (logRaw l).size ≤ 15000 then sealB (((varS a ++ b) ++ varS ((logRaw l).size : Int)) ++ logRaw l) else (⟨#[]⟩, false)
theorem segB_facts {a : Int} {b : ByteArray} {l : List S70} {d : ByteArray} (h : segB a b l d = true) : 0 ≤ a ∧ a ≤ 200 ∧ b.size = 32 ∧ 1 ≤ l.length ∧ l.length ≤ 200 ∧ l.all okE = true ∧ d = headS b l := by
 unfold segB at h
 split at h
 ·rename_i hc
  exact ⟨hc.1, hc.2.1, hc.2.2.1, hc.2.2.2.1, hc.2.2.2.2.1, hc.2.2.2.2.2, toList_inj (by simpa using h)⟩
 ·simp at h
theorem ev_impl_SegmentText (a : Int) (b : ByteArray) (l : List S70) (d : ByteArray) : Ev (fun k => impl_SegmentText.f k a b l d) (segTextS a b l d) := by
 have no : ∀ s x, x = (⟨#[]⟩, false) → Ev (fun k => impl_SegmentText.j0 k s true a b l d) x := fun s x hx => by
  subst hx
  refine evSucc ?_
  simp only [impl_SegmentText.j0]
  exact evPos (by simp) (Ev.now _)
 simp only [impl_SegmentText.f]
 refine Ev.bind (ev_impl_LogText l) (Ev.bind (ev_impl_SegmentOk a b l d) ?_)
 unfold segTextS
 cases hs : segB a b l d
 ·exact evNeg (by simp) (no _ _ (if_neg (fun z => by cases z.1)))
 ·obtain ⟨a0, a1, hb, l0, l1, ha, _⟩ := segB_facts hs
  have hl := logRaw_size l
  have hv := varS_size a (by omega)
  refine evPos rfl ?_
  rw [show logB l = (logRaw l, true) from if_pos ⟨l1, ha⟩]
  refine evPos rfl ?_
  by_cases h2 : (logRaw l).size ≤ 15000
  ·have hv2 := varS_size ((logRaw l).size : Int) (by omega)
   rw [if_pos (⟨rfl, h2⟩ : true = true ∧ (logRaw l).size ≤ 15000), show decide (((logRaw l, true) : ByteArray × Bool).1.size > (15000 : Int)) = false by simp; omega]
   refine evSucc ?_
   simp only [impl_SegmentText.j0]
   refine evNeg (by simp) (Ev.bind (ev_impl_VarText_ok a a0 (by omega)) (Ev.bind (ev_impl_ShortText _ (by omega)) (evPos ?_ (evPos ?_ ?_))))
   ·show (varS a).size + _ ≤ _
    omega
   ·show (varS a ++ b).size + (varS _ ++ logRaw l).size ≤ _
    rw [sizeApp, sizeApp]; omega
   ·have e : ((varS a ++ b) ++ varS ((logRaw l).size : Int)) ++ logRaw l = (varS a ++ b) ++ (varS ((logRaw l).size : Int) ++ logRaw l) := ByteArray.append_assoc
    rw [e]
    exact Ev.bind (ev_impl_Sealed ((varS a ++ b) ++ (varS ((logRaw l).size : Int) ++ logRaw l)) (by rw [sizeApp, sizeApp, sizeApp]; omega)) (Ev.now _)
  ·rw [show decide (((logRaw l, true) : ByteArray × Bool).1.size > (15000 : Int)) = true by simp; omega]
   exact no _ _ (if_neg (fun z => h2 z.2))
theorem bt_byte (t : ByteArray) (i : Nat) (h : i < t.size) : bt t (i : Int) = ((t[i]'h).toNat : Int) := by
 unfold bt
 rw [dif_pos (by simpa using h)]
 simp
theorem ext1 (t : ByteArray) (i : Nat) (h : i < t.size) : t.extract i (i + 1) = strOfNums [bt t (i : Int)] := by
 apply ByteArray.ext
 apply Array.ext'
 have hi : i < t.data.toList.length := by rw [← sizeData]; exact h
 rw [ByteArray.data_extract, Array.toList_extract, List.extract_eq_take_drop, List.drop_eq_getElem_cons hi, bt_byte t i h]
 simp [strOfNums]
 rfl
theorem extCat (t : ByteArray) (i j k : Nat) (h1 : i ≤ j) (h2 : j ≤ k) : t.extract i j ++ t.extract j k = t.extract i k := by
 rw [ByteArray.extract_append_extract, Nat.min_eq_left h1, Nat.max_eq_right h2]
theorem numsCat (a b : List Int) : strOfNums a ++ strOfNums b = strOfNums (a ++ b) := by
 apply ByteArray.ext
 simp [strOfNums]
theorem ext2 (t : ByteArray) (i : Nat) (h : i + 2 ≤ t.size) : t.extract i (i + 2) = strOfNums [bt t (i : Int), bt t ((i + 1 : Nat) : Int)] := by
 rw [← extCat t i (i + 1) (i + 2) (by omega) (by omega), ext1 t i (by omega), ext1 t (i + 1) (by omega), numsCat]
 rfl
theorem ext4 (t : ByteArray) (i : Nat) (h : i + 4 ≤ t.size) : t.extract i (i + 4) = strOfNums [bt t (i : Int), bt t ((i + 1 : Nat) : Int), bt t ((i + 2 : Nat) : Int), bt t ((i + 3 : Nat) : Int)] := by
 rw [← extCat t i (i + 2) (i + 4) (by omega) (by omega), ext2 t i (by omega), ext2 t (i + 2) (by omega), numsCat]
 rfl
theorem extAll (t : ByteArray) : t.extract 0 t.size = t := ByteArray.extract_zero_size
theorem catInj {a b c d : ByteArray} (h : a ++ b = c ++ d) (hs : a.size = c.size) : a = c ∧ b = d := by
 have h1 : a.data.toList ++ b.data.toList = c.data.toList ++ d.data.toList := by
  have := congrArg (fun s : ByteArray => s.data.toList) h
  simpa using this
 have hl : a.data.toList.length = c.data.toList.length := by rw [← sizeData, ← sizeData]; exact hs
 obtain ⟨h2, h3⟩ := List.append_inj h1 hl
 exact ⟨ByteArray.ext (Array.ext' h2), ByteArray.ext (Array.ext' h3)⟩
theorem or_add (n m i : Nat) (hn : n < 2 ^ i) (hm : 2 ^ i * m + n < 9223372036854775808) : Go.bits .or .i64 (n : Int) ((m * 2 ^ i : Nat) : Int) = ((2 ^ i * m + n : Nat) : Int) := by
 have hm' : m * 2 ^ i < 18446744073709551616 := by rw [Nat.mul_comm]; omega
 rw [bits_nat]
 show IntKind.wrap .i64 ((BitVec.ofInt 64 (n : Int) ||| BitVec.ofInt 64 ((m * 2 ^ i : Nat) : Int)).toNat : Int) = _
 rw [BitVec.toNat_or, ofInt_nat64 n (by omega), ofInt_nat64 _ hm', wrap_i64, Nat.or_comm, Nat.mul_comm m, ← Nat.two_pow_add_eq_or_of_lt hn, w64 (by omega) (by omega)]
theorem or_comm64 (x y : Int) : Go.bits .or .i64 x y = Go.bits .or .i64 y x := by
 rw [bits_nat, bits_nat]
 show IntKind.wrap .i64 _ = IntKind.wrap .i64 _
 rw [BitVec.or_comm]
theorem or_hi (n m i : Nat) (hn : n < 2 ^ i) (hm : 2 ^ i * m + n < 9223372036854775808) : Go.bits .or .i64 ((m * 2 ^ i : Nat) : Int) (n : Int) = ((2 ^ i * m + n : Nat) : Int) := by
 rw [or_comm64]; exact or_add n m i hn hm
def fourV (t : ByteArray) (i : Int) : Int := (Go.bits .or .i64 (Go.bits .or .i64 (Go.bits .or .i64 (wrap64 ((wrap64 (bt t i)) * 16777216)) (wrap64 ((wrap64 (bt t (i + 1))) * 65536))) (wrap64 ((wrap64 (bt t (i + 2))) * 256))) (wrap64 (bt t (i + 3))))
theorem fourV_eq (t : ByteArray) (i : Int) : fourV t i = bt t i * 16777216 + bt t (i + 1) * 65536 + bt t (i + 2) * 256 + bt t (i + 3) := by
 have h0 := bt_range t i
 have h1 := bt_range t (i + 1)
 have h2 := bt_range t (i + 2)
 have h3 := bt_range t (i + 3)
 unfold fourV
 rw [w64 (x := bt t i) (by omega) (by omega), w64 (x := bt t (i + 1)) (by omega) (by omega), w64 (x := bt t (i + 2)) (by omega) (by omega), w64 (x := bt t (i + 3)) (by omega) (by omega),
  w64 (by omega) (by omega), w64 (by omega) (by omega), w64 (by omega) (by omega)]
 obtain ⟨a, ha⟩ := Int.eq_ofNat_of_zero_le h0.1
 obtain ⟨b, hb⟩ := Int.eq_ofNat_of_zero_le h1.1
 obtain ⟨c, hc⟩ := Int.eq_ofNat_of_zero_le h2.1
 obtain ⟨d, hd⟩ := Int.eq_ofNat_of_zero_le h3.1
 rw [ha, hb, hc, hd]
 have s1 : Go.bits .or .i64 ((a : Int) * 16777216) ((b : Int) * 65536) = (((a * 256 + b) * 2 ^ 16 : Nat) : Int) := by
  have h := or_hi (b * 65536) a 24 (by omega) (by omega)
  rw [show ((a : Int) * 16777216) = ((a * 2 ^ 24 : Nat) : Int) by omega, show ((b : Int) * 65536) = ((b * 65536 : Nat) : Int) by omega, h]
  omega
 have s2 : Go.bits .or .i64 (((a * 256 + b) * 2 ^ 16 : Nat) : Int) ((c : Int) * 256) = (((a * 65536 + b * 256 + c) * 2 ^ 8 : Nat) : Int) := by
  have h := or_hi (c * 256) (a * 256 + b) 16 (by omega) (by omega)
  rw [show ((c : Int) * 256) = ((c * 256 : Nat) : Int) by omega, h]
  omega
 have s3 : Go.bits .or .i64 (((a * 65536 + b * 256 + c) * 2 ^ 8 : Nat) : Int) (d : Int) = ((a * 16777216 + b * 65536 + c * 256 + d : Nat) : Int) := by
  have h := or_hi d (a * 65536 + b * 256 + c) 8 (by omega) (by omega)
  rw [h]
  omega
 rw [s1, s2, s3]
 omega
theorem fourV_rng (t : ByteArray) (i : Int) : 0 ≤ fourV t i ∧ fourV t i < 4294967296 := by
 have h0 := bt_range t i
 have h1 := bt_range t (i + 1)
 have h2 := bt_range t (i + 2)
 have h3 := bt_range t (i + 3)
 rw [fourV_eq]
 omega
theorem four4_fourV (t : ByteArray) (i : Nat) (h : i + 4 ≤ t.size) : four4 (fourV t (i : Int)) = t.extract i (i + 4) := by
 have h0 := bt_range t (i : Int)
 have h1 := bt_range t ((i : Int) + 1)
 have h2 := bt_range t ((i : Int) + 2)
 have h3 := bt_range t ((i : Int) + 3)
 rw [ext4 t i h, fourV_eq]
 unfold four4
 rw [show ((i + 1 : Nat) : Int) = (i : Int) + 1 by omega, show ((i + 2 : Nat) : Int) = (i : Int) + 2 by omega, show ((i + 3 : Nat) : Int) = (i : Int) + 3 by omega]
 rw [show (bt t (i : Int) * 16777216 + bt t ((i : Int) + 1) * 65536 + bt t ((i : Int) + 2) * 256 + bt t ((i : Int) + 3)) / 16777216 % 256 = bt t (i : Int) by omega,
  show (bt t (i : Int) * 16777216 + bt t ((i : Int) + 1) * 65536 + bt t ((i : Int) + 2) * 256 + bt t ((i : Int) + 3)) / 65536 % 256 = bt t ((i : Int) + 1) by omega,
  show (bt t (i : Int) * 16777216 + bt t ((i : Int) + 1) * 65536 + bt t ((i : Int) + 2) * 256 + bt t ((i : Int) + 3)) / 256 % 256 = bt t ((i : Int) + 2) by omega,
  show (bt t (i : Int) * 16777216 + bt t ((i : Int) + 1) * 65536 + bt t ((i : Int) + 2) * 256 + bt t ((i : Int) + 3)) % 256 = bt t ((i : Int) + 3) by omega]
theorem four4_inj {x y : Int} (hx : 0 ≤ x ∧ x < 4294967296) (hy : 0 ≤ y ∧ y < 4294967296) (h : four4 x = four4 y) : x = y := by
 unfold four4 at h
 have key : ∀ (a b : List Int), (∀ z ∈ a, 0 ≤ z ∧ z < 256) → (∀ z ∈ b, 0 ≤ z ∧ z < 256) → strOfNums a = strOfNums b → a = b := by
  intro a b ha hb hab
  have h1 : a.map (fun z => UInt8.ofNat z.toNat) = b.map (fun z => UInt8.ofNat z.toNat) := by
   have := congrArg (fun s : ByteArray => s.data.toList) hab
   simpa [strOfNums] using this
  have h2 : ∀ (l : List Int), (∀ z ∈ l, 0 ≤ z ∧ z < 256) → (l.map (fun z => UInt8.ofNat z.toNat)).map (fun b => (b.toNat : Int)) = l := by
   intro l hl
   rw [List.map_map]
   conv => rhs; rw [← List.map_id l]
   apply List.map_congr_left
   intro z hz
   have := hl z hz
   simp
   omega
  rw [← h2 a ha, ← h2 b hb, h1]
 have := key _ _ (by intro z hz; simp at hz; rcases hz with rfl | rfl | rfl | rfl <;> omega) (by intro z hz; simp at hz; rcases hz with rfl | rfl | rfl | rfl <;> omega) h
 simp at this
 omega
theorem fourAt_impl (t : ByteArray) (i : Int) (h0 : 0 ≤ i) (h1 : i + 4 ≤ (t.size : Int)) (hb : t.size ≤ 140737488351232) : impl_fourAt.f t i = some (fourV t i) := by
 unfold impl_fourAt.f
 rw [w64 (x := i + 1) (by omega) (by omega), w64 (x := i + 2) (by omega) (by omega), w64 (x := i + 3) (by omega) (by omega),
  if_pos (by omega), if_pos (by omega), if_pos (by omega), if_pos (by omega), if_pos (by omega), if_pos (by omega), if_pos (by omega), if_pos (by omega)]
 rfl
def unsealS (t : ByteArray) : ByteArray × Bool :=
 if 4 ≤ t.size ∧ t.size ≤ 20004 ∧ t.extract (t.size - 4) t.size = four4 (sumS (t.extract 0 (t.size - 4))) then (t.extract 0 (t.size - 4), true) else (⟨#[]⟩, false)
theorem unsealS_ok {t s : ByteArray} (h : unsealS t = (s, true)) : t = s ++ four4 (sumS s) ∧ s.size ≤ 20000 := by
 unfold unsealS at h
 split at h
 ·rename_i hc
  simp only [Prod.mk.injEq, and_true] at h
  subst h
  refine ⟨?_, by rw [ByteArray.size_extract]; omega⟩
  rw [← hc.2.2, extCat t 0 _ _ (by omega) (by omega), extAll]
 ·simp at h
theorem unsealS_sealed (s : ByteArray) (h : s.size ≤ 20000) : unsealS (s ++ four4 (sumS s)) = (s, true) := by
 have hs : (s ++ four4 (sumS s)).size = s.size + 4 := by rw [sizeApp, four4_size]
 have e1 : (s ++ four4 (sumS s)).extract 0 s.size = s := by
  rw [ByteArray.extract_append]
  have : (four4 (sumS s)).extract (0 - s.size) (s.size - s.size) = ⟨#[]⟩ := by
   apply ByteArray.ext
   simp
  rw [this, extAll]
  exact ByteArray.append_empty
 have e2 : (s ++ four4 (sumS s)).extract s.size (s.size + 4) = four4 (sumS s) := by
  rw [ByteArray.extract_append]
  have : s.extract s.size (s.size + 4) = ⟨#[]⟩ := by
   apply ByteArray.ext
   apply Array.ext'
   rw [ByteArray.data_extract, Array.toList_extract, List.extract_eq_take_drop, List.drop_of_length_le (by rw [← sizeData]; omega)]
   simp
  rw [this, Nat.sub_self, Nat.add_sub_cancel_left]
  have h4 : (four4 (sumS s)).extract 0 4 = four4 (sumS s) := by
   have := extAll (four4 (sumS s))
   rw [four4_size] at this
   exact this
  rw [h4]
  exact ByteArray.empty_append
 unfold unsealS
 rw [hs, Nat.add_sub_cancel, e1, e2, if_pos ⟨by omega, by omega, rfl⟩]
theorem ev_impl_Unsealed (t : ByteArray) (ht : t.size ≤ 140737488351232) : Ev (fun k => impl_Unsealed.f k t) (unsealS t) := by
 simp only [impl_Unsealed.f, impl_in, Option.bind_some]
 unfold unsealS
 rw [w64 (by omega) (by omega)]
 by_cases h1 : t.size < 4
 ·rw [if_neg (by omega), show rng ((t.size : Int) - 4) 0 20000 = false by unfold rng; simp; omega]
  exact evNeg (by simp) (Ev.now _)
 by_cases h2 : 20004 < t.size
 ·rw [if_neg (by omega), show rng ((t.size : Int) - 4) 0 20000 = false by unfold rng; simp; omega]
  exact evNeg (by simp) (Ev.now _)
 have e : ((t.size : Int) - 4).toNat = t.size - 4 := by omega
 have e2 : ((t.size : Int) - 4) = ((t.size - 4 : Nat) : Int) := by omega
 rw [show rng ((t.size : Int) - 4) 0 20000 = true by unfold rng; simp; omega]
 refine evPos rfl (evPos (by omega) (evPos (by omega) ?_))
 rw [e]
 simp only [impl_SumOf.f]
 refine Ev.bind (Ev.bind (ev_impl_SumMore _ _ (by omega) (by rw [ByteArray.size_extract]; omega)) (Ev.now _)) ?_
 rw [fourAt_impl t _ (by omega) (by omega) ht, show sumAll 4294967295 (t.extract 0 (t.size - 4)) (t.extract 0 (t.size - 4)).size = sumS (t.extract 0 (t.size - 4)) from rfl]
 simp only [Option.bind_some]
 have hr := sumS_rng (t.extract 0 (t.size - 4))
 have h4 := four4_fourV t (t.size - 4) (by omega)
 rw [show t.size - 4 + 4 = t.size by omega] at h4
 rw [w64 (by omega) (by omega), e2]
 by_cases h3 : t.extract (t.size - 4) t.size = four4 (sumS (t.extract 0 (t.size - 4)))
 ·refine evEq (evPos ?_ (Ev.now _)) (if_pos (show 4 ≤ t.size ∧ t.size ≤ 20004 ∧ _ from ⟨by omega, by omega, h3⟩)).symm
  exact four4_inj hr (fourV_rng _ _) (by rw [h4, h3])
 ·exact evEq (evNeg (fun z => h3 (by rw [← h4, ← z])) (Ev.now _)) (if_neg (fun z => h3 z.2.2)).symm
def rvGo (t : ByteArray) (a : Int) : Nat → Int → Nat → Int × Int × Bool
 | 0, _, _ => (0, 0, false)
 | d + 1, n, i =>
  if a + i < t.size then
   (if bt t (a + i) < 128 then
    (if n + bt t (a + i) * (128 ^ i : Nat) ≤ 1000000000 ∧ varS (n + bt t (a + i) * (128 ^ i : Nat)) = t.extract a.toNat (a.toNat + i + 1) then (n + bt t (a + i) * (128 ^ i : Nat), a + i + 1, true) else (0, 0, false))
   else rvGo t a d (n + (bt t (a + i) - 128) * (128 ^ i : Nat)) (i + 1))
  else (0, 0, false)
def readVarS (t : ByteArray) (a : Int) : Int × Int × Bool := if 0 ≤ a ∧ a ≤ t.size then rvGo t a 5 0 0 else (0, 0, false)
theorem rvGo_ok (t : ByteArray) (a : Int) (ha : 0 ≤ a) {x e : Int} : ∀ d n i, 0 ≤ n → rvGo t a d n i = (x, e, true) → 0 ≤ x ∧ x ≤ 1000000000 ∧ a < e ∧ e ≤ t.size ∧ e ≤ a + i + d ∧ varS x = t.extract a.toNat e.toNat := by
 intro d
 induction d with
 | zero => intro n i _ h; simp [rvGo] at h
 | succ d ih =>
  intro n i hn h
  have hb := bt_range t (a + i)
  unfold rvGo at h
  split at h
  ·split at h
   ·split at h
    ·rename_i h1 _ h2
     simp only [Prod.mk.injEq, and_true] at h
     obtain ⟨rfl, rfl⟩ := h
     refine ⟨?_, h2.1, by omega, by omega, by omega, ?_⟩
     ·have := Int.mul_nonneg hb.1 (Int.natCast_nonneg (128 ^ i))
      omega
     ·rw [h2.2]
      congr 1
      omega
    ·simp at h
   ·obtain ⟨y1, y2, y3, y4, y5, y6⟩ := ih _ _ (by have := Int.mul_nonneg (show (0 : Int) ≤ bt t (a + i) - 128 by omega) (Int.natCast_nonneg (128 ^ i)); omega) h
    exact ⟨y1, y2, y3, y4, by omega, y6⟩
  ·simp at h
theorem readVarS_ok {t : ByteArray} {a x e : Int} (h : readVarS t a = (x, e, true)) : 0 ≤ a ∧ 0 ≤ x ∧ x ≤ 1000000000 ∧ a < e ∧ e ≤ t.size ∧ e ≤ a + 5 ∧ varS x = t.extract a.toNat e.toNat := by
 unfold readVarS at h
 split at h
 ·rename_i hc
  have := rvGo_ok t a hc.1 5 0 0 (Int.le_refl _) h
  exact ⟨hc.1, this.1, this.2.1, this.2.2.1, this.2.2.2.1, by omega, this.2.2.2.2.2⟩
 ·simp at h
theorem pow128 (i : Nat) (h : i ≤ 4) : 1 ≤ 128 ^ i ∧ 128 ^ i ≤ 268435456 ∧ 2 ^ (7 * i) = 128 ^ i := by
 refine ⟨Nat.pow_pos (by omega), ?_, by rw [Nat.pow_mul]⟩
 exact Nat.pow_le_pow_right (by omega) h
theorem and_u8_127 (x : Int) (h0 : 0 ≤ x) (h1 : x ≤ 255) : Go.bits .and .u8 x 127 = x % 128 := by
 obtain ⟨n, rfl⟩ := Int.eq_ofNat_of_zero_le h0
 rw [bits_nat]
 show IntKind.wrap .u8 ((BitVec.ofInt 8 (n : Int) &&& BitVec.ofInt 8 ((127 : Nat) : Int)).toNat : Int) = _
 rw [BitVec.toNat_and, show (BitVec.ofInt 8 (n : Int)).toNat = n by rw [BitVec.toNat_ofInt]; omega, show (BitVec.ofInt 8 ((127 : Nat) : Int)).toNat = 127 by decide]
 have : n &&& 127 = n % 128 := Nat.and_two_pow_sub_one_eq_mod n 7
 rw [this]
 show ((n % 128 : Nat) : Int) % 256 = _
 omega
theorem or_var (n b : Int) (i : Nat) (hi : i ≤ 4) (hn : 0 ≤ n) (hn2 : n < (128 ^ i : Nat)) (h0 : 0 ≤ b) (h1 : b ≤ 255) :
 Go.bits .or .i64 n (shl .i64 (wrap64 (Go.bits .and .u8 b 127)) (wrap64 (7 * (i : Int)))) = n + (b % 128) * (128 ^ i : Nat) := by
 obtain ⟨p1, p2, p3⟩ := pow128 i hi
 rw [and_u8_127 b h0 h1, w64 (x := b % 128) (by omega) (by omega), w64 (x := 7 * (i : Int)) (by omega) (by omega)]
 obtain ⟨m, rfl⟩ := Int.eq_ofNat_of_zero_le hn
 obtain ⟨c, hc⟩ := Int.eq_ofNat_of_zero_le (show 0 ≤ b % 128 by omega)
 have hcb : c < 128 := by omega
 rw [hc]
 have hle : c * 128 ^ i ≤ 127 * 268435456 := Nat.mul_le_mul (by omega) p2
 unfold shl
 rw [show min (7 * (i : Int)).toNat (IntKind.bits .i64) = 7 * i by show min _ 64 = _; omega, i64_w]
 rw [show (c : Int) * 2 ^ (7 * i) = ((c * 2 ^ (7 * i) : Nat) : Int) by rw [Int.natCast_mul, Int.natCast_pow]; rfl, p3, w64 (by omega) (by omega)]
 have := or_add m c (7 * i) (by rw [p3]; omega) (by rw [p3, Nat.mul_comm]; omega)
 rw [p3] at this
 rw [this, Nat.mul_comm, Int.natCast_add, Int.natCast_mul]
 omega
theorem mulPow (c : Int) (i : Nat) (hi : i ≤ 4) (h0 : 0 ≤ c) (h1 : c ≤ 127) : 0 ≤ c * (128 ^ i : Nat) ∧ c * (128 ^ i : Nat) ≤ 127 * (128 ^ i : Nat) ∧ c * (128 ^ i : Nat) ≤ 34091302912 := by
 obtain ⟨p1, p2, _⟩ := pow128 i hi
 have h2 : c * (128 ^ i : Nat) ≤ 127 * (128 ^ i : Nat) := Int.mul_le_mul_of_nonneg_right h1 (by omega)
 exact ⟨Int.mul_nonneg h0 (by omega), h2, by omega⟩
theorem powSucc (i : Nat) : ((128 ^ (i + 1) : Nat) : Int) = 128 * ((128 ^ i : Nat) : Int) := by rw [Nat.pow_succ]; omega
theorem ev_impl_rv (t : ByteArray) (a : Int) (ht : t.size ≤ 140737488351232) (ha : 0 ≤ a) (hb : a ≤ t.size) :
 ∀ (d i : Nat) (n : Int), i + d = 5 → 0 ≤ n → n < (128 ^ i : Nat) → Ev (fun k => impl_ReadVar.l0 k t a n (i : Int)) (rvGo t a d n i) := by
 intro d
 induction d with
 | zero =>
  intro i n hi _ _
  refine evSucc ?_
  simp only [impl_ReadVar.l0]
  refine evNeg (by omega) (evSucc ?_)
  simp only [impl_ReadVar.j1]
  exact evNeg (by simp) (Ev.now _)
 | succ d ih =>
  intro i n hi hn hn2
  have hr := bt_range t (a + i)
  obtain ⟨p1, p2, p3⟩ := pow128 i (by omega)
  refine evSucc ?_
  simp only [impl_ReadVar.l0]
  refine evPos (by omega) (evSucc ?_)
  simp only [impl_ReadVar.j1]
  rw [w64 (x := a + (i : Int)) (by omega) (by omega)]
  unfold rvGo
  by_cases h1 : a + i < t.size
  ·rw [if_pos h1]
   refine evPos (by simpa using h1) (evPos (by omega) (evPos h1 (evPos (by rw [w64 (by omega) (by omega)]; omega) ?_)))
   rw [or_var n (bt t (a + i)) i (by omega) hn hn2 hr.1 hr.2]
   by_cases h2 : bt t (a + i) < 128
   ·rw [if_pos h2, show bt t (a + i) % 128 = bt t (a + i) by omega]
    have hm := mulPow (bt t (a + i)) i (by omega) hr.1 (by omega)
    have hx : 0 ≤ n + bt t (a + i) * (128 ^ i : Nat) ∧ n + bt t (a + i) * (128 ^ i : Nat) ≤ 40000000000 := by omega
    generalize n + bt t (a + i) * (128 ^ i : Nat) = x at hx ⊢
    refine evNeg (by omega) ?_
    rw [w64 (x := a + (i : Int) + 1) (by omega) (by omega)]
    by_cases hc : x ≤ 1000000000
    ·refine Ev.bind (ev_impl_VarText_ok x hx.1 hc) (evPos rfl (evPos ha (evPos (by omega) (evPos (by omega) ?_))))
     rw [show (a + (i : Int) + 1).toNat = a.toNat + i + 1 by omega]
     show Ev (fun k => if (varS x).toList = _ then _ else _) _
     by_cases hv : varS x = t.extract a.toNat (a.toNat + i + 1)
     ·exact evEq (evPos (toList_iff.2 hv) (Ev.now _)) (if_pos ⟨hc, hv⟩).symm
     ·exact evEq (evNeg (fun z => hv (toList_iff.1 z)) (Ev.now _)) (if_neg (fun z => hv z.2)).symm
    ·rw [if_neg (fun z => hc z.1)]
     refine Ev.bind (evEq (ev_impl_VarText x) (if_neg (by unfold rng; simp; omega))) ?_
     exact evNeg (by simp) (Ev.now _)
   ·rw [if_neg h2, show bt t (a + i) % 128 = bt t (a + i) - 128 by omega, w64 (x := (i : Int) + 1) (by omega) (by omega), ci]
    refine evPos (by omega) ?_
    have hm := mulPow (bt t (a + i) - 128) i (by omega) (by omega) (by omega)
    exact ih (i + 1) _ (by omega) (by omega) (by rw [powSucc]; omega)
  ·rw [if_neg h1]
   exact evNeg (by simpa using h1) (Ev.now _)
theorem ev_impl_ReadVar (t : ByteArray) (a : Int) (ht : t.size ≤ 140737488351232) : Ev (fun k => impl_ReadVar.f k t a) (readVarS t a) := by
 simp only [impl_ReadVar.f, impl_in, Option.bind_some]
 unfold readVarS
 by_cases h : 0 ≤ a ∧ a ≤ t.size
 ·rw [if_pos h, show rng a 0 (t.size : Int) = true by unfold rng; simp; omega]
  refine evPos rfl ?_
  exact ev_impl_rv t a ht h.1 h.2 5 0 0 (by omega) (by omega) (by decide)
 ·rw [if_neg h, show rng a 0 (t.size : Int) = false by unfold rng; simp; omega]
  exact evNeg (by simp) (Ev.now _)
def noFrame : Int × Int × Int × Int × Int × Int × Int × Bool := (0, 0, 0, 0, 0, 0, 0, false)
def rfIn (s : ByteArray) : Int × Int × Int × Int × Int × Int × Int × Bool :=
 if 2 ≤ s.size then
  if (readVarS s 2).2.2 = true ∧ (readVarS s 2).2.1 + 9 ≤ s.size then
   if (readVarS s ((readVarS s 2).2.1 + 9)).2.2 = true ∧ (readVarS s ((readVarS s 2).2.1 + 9)).2.1 = s.size ∧
    frameB (bt s 0) (bt s 1) (readVarS s 2).1 (bt s (readVarS s 2).2.1) (fourV s ((readVarS s 2).2.1 + 1)) (fourV s ((readVarS s 2).2.1 + 5)) (readVarS s ((readVarS s 2).2.1 + 9)).1 = true then
    (bt s 0, bt s 1, (readVarS s 2).1, bt s (readVarS s 2).2.1, fourV s ((readVarS s 2).2.1 + 1), fourV s ((readVarS s 2).2.1 + 5), (readVarS s ((readVarS s 2).2.1 + 9)).1, true)
   else noFrame
  else noFrame
 else noFrame
def readFrameS (t : ByteArray) : Int × Int × Int × Int × Int × Int × Int × Bool := if (unsealS t).2 = true then rfIn (unsealS t).1 else noFrame
theorem ev_impl_ReadFrame (t : ByteArray) (ht : t.size ≤ 140737488351232) : Ev (fun k => impl_ReadFrame.f k t) (readFrameS t) := by
 have no : ∀ s, Ev (fun k => impl_ReadFrame.j0 k s true) noFrame := fun s => by
  refine evSucc ?_
  simp only [impl_ReadFrame.j0]
  exact evPos (by simp) (Ev.now _)
 simp only [impl_ReadFrame.f]
 refine Ev.bind (ev_impl_Unsealed t ht) ?_
 unfold readFrameS
 cases hu : (unsealS t).2
 ·exact evNeg (by simp) (evEq (no _) (if_neg (by simp)).symm)
 ·rw [if_pos rfl]
  refine evPos rfl ?_
  have hs : (unsealS t).1.size ≤ 20000 := (unsealS_ok (t := t) (s := (unsealS t).1) (Prod.ext rfl hu)).2
  generalize (unsealS t).1 = s at hs ⊢
  unfold rfIn
  by_cases h2 : 2 ≤ s.size
  ·rw [if_pos h2, show decide ((s.size : Int) < 2) = false by simp; omega]
   refine evSucc ?_
   simp only [impl_ReadFrame.j0]
   refine evNeg (by simp) (Ev.bind (ev_impl_ReadVar s 2 (by omega)) ?_)
   have no1 : ∀ x y, Ev (fun k => impl_ReadFrame.j1 k s x y true) noFrame := fun x y => by
    refine evSucc ?_
    simp only [impl_ReadFrame.j1]
    exact evPos (by simp) (Ev.now _)
   cases hv : (readVarS s 2).2.2
   ·rw [if_neg (by simp)]
    exact evNeg (by simp) (no1 _ _)
   ·obtain ⟨seq, at_, hv'⟩ : ∃ x y, readVarS s 2 = (x, y, true) := ⟨_, _, Prod.ext rfl (Prod.ext rfl hv)⟩
    obtain ⟨_, _, _, q1, q2, _, q3⟩ := readVarS_ok hv'
    rw [hv']
    refine evPos rfl ?_
    simp only [true_and]
    rw [w64 (x := (s.size : Int) - at_) (by omega) (by omega)]
    by_cases h9 : at_ + 9 ≤ s.size
    ·rw [if_pos h9, show decide ((s.size : Int) - at_ < 9) = false by simp; omega]
     refine evSucc ?_
     simp only [impl_ReadFrame.j1]
     rw [w64 (x := at_ + 9) (by omega) (by omega), w64 (x := at_ + 1) (by omega) (by omega), w64 (x := at_ + 5) (by omega) (by omega)]
     refine evNeg (by simp) (Ev.bind (ev_impl_ReadVar s (at_ + 9) (by omega)) (evPos (by omega) (evPos (by omega) (evPos (by omega) (evPos (by omega) ?_)))))
     have b0 := bt_range s 0
     have b1 := bt_range s 1
     have ba := bt_range s at_
     rw [fourAt_impl s (at_ + 1) (by omega) (by omega) (by omega), fourAt_impl s (at_ + 5) (by omega) (by omega) (by omega), w64 (x := bt s 0) (by omega) (by omega), w64 (x := bt s 1) (by omega) (by omega), w64 (x := bt s at_) (by omega) (by omega)]
     simp only [Option.bind_some]
     cases hc : (readVarS s (at_ + 9)).2.2
     ·exact evEq (evNeg (by simp) (Ev.now _)) (if_neg (fun z => by cases z.1)).symm
     ·refine evPos rfl ?_
      by_cases he : (readVarS s (at_ + 9)).2.1 = s.size
      ·refine evPos he (Ev.bind (ev_impl_FrameOk _ _ _ _ _ _ _) ?_)
       cases hf : frameB (bt s 0) (bt s 1) seq (bt s at_) (fourV s (at_ + 1)) (fourV s (at_ + 5)) (readVarS s (at_ + 9)).1
       ·exact evEq (evNeg (by simp) (Ev.now _)) (if_neg (fun z => by cases z.2.2)).symm
       ·exact evEq (evPos rfl (Ev.now _)) (if_pos ⟨rfl, he, rfl⟩).symm
      ·rw [if_neg (fun z => he z.2.1)]
       exact evNeg he (Ev.now _)
    ·rw [if_neg h9, show decide ((s.size : Int) - at_ < 9) = true by simp; omega]
     exact no1 _ _
  ·rw [if_neg h2, show decide ((s.size : Int) < 2) = true by simp; omega]
   exact no _
theorem dataApp (a b : ByteArray) : (a ++ b).data.toList = a.data.toList ++ b.data.toList := by simp
theorem ext_mid (p s q : ByteArray) : ((p ++ s) ++ q).extract p.size (p.size + s.size) = s := by
 apply ByteArray.ext
 apply Array.ext'
 rw [ByteArray.data_extract, Array.toList_extract, List.extract_eq_take_drop, dataApp, dataApp, List.append_assoc, sizeData p, sizeData s, List.drop_left, Nat.add_sub_cancel_left, List.take_left]
theorem bt_list (s : ByteArray) (i : Nat) : bt s (i : Int) = ((s.data.toList[i]?).map (fun b => (b.toNat : Int))).getD 0 := by
 by_cases h : i < s.size
 ·rw [bt_byte s i h]
  have hl : i < s.data.toList.length := by rw [← sizeData]; exact h
  rw [List.getElem?_eq_getElem hl]
  rfl
 ·unfold bt
  rw [dif_neg (by simpa using h), List.getElem?_eq_none (by rw [← sizeData]; omega)]
  rfl
theorem bt_left (p q : ByteArray) (i : Nat) (h : i < p.size) : bt (p ++ q) (i : Int) = bt p (i : Int) := by
 rw [bt_list, bt_list, dataApp, List.getElem?_append_left (by rw [← sizeData]; exact h)]
theorem bt_right (p q : ByteArray) (i : Nat) : bt (p ++ q) ((p.size + i : Nat) : Int) = bt q (i : Int) := by
 rw [bt_list, bt_list, dataApp, List.getElem?_append_right (by rw [← sizeData]; omega), sizeData p, Nat.add_sub_cancel_left]
theorem bt_nums (l : List Int) (i : Nat) (hi : i < l.length) (h : ∀ x ∈ l, 0 ≤ x ∧ x < 256) : bt (strOfNums l) (i : Int) = l[i] := by
 have e : (strOfNums l).data.toList = l.map (fun z => UInt8.ofNat z.toNat) := by simp [strOfNums]
 have hx := h _ (List.getElem_mem hi)
 rw [bt_list, e, List.getElem?_map, List.getElem?_eq_getElem hi]
 simp
 omega
theorem varL_rng (n : Nat) : ∀ x ∈ varL n, 0 ≤ x ∧ x < 256 := by
 induction n using Nat.strongRecOn with
 | ind n ih =>
  intro x hx
  by_cases h : n ≤ 127
  ·rw [varL_small n h] at hx
   rw [List.mem_singleton.1 hx]; omega
  ·rw [varL_big n (by omega)] at hx
   rcases List.mem_cons.1 hx with rfl | hx
   ·omega
   ·exact ih _ (by omega) x hx
theorem readVar_back (p q : ByteArray) (N : Nat) (hN : N ≤ 1000000000) : readVarS ((p ++ varS (N : Int)) ++ q) (p.size : Int) = ((N : Int), ((p.size + (varS (N : Int)).size : Nat) : Int), true) := by
 have hv : varS (N : Int) = strOfNums (varL N) := by unfold varS; rw [Int.toNat_natCast]
 have hsz : (varS (N : Int)).size = (varL N).length := by rw [hv, strOfNums_size]
 have key : ∀ (m : Nat) (i d : Nat) (n : Nat) (pre : List Int), varL N = pre ++ varL m → pre.length = i → n + m * 128 ^ i = N → i + d = 5 → (varL m).length ≤ d →
  rvGo ((p ++ varS (N : Int)) ++ q) (p.size : Int) d (n : Int) i = ((N : Int), ((p.size + (varS (N : Int)).size : Nat) : Int), true) := by
  intro m
  induction m using Nat.strongRecOn with
  | ind m ih =>
   intro i d n pre h1 h2 h3 h4 h5
   have hbyte : ∀ (x : Int) (tl : List Int), varL m = x :: tl → bt ((p ++ varS (N : Int)) ++ q) ((p.size : Int) + (i : Int)) = x ∧ i < (varS (N : Int)).size := by
    intro x tl hx
    have hlen : i < (varL N).length := by rw [h1, hx, List.length_append, List.length_cons]; omega
    have hi : i < (varS (N : Int)).size := by rw [hsz]; exact hlen
    refine ⟨?_, hi⟩
    rw [ByteArray.append_assoc, show (p.size : Int) + (i : Int) = ((p.size + i : Nat) : Int) by omega, bt_right, bt_left _ _ _ hi, hv, bt_nums _ _ hlen (varL_rng N)]
    have : (varL N)[i]? = some x := by
     rw [h1, hx, List.getElem?_append_right (by omega), h2, Nat.sub_self]
     rfl
    rw [List.getElem?_eq_getElem hlen] at this
    exact Option.some.inj this
   have htot : (((p ++ varS (N : Int)) ++ q).size : Int) = p.size + (varS (N : Int)).size + q.size := by rw [sizeApp, sizeApp]; omega
   obtain ⟨d, rfl⟩ : ∃ d', d = d' + 1 := ⟨d - 1, by
    have : 0 < (varL m).length := by
     by_cases h : m ≤ 127
     ·rw [varL_small m h]; simp
     ·rw [varL_big m (by omega)]; simp
    omega⟩
   unfold rvGo
   by_cases hm : m ≤ 127
   ·obtain ⟨hb, hi⟩ := hbyte (m : Int) [] (varL_small m hm)
    rw [if_pos (by omega), hb, if_pos (by omega)]
    have hx : (n : Int) + (m : Int) * ((128 ^ i : Nat) : Int) = (N : Int) := by
     have h3' : ((n + m * 128 ^ i : Nat) : Int) = (N : Int) := congrArg Int.ofNat h3
     rw [Int.natCast_add, Int.natCast_mul] at h3'
     exact h3'
    have hlast : (varS (N : Int)).size = i + 1 := by rw [hsz, h1, varL_small m hm, List.length_append, h2, List.length_singleton]
    rw [hx, if_pos ⟨by omega, by
     rw [Int.toNat_natCast, Nat.add_assoc, ← hlast]
     exact (ext_mid p _ q).symm⟩, hlast]
    rw [show (p.size : Int) + (i : Int) + 1 = ((p.size + (i + 1) : Nat) : Int) by omega]
   ·obtain ⟨hb, hi⟩ := hbyte _ _ (varL_big m (by omega))
    rw [if_pos (by omega), hb, if_neg (by omega)]
    have hlen5 := h5
    rw [varL_big m (by omega), List.length_cons] at hlen5
    have hn' : (n : Int) + (((m % 128 + 128 : Nat) : Int) - 128) * ((128 ^ i : Nat) : Int) = ((n + (m % 128) * 128 ^ i : Nat) : Int) := by
     have q1 : ((m % 128 + 128 : Nat) : Int) - 128 = ((m % 128 : Nat) : Int) := by omega
     rw [q1, Int.natCast_add n, Int.natCast_mul (m % 128)]
    rw [hn']
    refine ih (m / 128) (by omega) (i + 1) d _ (pre ++ [((m % 128 + 128 : Nat) : Int)]) ?_ ?_ ?_ (by omega) (by omega)
    ·rw [h1, varL_big m (by omega), List.append_assoc]
     rfl
    ·rw [List.length_append, List.length_singleton, h2]
    ·rw [Nat.pow_succ, ← h3]
     have : m * 128 ^ i = (128 * (m / 128) + m % 128) * 128 ^ i := by rw [Nat.div_add_mod]
     rw [this, Nat.add_mul, Nat.mul_comm (128 ^ i) 128, ← Nat.mul_assoc, Nat.mul_comm (m / 128) 128]
     omega
 have h5 := varL_len N hN
 have := key N 0 5 0 [] rfl rfl (by simp) rfl h5
 unfold readVarS
 rw [if_pos ⟨by omega, by rw [sizeApp, sizeApp]; omega⟩]
 exact this
theorem frame_back {a b c d e f g : Int} (h : frameB a b c d e f g = true) : readFrameS (frameS a b c d e f g).1 = (a, b, c, d, e, f, g, true) := by
 obtain ⟨hb, hc, hg, ha⟩ := frameB_facts h
 have hd : (0 ≤ d ∧ d ≤ 2) ∧ (0 ≤ e ∧ e < 4294967296) ∧ (0 ≤ f ∧ f < 4294967296) := by
  have h2 := h
  unfold frameB at h2
  simp only [Bool.and_eq_true] at h2
  obtain ⟨_, _, h3⟩ := h2
  split at h3
  ·unfold itemB rng at h3
   split at h3
   ·simp at h3; omega
   ·split at h3
    ·simp at h3; omega
    ·simp at h3
  ·split at h3
   ·simp at h3; omega
   ·simp at h3
 have hraw := frameRaw_size (a := a) (b := b) (d := d) (e := e) (f := f) hc.2 hg.2
 have e1 : (frameS a b c d e f g).1 = frameRaw a b c d e f g ++ four4 (sumS (frameRaw a b c d e f g)) := by
  unfold frameS
  rw [if_pos h]
 unfold readFrameS
 rw [e1, unsealS_sealed _ (by omega), if_pos rfl]
 obtain ⟨N, hN⟩ := Int.eq_ofNat_of_zero_le (show 0 ≤ c by omega)
 obtain ⟨G, hG⟩ := Int.eq_ofNat_of_zero_le (show 0 ≤ g by omega)
 have hA : (strOfNums [a % 256, b % 256]).size = 2 := by rw [strOfNums_size]; rfl
 have hD : (strOfNums [d % 256]).size = 1 := by rw [strOfNums_size]; rfl
 have hE := four4_size e
 have hF := four4_size f
 generalize hs : frameRaw a b c d e f g = s at hraw ⊢
 unfold frameRaw at hs
 have s1 : s = (strOfNums [a % 256, b % 256] ++ varS c) ++ (((strOfNums [d % 256] ++ four4 e) ++ four4 f) ++ varS g) := by rw [← hs]; simp only [ByteArray.append_assoc]
 have v1 : readVarS s 2 = (c, ((2 + (varS c).size : Nat) : Int), true) := by
  have := readVar_back (strOfNums [a % 256, b % 256]) (((strOfNums [d % 256] ++ four4 e) ++ four4 f) ++ varS g) N (by omega)
  rw [hA, ← hN, ← s1] at this
  exact this
 have htot : s.size = 2 + (varS c).size + 9 + (varS g).size := by rw [← hs]; simp only [sizeApp, hA, hD, hE, hF]
 have hP : ((strOfNums [a % 256, b % 256] ++ varS c) ++ strOfNums [d % 256]).size = 2 + (varS c).size + 1 := by simp only [sizeApp, hA, hD]
 have hP4 : (((strOfNums [a % 256, b % 256] ++ varS c) ++ strOfNums [d % 256]) ++ four4 e).size = 2 + (varS c).size + 5 := by simp only [sizeApp, hA, hD, hE]
 have hP8 : ((((strOfNums [a % 256, b % 256] ++ varS c) ++ strOfNums [d % 256]) ++ four4 e) ++ four4 f).size = 2 + (varS c).size + 9 := by simp only [sizeApp, hA, hD, hE, hF]
 have v2 : readVarS s (((2 + (varS c).size : Nat) : Int) + 9) = (g, (s.size : Int), true) := by
  have := readVar_back ((((strOfNums [a % 256, b % 256] ++ varS c) ++ strOfNums [d % 256]) ++ four4 e) ++ four4 f) ⟨#[]⟩ G (by omega)
  have e0 : ((((((strOfNums [a % 256, b % 256] ++ varS c) ++ strOfNums [d % 256]) ++ four4 e) ++ four4 f) ++ varS (G : Int)) ++ (⟨#[]⟩ : ByteArray)) = s := by
   rw [← hG, hs]
   exact ByteArray.append_empty
  rw [e0, hP8, ← hG] at this
  rw [show ((2 + (varS c).size : Nat) : Int) + 9 = ((2 + (varS c).size + 9 : Nat) : Int) by omega, this, htot]
 have b0 : bt s 0 = a := by
  have := bt_left (strOfNums [a % 256, b % 256]) (varS c ++ (((strOfNums [d % 256] ++ four4 e) ++ four4 f) ++ varS g)) 0 (by omega)
  rw [← ByteArray.append_assoc, ← s1, bt_nums _ 0 (by simp) (by intro x hx; simp at hx; rcases hx with rfl | rfl <;> omega)] at this
  rw [show (0 : Int) = ((0 : Nat) : Int) from rfl, this]
  show a % 256 = a
  omega
 have b1 : bt s 1 = b := by
  have := bt_left (strOfNums [a % 256, b % 256]) (varS c ++ (((strOfNums [d % 256] ++ four4 e) ++ four4 f) ++ varS g)) 1 (by omega)
  rw [← ByteArray.append_assoc, ← s1, bt_nums _ 1 (by simp) (by intro x hx; simp at hx; rcases hx with rfl | rfl <;> omega)] at this
  rw [show (1 : Int) = ((1 : Nat) : Int) from rfl, this]
  show b % 256 = b
  omega
 have hQ : (strOfNums [a % 256, b % 256] ++ varS c).size = 2 + (varS c).size := by rw [sizeApp, hA]
 have bd : bt s ((2 + (varS c).size : Nat) : Int) = d := by
  have := bt_right (strOfNums [a % 256, b % 256] ++ varS c) (((strOfNums [d % 256] ++ four4 e) ++ four4 f) ++ varS g) 0
  rw [← s1, hQ, Nat.add_zero] at this
  rw [this]
  have h2 := bt_left (strOfNums [d % 256]) ((four4 e ++ four4 f) ++ varS g) 0 (by omega)
  have ea : strOfNums [d % 256] ++ ((four4 e ++ four4 f) ++ varS g) = ((strOfNums [d % 256] ++ four4 e) ++ four4 f) ++ varS g := by simp only [ByteArray.append_assoc]
  rw [ea, bt_nums _ 0 (by simp) (by intro x hx; simp at hx; omega)] at h2
  rw [h2]
  show d % 256 = d
  omega
 have fe : fourV s (((2 + (varS c).size : Nat) : Int) + 1) = e := by
  refine four4_inj (fourV_rng _ _) hd.2.1 ?_
  rw [show ((2 + (varS c).size : Nat) : Int) + 1 = ((2 + (varS c).size + 1 : Nat) : Int) by omega, four4_fourV s _ (by omega)]
  have := ext_mid ((strOfNums [a % 256, b % 256] ++ varS c) ++ strOfNums [d % 256]) (four4 e) (four4 f ++ varS g)
  have ea : ((((strOfNums [a % 256, b % 256] ++ varS c) ++ strOfNums [d % 256]) ++ four4 e) ++ (four4 f ++ varS g)) = s := by rw [← hs]; simp only [ByteArray.append_assoc]
  rw [ea, hP, hE] at this
  exact this
 have ff : fourV s (((2 + (varS c).size : Nat) : Int) + 5) = f := by
  refine four4_inj (fourV_rng _ _) hd.2.2 ?_
  rw [show ((2 + (varS c).size : Nat) : Int) + 5 = ((2 + (varS c).size + 5 : Nat) : Int) by omega, four4_fourV s _ (by omega)]
  have := ext_mid (((strOfNums [a % 256, b % 256] ++ varS c) ++ strOfNums [d % 256]) ++ four4 e) (four4 f) (varS g)
  rw [hs, hP4, hF] at this
  exact this
 show rfIn s = _
 unfold rfIn
 rw [if_pos (by omega)]
 simp only [v1, v2, b0, b1, bd, fe, ff]
 rw [if_pos ⟨trivial, by omega⟩, if_pos ⟨trivial, trivial, h⟩]
def rsS (t : ByteArray) (a : Int) : ByteArray × Int × Bool :=
 if (readVarS t a).2.2 = true ∧ (readVarS t a).1 ≤ 20000 ∧ (readVarS t a).2.1 + (readVarS t a).1 ≤ t.size then
  (t.extract (readVarS t a).2.1.toNat ((readVarS t a).2.1.toNat + (readVarS t a).1.toNat), (readVarS t a).2.1 + (readVarS t a).1, true)
 else (⟨#[]⟩, 0, false)
theorem rsS_ok {t s : ByteArray} {a e : Int} (h : rsS t a = (s, e, true)) : 0 ≤ a ∧ a < e ∧ e ≤ t.size ∧ s.size ≤ 20000 ∧ t.extract a.toNat e.toNat = varS (s.size : Int) ++ s := by
 unfold rsS at h
 split at h
 ·rename_i hc
  obtain ⟨n, f, hv⟩ : ∃ x y, readVarS t a = (x, y, true) := ⟨_, _, Prod.ext rfl (Prod.ext rfl hc.1)⟩
  obtain ⟨q1, q2, q3, q4, q5, q6, q7⟩ := readVarS_ok hv
  simp only [hv, Prod.mk.injEq, and_true] at h hc
  obtain ⟨rfl, rfl⟩ := h
  have hsz : (t.extract f.toNat (f.toNat + n.toNat)).size = n.toNat := by rw [ByteArray.size_extract]; omega
  refine ⟨q1, by omega, by omega, by omega, ?_⟩
  rw [hsz, Int.toNat_of_nonneg q2, q7, extCat t _ _ _ (by omega) (by omega)]
  congr 1
  omega
 ·simp at h
theorem rsS_no {t : ByteArray} {a : Int} (h : (rsS t a).2.2 = false) : rsS t a = (⟨#[]⟩, 0, false) := by
 unfold rsS at h ⊢
 split at h
 ·simp at h
 ·rename_i hc
  rw [if_neg hc]
theorem ev_impl_ReadShort (t : ByteArray) (a : Int) (ht : t.size ≤ 140737488351232) : Ev (fun k => impl_ReadShort.f k t a) (rsS t a) := by
 simp only [impl_ReadShort.f]
 refine Ev.bind (ev_impl_ReadVar t a ht) ?_
 unfold rsS
 cases hc : (readVarS t a).2.2
 ·exact evEq (evNeg (by simp) (Ev.now _)) (if_neg (fun z => by cases z.1)).symm
 ·obtain ⟨n, f, hv⟩ : ∃ x y, readVarS t a = (x, y, true) := ⟨_, _, Prod.ext rfl (Prod.ext rfl hc)⟩
  obtain ⟨q1, q2, q3, q4, q5, q6, q7⟩ := readVarS_ok hv
  simp only [hv]
  refine evPos (by simp) ?_
  by_cases h1 : n ≤ 20000
  ·refine evNeg (by omega) ?_
   rw [w64 (x := (t.size : Int) - f) (by omega) (by omega), w64 (x := f + n) (by omega) (by omega)]
   by_cases h2 : f + n ≤ t.size
   ·refine evEq (evNeg (by omega) (evPos (by omega) (evPos (by omega) (evPos (by omega) (Ev.now _))))) ?_
    rw [if_pos ⟨by simp, h1, h2⟩, show (f + n).toNat = f.toNat + n.toNat by omega]
   ·exact evEq (evPos (by omega) (Ev.now _)) (if_neg (fun z => h2 z.2.2)).symm
  ·exact evEq (evPos (by omega) (Ev.now _)) (if_neg (fun z => h1 z.2.1)).symm
def mkE (f : Int × Int × Int × Int × Int × Int × Int × Bool) : S70 := ⟨f.2.1, f.2.2.1, ⟨f.2.2.2.1, f.2.2.2.2.1, f.2.2.2.2.2.1, f.2.2.2.2.2.2.1⟩⟩
def rlGo (t : ByteArray) : Nat → List S70 → Int → List S70 × Bool
 | 0, _, _ => ([], false)
 | d + 1, out, a =>
  if a < t.size then
   (if (rsS t a).2.2 = true ∧ (readFrameS (rsS t a).1).2.2.2.2.2.2.2 = true ∧ (readFrameS (rsS t a).1).1 = 1 ∧ out.length ≠ 200 then rlGo t d (out ++ [mkE (readFrameS (rsS t a).1)]) (rsS t a).2.1 else ([], false))
  else (out, true)
def readLogS (t : ByteArray) : List S70 × Bool := rlGo t (t.size + 1) [] 0
theorem rlGo_len (t : ByteArray) : ∀ d out a, out.length ≤ 200 → (rlGo t d out a).1.length ≤ 200 := by
 intro d
 induction d with
 | zero => intro out a _; exact Nat.zero_le _
 | succ d ih =>
  intro out a h
  unfold rlGo
  split
  ·split
   ·rename_i hc
    exact ih _ _ (by have := hc.2.2.2; simp; omega)
   ·exact Nat.zero_le _
  ·exact h
theorem readLogS_len (t : ByteArray) : (readLogS t).1.length ≤ 200 := rlGo_len t _ _ _ (Nat.zero_le _)
theorem rsS_size (t : ByteArray) (a : Int) : (rsS t a).1.size ≤ 20000 := by
 cases hc : (rsS t a).2.2
 ·rw [rsS_no hc]; decide
 ·exact (rsS_ok (t := t) (a := a) (s := (rsS t a).1) (e := (rsS t a).2.1) (Prod.ext rfl (Prod.ext rfl hc))).2.2.2.1
theorem ev_impl_rl (t : ByteArray) (ht : t.size ≤ 2000000000) : ∀ (d : Nat) (out : List S70) (a : Int), 0 ≤ a → a ≤ t.size → out.length ≤ 200 → (t.size : Int) - a < d → Ev (fun k => impl_ReadLog.l0 k t out a) (rlGo t d out a) := by
 intro d
 induction d with
 | zero => intro out a h0 h1 h2 h3; omega
 | succ d ih =>
  intro out a h0 h1 h2 h3
  refine evSucc ?_
  simp only [impl_ReadLog.l0]
  unfold rlGo
  by_cases hlt : a < t.size
  ·rw [if_pos hlt]
   have hsz := rsS_size t a
   refine evPos hlt (Ev.bind (ev_impl_ReadShort t a (by omega)) (Ev.bind (ev_impl_ReadFrame _ (by omega)) ?_))
   cases hs : (rsS t a).2.2
   ·exact evEq (evNeg (by simp) (Ev.now _)) (if_neg (fun z => by cases z.1)).symm
   ·refine evPos rfl ?_
    cases hf : (readFrameS (rsS t a).1).2.2.2.2.2.2.2
    ·exact evEq (evNeg (by simp) (Ev.now _)) (if_neg (fun z => by cases z.2.1)).symm
    ·refine evPos rfl ?_
     by_cases hk : (readFrameS (rsS t a).1).1 = 1
     ·refine evPos hk ?_
      by_cases hl : out.length = 200
      ·exact evEq (evPos (by omega) (Ev.now _)) (if_neg (fun z => z.2.2.2 hl)).symm
      ·rw [if_pos (⟨rfl, rfl, hk, hl⟩ : true = true ∧ true = true ∧ _ ∧ _)]
       obtain ⟨_, r1, r2, _, _⟩ := rsS_ok (t := t) (a := a) (s := (rsS t a).1) (e := (rsS t a).2.1) (Prod.ext rfl (Prod.ext rfl hs))
       refine evNeg (by omega) (evPos (by omega) ?_)
       exact ih _ _ (by omega) (by omega) (by simp; omega) (by omega)
     ·exact evEq (evNeg hk (Ev.now _)) (if_neg (fun z => hk z.2.2.1)).symm
  ·rw [if_neg hlt]
   exact evNeg hlt (Ev.now _)
theorem ev_impl_ReadLog (t : ByteArray) (ht : t.size ≤ 2000000000) : Ev (fun k => impl_ReadLog.f k t) (readLogS t) := by
 simp only [impl_ReadLog.f]
 exact ev_impl_rl t ht _ _ _ (by omega) (by omega) (by simp) (by omega)
theorem foldLog (l : List S70) : ∀ s : ByteArray, l.foldl logStep s = s ++ logRaw l := by
 induction l with
 | nil => intro s; show s = s ++ ⟨#[]⟩; exact ByteArray.append_empty.symm
 | cons x l ih =>
  intro s
  have h1 := ih (logStep s x)
  have h2 := ih (logStep ⟨#[]⟩ x)
  have e0 : (⟨#[]⟩ : ByteArray) ++ varS ((entryT x).size : Int) = varS ((entryT x).size : Int) := ByteArray.empty_append
  rw [List.foldl_cons, h1]
  show logStep s x ++ logRaw l = s ++ (x :: l).foldl logStep ⟨#[]⟩
  rw [List.foldl_cons, h2]
  unfold logStep
  rw [e0]
  simp only [ByteArray.append_assoc]
theorem logRaw_cons (x : S70) (l : List S70) : logRaw (x :: l) = (varS ((entryT x).size : Int) ++ entryT x) ++ logRaw l := by
 have e0 : (⟨#[]⟩ : ByteArray) ++ varS ((entryT x).size : Int) = varS ((entryT x).size : Int) := ByteArray.empty_append
 unfold logRaw
 rw [List.foldl_cons, foldLog]
 unfold logStep
 rw [e0]
 rfl
theorem logRaw_app (a b : List S70) : logRaw (a ++ b) = logRaw a ++ logRaw b := by
 unfold logRaw
 rw [List.foldl_append, foldLog]
 rfl
theorem rsS_back (p s q : ByteArray) (hs : s.size ≤ 20000) : rsS (p ++ ((varS (s.size : Int) ++ s) ++ q)) (p.size : Int) = (s, ((p.size + ((varS (s.size : Int)).size + s.size) : Nat) : Int), true) := by
 have h := readVar_back p (s ++ q) s.size (by omega)
 have e : (p ++ varS (s.size : Int)) ++ (s ++ q) = p ++ ((varS (s.size : Int) ++ s) ++ q) := by simp only [ByteArray.append_assoc]
 rw [e] at h
 have htot : (p ++ ((varS (s.size : Int) ++ s) ++ q)).size = p.size + (varS (s.size : Int)).size + s.size + q.size := by simp only [sizeApp]; omega
 unfold rsS
 simp only [h]
 rw [if_pos ⟨trivial, by omega, by omega⟩]
 have hm := ext_mid (p ++ varS (s.size : Int)) s q
 have e2 : ((p ++ varS (s.size : Int)) ++ s) ++ q = p ++ ((varS (s.size : Int) ++ s) ++ q) := by simp only [ByteArray.append_assoc]
 rw [e2, sizeApp] at hm
 rw [Int.toNat_natCast, Int.toNat_natCast, hm]
 congr 2
 omega
theorem readEntry (x : S70) (h : okE x = true) : readFrameS (entryT x) = (1, x.f0, x.f1, x.f2.f0, x.f2.f1, x.f2.f2, x.f2.f3, true) := frame_back h
theorem rlGo_back (l : List S70) (hl : l.length ≤ 200) (ha : l.all okE = true) : ∀ (r : List S70) (o : List S70) (d : Nat), o ++ r = l → r.length < d → rlGo (logRaw l) d o ((logRaw o).size : Int) = (l, true) := by
 intro r
 induction r with
 | nil =>
  intro o d h hd
  obtain ⟨d, rfl⟩ : ∃ d', d = d' + 1 := ⟨d - 1, by omega⟩
  rw [List.append_nil] at h
  subst h
  unfold rlGo
  rw [if_neg (by omega)]
 | cons x r ih =>
  intro o d h hd
  obtain ⟨d, rfl⟩ : ∃ d', d = d' + 1 := ⟨d - 1, by omega⟩
  have hx : okE x = true := by
   rw [List.all_eq_true] at ha
   exact ha x (by rw [← h]; simp)
  have hraw : logRaw l = logRaw o ++ ((varS ((entryT x).size : Int) ++ entryT x) ++ logRaw r) := by rw [← h, logRaw_app, logRaw_cons]
  have hsz := entryT_size x
  have h4 := entryT_yes x hx
  have hrs := rsS_back (logRaw o) (entryT x) (logRaw r) (by omega)
  rw [← hraw] at hrs
  have hf := readEntry x hx
  have hlt : ((logRaw o).size : Int) < (logRaw l).size := by rw [hraw, sizeApp, sizeApp, sizeApp]; omega
  have hol : o.length ≠ 200 := by
   have : (o ++ (x :: r)).length ≤ 200 := by rw [h]; exact hl
   simp at this
   omega
  unfold rlGo
  rw [if_pos hlt]
  simp only [hrs, hf]
  rw [if_pos ⟨trivial, trivial, trivial, hol⟩]
  have hnext : ((logRaw o).size + ((varS ((entryT x).size : Int)).size + (entryT x).size)) = (logRaw (o ++ [x])).size := by rw [logRaw_snoc]; simp only [sizeApp]; omega
  rw [hnext]
  have hlen : r.length < d := by simp at hd; omega
  exact ih (o ++ [x]) d (by rw [List.append_assoc]; exact h) hlen
theorem readLog_back (l : List S70) (hl : l.length ≤ 200) (ha : l.all okE = true) : readLogS (logRaw l) = (l, true) := by
 have hge : l.length ≤ (logRaw l).size := by
  have key : ∀ l : List S70, l.all okE = true → l.length ≤ (logRaw l).size := by
   intro l
   induction l with
   | nil => intro _; exact Nat.zero_le _
   | cons x l ih =>
    intro h
    rw [List.all_cons, Bool.and_eq_true] at h
    have h1 := ih h.2
    have h2 := entryT_yes x h.1
    rw [logRaw_cons, sizeApp, sizeApp, List.length_cons]
    omega
  exact key l ha
 exact rlGo_back l hl ha l [] _ rfl (by omega)
def noSeg : Int × ByteArray × List S70 × ByteArray × Bool := (0, ⟨#[]⟩, [], ⟨#[]⟩, false)
def rsgIn (t x : ByteArray) (from_ at_ : Int) : Int × ByteArray × List S70 × ByteArray × Bool :=
 if (rsS x (at_ + 32)).2.2 = true ∧ (readLogS (rsS x (at_ + 32)).1).2 = true ∧ segTextS from_ (x.extract at_.toNat (at_ + 32).toNat) (readLogS (rsS x (at_ + 32)).1).1 (headS (x.extract at_.toNat (at_ + 32).toNat) (readLogS (rsS x (at_ + 32)).1).1) = (t, true) then
  (from_, x.extract at_.toNat (at_ + 32).toNat, (readLogS (rsS x (at_ + 32)).1).1, headS (x.extract at_.toNat (at_ + 32).toNat) (readLogS (rsS x (at_ + 32)).1).1, true)
 else noSeg
def readSegS (t : ByteArray) : Int × ByteArray × List S70 × ByteArray × Bool :=
 if (unsealS t).2 = true ∧ (readVarS (unsealS t).1 0).2.2 = true ∧ (readVarS (unsealS t).1 0).2.1 + 32 ≤ (unsealS t).1.size then rsgIn t (unsealS t).1 (readVarS (unsealS t).1 0).1 (readVarS (unsealS t).1 0).2.1 else noSeg
theorem pairEq {a : ByteArray × Bool} {t : ByteArray} (h1 : a.2 = true) (h2 : a.1.toList = t.toList) : a = (t, true) := Prod.ext (toList_inj h2) h1
theorem segEnd {t x : ByteArray} {f a : Int} {l : List S70} {d : ByteArray} (hu : unsealS t = (x, true)) (hv : readVarS x 0 = (f, a, true)) (ha : a + 32 ≤ x.size) (hs : segTextS f (x.extract a.toNat (a + 32).toNat) l d = (t, true)) :
 (rsS x (a + 32)).2.1 = (x.size : Int) := by
 obtain ⟨ht, hx⟩ := unsealS_ok hu
 obtain ⟨v0, v1, v2, v3, v4, v5, v6⟩ := readVarS_ok hv
 unfold segTextS at hs
 split at hs
 ·rename_i hc
  have hbs : (x.extract a.toNat (a + 32).toNat).size = 32 := by rw [ByteArray.size_extract]; omega
  have hvs : (varS f).size = a.toNat := by rw [v6, ByteArray.size_extract]; omega
  have hp : (varS f ++ x.extract a.toNat (a + 32).toNat).size = (a + 32).toNat := by rw [sizeApp, hvs, hbs]; omega
  generalize hL : logRaw l = L at hs hc
  unfold sealB at hs
  split at hs
  ·simp only [Prod.mk.injEq, and_true] at hs
   have hss : (((varS f ++ x.extract a.toNat (a + 32).toNat) ++ varS (L.size : Int)) ++ L).size = x.size := by
    have := congrArg ByteArray.size (hs.trans ht)
    simp only [sizeApp, four4_size] at this ⊢
    omega
   have hxx := (catInj (hs.trans ht) hss).1
   have hb := rsS_back (varS f ++ x.extract a.toNat (a + 32).toNat) L ⟨#[]⟩ (by omega)
   have e : (varS f ++ x.extract a.toNat (a + 32).toNat) ++ ((varS (L.size : Int) ++ L) ++ ⟨#[]⟩) = x := by
    rw [ByteArray.append_assoc] at hxx
    rw [show ((varS (L.size : Int) ++ L) ++ (⟨#[]⟩ : ByteArray)) = varS (L.size : Int) ++ L from ByteArray.append_empty]
    exact hxx
   rw [e, hp, Int.toNat_of_nonneg (by omega)] at hb
   rw [hb]
   show (((a + 32).toNat + _ : Nat) : Int) = _
   have h5 := hss
   rw [sizeApp, sizeApp, hp] at h5
   omega
  ·simp at hs
 ·simp at hs
theorem ev_impl_ReadSegment (t : ByteArray) (ht : t.size ≤ 140737488351232) : Ev (fun k => impl_ReadSegment.f k t) (readSegS t) := by
 have no : ∀ (x : ByteArray) (a b : Int) (y : Bool), y = true → Ev (fun k => impl_ReadSegment.j0 k t x a b y) noSeg := by
  rintro x a b y rfl
  refine evSucc ?_
  simp only [impl_ReadSegment.j0]
  exact evPos trivial (Ev.now _)
 have no1 : ∀ (y : Bool) (a : Int) (b : ByteArray) (l : List S70) (d : ByteArray), y = true → Ev (fun k => impl_ReadSegment.j1 k t y a b l d) noSeg := by
  rintro y a b l d rfl
  refine evSucc ?_
  simp only [impl_ReadSegment.j1]
  exact evPos trivial (Ev.now _)
 simp only [impl_ReadSegment.f]
 refine Ev.bind (ev_impl_Unsealed t ht) ?_
 unfold readSegS
 cases hu : (unsealS t).2
 ·exact evEq (evNeg (by simp) (Ev.now _)) (if_neg (fun z => by cases z.1)).symm
 have hux : unsealS t = ((unsealS t).1, true) := Prod.ext rfl hu
 have hx := (unsealS_ok hux).2
 generalize (unsealS t).1 = x at hx hux ⊢
 refine evPos rfl (Ev.bind (ev_impl_ReadVar x 0 (by omega)) ?_)
 cases hv : (readVarS x 0).2.2
 ·exact evEq (evNeg (by simp) (no _ _ _ _ rfl)) (if_neg (fun z => by cases z.2.1)).symm
 have hvx : readVarS x 0 = ((readVarS x 0).1, (readVarS x 0).2.1, true) := Prod.ext rfl (Prod.ext rfl hv)
 obtain ⟨v0, v1, v2, v3, v4, v5, v6⟩ := readVarS_ok hvx
 generalize (readVarS x 0).1 = f at *
 generalize (readVarS x 0).2.1 = a at *
 refine evPos rfl ?_
 rw [w64 (x := (x.size : Int) - a) (by omega) (by omega)]
 by_cases h32 : a + 32 ≤ x.size
 ·rw [if_pos (show true = true ∧ true = true ∧ _ from ⟨rfl, rfl, h32⟩)]
  refine evSucc ?_
  simp only [impl_ReadSegment.j0]
  rw [w64 (x := a + 32) (by omega) (by omega)]
  have hrs := rsS_size x (a + 32)
  have hll := readLogS_len (rsS x (a + 32)).1
  have hbs : (x.extract a.toNat (a + 32).toNat).size ≤ 32 := by rw [ByteArray.size_extract]; omega
  have hse := fun l d => segEnd (l := l) (d := d) hux hvx h32
  refine evNeg (by simp; omega) (Ev.bind (ev_impl_ReadShort x _ (by omega)) (Ev.bind (ev_impl_ReadLog _ (by omega)) (evPos (by omega) (evPos (by omega) (evPos (by omega) (Ev.bind (ev_impl_HeadFrom _ _ (by omega) (by omega)) ?_))))))
  unfold rsgIn
  cases hr : (rsS x (a + 32)).2.2
  ·exact evEq (evNeg (by simp) (no1 _ _ _ _ _ rfl)) (if_neg (fun z => by cases z.1)).symm
  generalize (rsS x (a + 32)).1 = g at *
  cases hg : (readLogS g).2
  ·exact evEq (evPos rfl (evNeg (by simp) (no1 _ _ _ _ _ rfl))) (if_neg (fun z => by cases z.2.1)).symm
  refine evPos rfl (evPos rfl ?_)
  generalize hd : headS (x.extract a.toNat (a + 32).toNat) (readLogS g).1 = d
  generalize hq : segTextS f (x.extract a.toNat (a + 32).toNat) (readLogS g).1 d = q
  by_cases he : (rsS x (a + 32)).2.1 = (x.size : Int)
  ·refine evSucc ?_
   simp only [impl_ReadSegment.j1]
   refine evNeg (by rw [he]; simp) (Ev.bind (evEq (ev_impl_SegmentText _ _ _ _) hq) ?_)
   by_cases h1 : q.2 = true
   ·by_cases h2 : q.1.toList = t.toList
    ·exact evEq (evPos h1 (evPos h2 (Ev.now _))) (if_pos ⟨trivial, trivial, pairEq h1 h2⟩).symm
    ·exact evEq (evPos h1 (evNeg h2 (Ev.now _))) (if_neg (fun z => h2 (by rw [z.2.2]))).symm
   ·exact evEq (evNeg h1 (Ev.now _)) (if_neg (fun z => h1 (by rw [z.2.2]))).symm
  ·exact evEq (no1 _ _ _ _ _ (by simpa using he)) (if_neg (fun z => he (hse _ _ (hq.trans z.2.2)))).symm
 ·rw [if_neg (fun z => h32 z.2.2)]
  exact no _ _ _ _ (by simp; omega)
theorem empSize : (⟨#[]⟩ : ByteArray).size = 0 := rfl
theorem readSeg_back {a : Int} {b : ByteArray} {l : List S70} {d : ByteArray} (h : segB a b l d = true) (hL : (logRaw l).size ≤ 15000) : ∃ t : ByteArray, segTextS a b l d = (t, true) ∧ t.size ≤ 30000 ∧ readSegS t = (a, b, l, d, true) := by
 obtain ⟨a0, a1, hb, l0, l1, ha, hd⟩ := segB_facts h
 have hlog := readLog_back l l1 ha
 have hst : segTextS a b l d = sealB (((varS a ++ b) ++ varS ((logRaw l).size : Int)) ++ logRaw l) := by unfold segTextS; rw [if_pos ⟨h, hL⟩]
 have hst2 := hst
 generalize hg : logRaw l = L at hL hlog hst
 have hva := varS_size a (by omega)
 have hvl := varS_size (L.size : Int) (by omega)
 have hs : (((varS a ++ b) ++ varS (L.size : Int)) ++ L).size ≤ 20000 := by rw [sizeApp, sizeApp, sizeApp]; omega
 have hun := unsealS_sealed _ hs
 have hsl : sealB (((varS a ++ b) ++ varS (L.size : Int)) ++ L) = ((((varS a ++ b) ++ varS (L.size : Int)) ++ L) ++ four4 (sumS (((varS a ++ b) ++ varS (L.size : Int)) ++ L)), true) := by unfold sealB; rw [if_pos hs]
 have e1 : ((varS a ++ b) ++ varS (L.size : Int)) ++ L = ((⟨#[]⟩ : ByteArray) ++ varS (a.toNat : Int)) ++ (b ++ (varS (L.size : Int) ++ L)) := by
  rw [Int.toNat_of_nonneg a0, show (⟨#[]⟩ : ByteArray) ++ varS a = varS a from ByteArray.empty_append]
  simp only [ByteArray.append_assoc]
 have e2 : ((varS a ++ b) ++ varS (L.size : Int)) ++ L = (varS a ++ b) ++ ((varS (L.size : Int) ++ L) ++ (⟨#[]⟩ : ByteArray)) := by
  rw [show (varS (L.size : Int) ++ L) ++ (⟨#[]⟩ : ByteArray) = varS (L.size : Int) ++ L from ByteArray.append_empty]
  simp only [ByteArray.append_assoc]
 have e3 : ((varS a ++ b) ++ varS (L.size : Int)) ++ L = (varS a ++ b) ++ (varS (L.size : Int) ++ L) := by simp only [ByteArray.append_assoc]
 have hrv := readVar_back (⟨#[]⟩ : ByteArray) (b ++ (varS (L.size : Int) ++ L)) a.toNat (by omega)
 rw [← e1, empSize, Int.toNat_of_nonneg a0, Nat.zero_add] at hrv
 have hrs := rsS_back (varS a ++ b) L (⟨#[]⟩ : ByteArray) (by omega)
 rw [← e2, sizeApp, hb] at hrs
 have hmid := ext_mid (varS a) b (varS (L.size : Int) ++ L)
 rw [← e3, hb] at hmid
 have hx : (((varS a ++ b) ++ varS (L.size : Int)) ++ L).size = (varS a).size + 32 + (varS (L.size : Int)).size + L.size := by rw [sizeApp, sizeApp, sizeApp, hb]
 have htx := hst.trans hsl
 generalize hX : ((varS a ++ b) ++ varS (L.size : Int)) ++ L = X at *
 refine ⟨X ++ four4 (sumS X), htx, by rw [sizeApp, four4_size]; omega, ?_⟩
 unfold readSegS
 rw [hun]
 simp only []
 have hz : readVarS X 0 = (a, ((varS a).size : Int), true) := hrv
 rw [hz, if_pos (show True ∧ true = true ∧ ((varS a).size : Int) + 32 ≤ X.size from ⟨trivial, rfl, by omega⟩)]
 unfold rsgIn
 simp only []
 rw [show ((varS a).size : Int) + 32 = (((varS a).size + 32 : Nat) : Int) by omega, hrs, Int.toNat_natCast, Int.toNat_natCast, hmid, hlog]
 simp only []
 rw [← hd, if_pos ⟨trivial, trivial, htx⟩]
theorem and255 (x : Int) : 0 ≤ Go.bits .and .i64 x 255 ∧ Go.bits .and .i64 x 255 ≤ 255 := by
 have e : Go.bits .and .i64 x 255 = (((BitVec.ofInt 64 x).toNat % 256 : Nat) : Int) := by
  rw [bits_nat]
  show IntKind.wrap .i64 ((BitVec.ofInt 64 x &&& BitVec.ofInt 64 ((255 : Nat) : Int)).toNat : Int) = _
  rw [BitVec.toNat_and, ofInt_nat64 255 (by omega), wrap_i64]
  have : (BitVec.ofInt 64 x).toNat &&& 255 = (BitVec.ofInt 64 x).toNat % 256 := Nat.and_two_pow_sub_one_eq_mod _ 8
  rw [this, w64 (by omega) (by omega)]
 rw [e]
 omega
theorem drawByte (b : List Int) (i h : Int) (h0 : 0 ≤ i) (h1 : i ≤ b.length) (hb : b.length ≤ 16777216) : ∃ x i' h', spec_l01Byte.f b i h = some (x, i', h') ∧ 0 ≤ x ∧ x ≤ 255 ∧ 0 ≤ i' ∧ i' ≤ b.length := by
 unfold spec_l01Byte.f
 by_cases hc : i < (b.length : Int)
 ·rw [if_pos hc, if_pos h0, w64 (x := i + 1) (by omega) (by omega)]
  refine ⟨_, _, _, rfl, (and255 _).1, (and255 _).2, by omega, by omega⟩
 ·rw [if_neg hc]
  exact ⟨_, _, _, rfl, (and255 _).1, (and255 _).2, h0, h1⟩
theorem drawBelow (b : List Int) (i h n : Int) (h0 : 0 ≤ i) (h1 : i ≤ b.length) (hb : b.length ≤ 16777216) (hn : 0 < n) : ∃ x i' h', spec_l01Below.f b i h n = some (x, i', h') ∧ 0 ≤ x ∧ x < n ∧ 0 ≤ i' ∧ i' ≤ b.length := by
 unfold spec_l01Below.f
 rw [if_neg (by omega)]
 by_cases hc : n ≤ 256
 ·obtain ⟨x, i', h', e, x0, x1, i0, i1⟩ := drawByte b i h h0 h1 hb
  rw [if_pos hc, e]
  simp only [Option.bind_some]
  rw [if_neg (by omega), Int.tmod_eq_emod_of_nonneg x0]
  exact ⟨_, _, _, rfl, Int.emod_nonneg _ (by omega), Int.emod_lt_of_pos _ hn, i0, i1⟩
 ·obtain ⟨x, i1, h1', e1, x0, x1, j0, j1⟩ := drawByte b i h h0 h1 hb
  obtain ⟨y, i2, h2', e2, y0, y1, k0, k1⟩ := drawByte b i1 h1' j0 j1 hb
  obtain ⟨z, i3, h3', e3, z0, z1, l0, l1⟩ := drawByte b i2 h2' k0 k1 hb
  obtain ⟨v, i4, h4', e4, v0, v1, m0, m1⟩ := drawByte b i3 h3' l0 l1 hb
  rw [if_neg hc, e1]
  simp only [Option.bind_some, e2, e3, e4]
  rw [if_neg (by omega), w64 (x := x * 16777216) (by omega) (by omega), w64 (x := y * 65536) (by omega) (by omega), w64 (x := x * 16777216 + y * 65536) (by omega) (by omega), w64 (x := z * 256) (by omega) (by omega), w64 (x := x * 16777216 + y * 65536 + z * 256) (by omega) (by omega), w64 (x := x * 16777216 + y * 65536 + z * 256 + v) (by omega) (by omega), Int.tmod_eq_emod_of_nonneg (by omega)]
  exact ⟨_, _, _, rfl, Int.emod_nonneg _ (by omega), Int.emod_lt_of_pos _ hn, m0, m1⟩
theorem drawOnce (b : List Int) (i h n : Int) (h0 : 0 ≤ i) (h1 : i ≤ b.length) (hb : b.length ≤ 16777216) (hn : 0 < n) : ∃ (x : Bool) (i' h' : Int), spec_l01Once.f b i h n = some (x, i', h') ∧ 0 ≤ i' ∧ i' ≤ b.length := by
 unfold spec_l01Once.f
 obtain ⟨x, i', h', e, x0, x1, i0, i1⟩ := drawBelow b i h n h0 h1 hb hn
 rw [e]
 exact ⟨_, _, _, rfl, i0, i1⟩
theorem drawNew (b : List Int) (hb : b.length ≤ 16777216) : ∃ h : Int, Ev (fun k => spec_l01New.f k b) (b, 0, h) := by
 have key : ∀ d (i : Nat) (h : Int), i + d = b.length → ∃ h', Ev (fun k => spec_l01New.l0 k b h (i : Int)) (b, 0, h') := by
  intro d
  induction d with
  | zero =>
   intro i h hi
   refine ⟨h, evSucc ?_⟩
   simp only [spec_l01New.l0]
   exact evNeg (by omega) (Ev.now _)
  | succ d ih =>
   intro i h hi
   by_cases h4 : (i : Int) < 4000
   ·obtain ⟨h', hh⟩ := ih (i + 1) (Go.bits .and .i64 (wrap64 ((wrap64 ((wrap64 (h * 131)) + (wrap64 (rd b (i : Int))))) + 7)) 1073741823) (by omega)
    refine ⟨h', evSucc ?_⟩
    simp only [spec_l01New.l0]
    refine evPos (by omega) (evPos h4 (evPos (by omega) ?_))
    rw [w64 (x := (i : Int) + 1) (by omega) (by omega), ci]
    exact hh
   ·refine ⟨h, evSucc ?_⟩
    simp only [spec_l01New.l0]
    exact evPos (by omega) (evNeg h4 (Ev.now _))
 simp only [spec_l01New.f]
 exact key b.length 0 _ (by omega)
theorem drawHalf (b : List Int) (i h : Int) (h0 : 0 ≤ i) (h1 : i ≤ b.length) (hb : b.length ≤ 16777216) : ∃ x i' h', spec_l04Half.f b i h = some (x, i', h') ∧ 0 ≤ x ∧ x ≤ 4294967295 ∧ 0 ≤ i' ∧ i' ≤ b.length := by
 unfold spec_l04Half.f
 obtain ⟨x, i1, h1', e1, x0, x1, j0, j1⟩ := drawBelow b i h 12 h0 h1 hb (by omega)
 rw [e1]
 simp only [Option.bind_some]
 unfold spec_l01PickInt.f
 obtain ⟨y, i2, h2', e2, y0, y1, k0, k1⟩ := drawBelow b i1 h1' (([0, 1, 2, 3, 5, 7, 255, 4294967295, 2147483648, x] : List Int).length : Int) j0 j1 hb (by simp)
 rw [e2]
 simp only [Option.bind_some]
 rw [if_pos y0, if_pos y1]
 simp only [Option.bind_some]
 have hy : y < 10 := y1
 refine ⟨_, _, _, rfl, ?_, ?_, k0, k1⟩
 all_goals
  have hc : y = 0 ∨ y = 1 ∨ y = 2 ∨ y = 3 ∨ y = 4 ∨ y = 5 ∨ y = 6 ∨ y = 7 ∨ y = 8 ∨ y = 9 := by omega
  rcases hc with rfl | rfl | rfl | rfl | rfl | rfl | rfl | rfl | rfl | rfl <;> simp [rd] <;> omega
theorem drawItem (b : List Int) (i h : Int) (h0 : 0 ≤ i) (h1 : i ≤ b.length) (hb : b.length ≤ 16777216) : ∃ c d e f i' h', spec_l17Item.f b i h = some (c, d, e, f, i', h') ∧ itemB c d e f = true ∧ 0 ≤ i' ∧ i' ≤ b.length := by
 unfold spec_l17Item.f
 obtain ⟨x, i1, h1', e1, j0, j1⟩ := drawOnce b i h 3 h0 h1 hb (by omega)
 rw [e1]
 simp only [Option.bind_some]
 cases x
 ·rw [if_neg (by simp)]
  obtain ⟨y, i2, h2', e2, y0, y1, k0, k1⟩ := drawBelow b i1 h1' 9 j0 j1 hb (by omega)
  rw [e2]
  simp only [Option.bind_some]
  obtain ⟨z, i3, h3', e3, z0, z1, l0, l1⟩ := drawHalf b i2 h2' k0 k1 hb
  rw [e3]
  refine ⟨_, _, _, _, _, _, rfl, ?_, l0, l1⟩
  unfold itemB rng
  simp
  omega
 ·rw [if_pos rfl]
  obtain ⟨y, i2, h2', e2, y0, y1, k0, k1⟩ := drawBelow b i1 h1' 5 j0 j1 hb (by omega)
  rw [e2]
  simp only [Option.bind_some]
  rw [w64 (x := 1 + y) (by omega) (by omega)]
  refine ⟨_, _, _, _, _, _, rfl, ?_, k0, k1⟩
  unfold itemB rng
  simp
  omega
theorem drawEntriesGo (b : List Int) (hb : b.length ≤ 16777216) : ∀ (d : Nat) (i h : Int) (n : Nat) (out : List S70), 0 ≤ i → i ≤ b.length → n + d = 5 → out.length = n → out.all okE = true →
 ∃ l i' h', Ev (fun k => spec_l19Entries.l0 k out (n : Int) b i h) (l, i', h') ∧ l.length ≤ 5 ∧ l.all okE = true ∧ 0 ≤ i' ∧ i' ≤ b.length := by
 intro d
 induction d with
 | zero =>
  intro i h n out h0 h1 hn ho ha
  obtain ⟨x, i1, h1', e1, x0, x1, j0, j1⟩ := drawBelow b i h 6 h0 h1 hb (by omega)
  refine ⟨out, i1, h1', evSucc ?_, by omega, ha, j0, j1⟩
  simp only [spec_l19Entries.l0]
  exact evBindS e1 (evNeg (by omega) (Ev.now _))
 | succ d ih =>
  intro i h n out h0 h1 hn ho ha
  obtain ⟨x, i1, h1', e1, x0, x1, j0, j1⟩ := drawBelow b i h 6 h0 h1 hb (by omega)
  by_cases hx : (n : Int) < x
  ·obtain ⟨y, i2, h2', e2, y0, y1, k0, k1⟩ := drawBelow b i1 h1' 3 j0 j1 hb (by omega)
   obtain ⟨z, i3, h3', e3, z0, z1, l0, l1⟩ := drawBelow b i2 h2' 5 k0 k1 hb (by omega)
   obtain ⟨c, e, f, g, i4, h4', e4, hi, m0, m1⟩ := drawItem b i3 h3' l0 l1 hb
   obtain ⟨l, i', h', hev, hl, hall, q0, q1⟩ := ih i4 h4' (n + 1) (out ++ [⟨y, 1 + z, ⟨c, e, f, g⟩⟩]) m0 m1 (by omega) (by simp; omega) (by
    rw [List.all_append, ha]
    simp
    show frameB 1 y (1 + z) c e f g = true
    unfold frameB
    rw [if_pos rfl, hi]
    unfold rng
    simp
    omega)
   refine ⟨l, i', h', evSucc ?_, hl, hall, q0, q1⟩
   simp only [spec_l19Entries.l0]
   refine evBindS e1 (evPos hx (evBindS e2 (evBindS e3 (evBindS e4 (evPos (by omega) ?_)))))
   rw [w64 (x := (n : Int) + 1) (by omega) (by omega), w64 (x := 1 + z) (by omega) (by omega), ci]
   exact hev
  ·refine ⟨out, i1, h1', evSucc ?_, by omega, ha, j0, j1⟩
   simp only [spec_l19Entries.l0]
   exact evBindS e1 (evNeg hx (Ev.now _))
theorem drawEntriesAt (b : List Int) (hb : b.length ≤ 16777216) (i h : Int) (h0 : 0 ≤ i) (h1 : i ≤ b.length) :
 ∃ l i' h', Ev (fun k => spec_l19Entries.f k b i h) (l, i', h') ∧ l.length ≤ 5 ∧ l.all okE = true ∧ 0 ≤ i' ∧ i' ≤ b.length :=
 drawEntriesGo b hb 5 i h 0 [] h0 h1 (by omega) rfl rfl
theorem drawEntries (b : List Int) (hb : b.length ≤ 16777216) : ∃ l, Ev (fun k => spec_DrawEntries.f k b) l ∧ l.length ≤ 5 ∧ l.all okE = true := by
 obtain ⟨h, e⟩ := drawNew b hb
 obtain ⟨l, i', h', e2, hl, ha, _, _⟩ := drawEntriesAt b hb 0 h (by omega) (by omega)
 refine ⟨l, ?_, hl, ha⟩
 simp only [spec_DrawEntries.f]
 exact Ev.bind e (Ev.bind e2 (Ev.now _))
theorem drawPlaces (b : List Int) (hb : b.length ≤ 16777216) : ∃ l : List Int, Ev (fun k => spec_DrawPlaces.f k b) l ∧ l.length = 12 ∧ ∀ x ∈ l, 0 ≤ x ∧ x < 10000 := by
 obtain ⟨h, e⟩ := drawNew b hb
 obtain ⟨x, i1, h1', e1, _, _, j0, j1⟩ := drawByte b 0 h (by omega) (by omega) hb
 have key : ∀ (d i : Nat) (p q : Int) (out : List Int), i + d = 12 → out.length = i → (∀ x ∈ out, 0 ≤ x ∧ x < 10000) → 0 ≤ p → p ≤ b.length → ∃ l : List Int, Ev (fun k => spec_DrawPlaces.l0 k out (i : Int) b p q) l ∧ l.length = 12 ∧ ∀ x ∈ l, 0 ≤ x ∧ x < 10000 := by
  intro d
  induction d with
  | zero =>
   intro i p q out hi ho hx _ _
   refine ⟨out, evSucc ?_, by omega, hx⟩
   simp only [spec_DrawPlaces.l0]
   exact evNeg (by omega) (Ev.now _)
  | succ d ih =>
   intro i p q out hi ho hx hp0 hp1
   obtain ⟨y, i2, h2', e2, y0, y1, k0, k1⟩ := drawBelow b p q 10000 hp0 hp1 hb (by omega)
   obtain ⟨l, el, hl, hall⟩ := ih (i + 1) i2 h2' (out ++ [y]) (by omega) (by simp; omega) (by
    intro z hz
    rcases List.mem_append.1 hz with hz | hz
    ·exact hx z hz
    ·rw [List.mem_singleton.1 hz]; exact ⟨y0, y1⟩) k0 k1
   refine ⟨l, evSucc ?_, hl, hall⟩
   simp only [spec_DrawPlaces.l0]
   refine evPos (by omega) (evBindS e2 (evPos (by omega) ?_))
   rw [w64 (x := (i : Int) + 1) (by omega) (by omega), ci]
   exact el
 obtain ⟨l, el, hl, hall⟩ := key 12 0 i1 h1' [] (by omega) rfl (by intro x hx; cases hx) j0 j1
 refine ⟨l, ?_, hl, hall⟩
 simp only [spec_DrawPlaces.f]
 exact Ev.bind e (evBindS e1 el)
theorem ev_sameEntries (l : List S70) (hl : l.length ≤ 1048576) : Ev (fun k => laws_sameEntries.f k l l) true := by
 have key := evUp (r := true) l.length (fun i k => laws_sameEntries.l0 k l l (i : Int)) ?_ ?_
 ·refine Ev.congr (fun k => ?_) key
  unfold laws_sameEntries.f
  rw [if_pos rfl]
  rfl
 ·intro i hi ih
  refine evSucc ?_
  simp only [laws_sameEntries.l0]
  refine evPos (by omega) (evPos (by omega) (evPos (by omega) (evNeg (by simp) ?_)))
  rw [w64 (by omega) (by omega), ci]
  exact ih
 ·refine evSucc ?_
  simp only [laws_sameEntries.l0]
  exact evNeg (by omega) (Ev.now _)
theorem zero0 : (⟨#[]⟩ : ByteArray).size = 0 := rfl
theorem ev_spec_HeadOf (l : List S70) (hl : l.length ≤ 16777216) : Ev (fun k => spec_HeadOf.f k l) (headS (dig ⟨#[]⟩) l) := by
 simp only [spec_HeadOf.f]
 refine evBindS (dig_spec _ (by rw [zero0]; omega)) ?_
 have h0 := dig_size ⟨#[]⟩
 generalize dig ⟨#[]⟩ = h at h0 ⊢
 have key := evUp (r := headS h l) l.length (fun i k => spec_HeadOf.l0 k l (headS h (l.take i)) (i : Int)) ?_ ?_
 ·exact key
 ·intro i hi ih
  refine evSucc ?_
  simp only [spec_HeadOf.l0]
  have hs := headS_size h (l.take i)
  have he := entryT_size l[i]
  rw [rdE l i hi, w64 (by omega) (by omega), ci]
  refine evPos (by omega) (evPos (by omega) (Ev.bind (ev_spec_EntryText _ _ _ _ _ _) (evPos ?_ ?_)))
  ·show _ + (entryT l[i]).size ≤ _
   omega
  refine evBindS (dig_spec _ (by rw [sizeApp]; show _ + (entryT l[i]).size ≤ _; omega)) ?_
  rw [headS_step h l i hi] at ih
  exact ih
 ·refine evSucc ?_
  simp only [spec_HeadOf.l0]
  refine evNeg (by omega) ?_
  rw [List.take_length]
  exact Ev.now _
theorem partS_eq (l : List S70) (n a : Nat) : partS l n a = (l.drop a).take n := by
 unfold partS
 rw [List.drop_take]
 by_cases h : a + n ≤ l.length
 ·rw [show min (a + n) l.length - a = n by omega]
 ·rw [List.take_of_length_le (by rw [List.length_drop]; omega), List.take_of_length_le (by rw [List.length_drop]; omega)]
theorem cutGo_flat (l : List S70) (n : Nat) (hn : 0 < n) : ∀ (d a : Nat) (h : ByteArray), l.length - a = d → ((cutGo l n a h).map (fun s => s.f2)).flatten = l.drop a := by
 intro d
 induction d using Nat.strongRecOn with
 | ind d ih =>
  intro a h hd
  rw [cutGo]
  by_cases hc : a < l.length ∧ 0 < n
  ·rw [dif_pos hc, List.map_cons, List.flatten_cons, ih (l.length - (a + n)) (by omega) (a + n) _ rfl]
   show partS l n a ++ _ = _
   rw [partS_eq, ← List.drop_drop, List.take_append_drop]
  ·rw [dif_neg hc, List.drop_of_length_le (by omega)]
   rfl
theorem cutGo_part (l : List S70) (n : Nat) (hn : 0 < n) : ∀ (d a : Nat) (h : ByteArray), l.length - a = d → ∀ s ∈ cutGo l n a h, s.f2.length ≤ n ∧ s.f2.length ≤ l.length := by
 intro d
 induction d using Nat.strongRecOn with
 | ind d ih =>
  intro a h hd s hs
  rw [cutGo] at hs
  by_cases hc : a < l.length ∧ 0 < n
  ·rw [dif_pos hc] at hs
   rcases List.mem_cons.1 hs with rfl | hs
   ·show (partS l n a).length ≤ n ∧ (partS l n a).length ≤ l.length
    rw [partS_len l n a hc.1]; omega
   ·exact ih (l.length - (a + n)) (by omega) (a + n) _ rfl s hs
  ·rw [dif_neg hc] at hs
   simp at hs
theorem cutGo_none (l : List S70) (n a : Nat) (h : ByteArray) (hn : 0 < n) : (cutGo l n a h).length = 0 ↔ l.length ≤ a := by
 rw [cutGo]
 by_cases hc : a < l.length ∧ 0 < n
 ·rw [dif_pos hc, List.length_cons]; omega
 ·rw [dif_neg hc]
  simp; omega
theorem cutGo_last (l : List S70) (n : Nat) (hn : 0 < n) : ∀ (d a : Nat) (h : ByteArray), l.length - a = d → ∀ (i : Nat) (hi : i < (cutGo l n a h).length), i + 1 = (cutGo l n a h).length → ((cutGo l n a h)[i]).f3 = headS h (l.drop a) := by
 intro d
 induction d using Nat.strongRecOn with
 | ind d ih =>
  intro a h hd i hi h1
  have hcc : a < l.length ∧ 0 < n := by
   refine ⟨?_, hn⟩
   have := (cutGo_none l n a h hn)
   omega
  have he : cutGo l n a h = ⟨(a : Int), h, partS l n a, headS h (partS l n a)⟩ :: cutGo l n (a + n) (headS h (partS l n a)) := by rw [cutGo, dif_pos hcc]
  have hsplit : headS h (l.drop a) = headS (headS h (partS l n a)) (l.drop (a + n)) := by
   rw [partS_eq, ← List.drop_drop]
   unfold headS
   rw [← List.foldl_append, List.take_append_drop]
  rw [hsplit]
  have hlen : (cutGo l n a h).length = (cutGo l n (a + n) (headS h (partS l n a))).length + 1 := by rw [he, List.length_cons]
  cases i with
  | zero =>
   have h0 : (cutGo l n (a + n) (headS h (partS l n a))).length = 0 := by omega
   have := (cutGo_none l n (a + n) (headS h (partS l n a)) hn).1 h0
   rw [List.drop_of_length_le this]
   simp only [he, List.getElem_cons_zero]
   rfl
  | succ i =>
   simp only [he, List.getElem_cons_succ]
   exact ih (l.length - (a + n)) (by omega) (a + n) _ rfl i (by omega) (by omega)
theorem ev_impl_cutC (l : List S70) (n : Nat) (hl : l.length ≤ 200) (hn : 0 < n) (hn2 : n ≤ 200) : ∀ (d a : Nat) (h : ByteArray) (acc : List S30), l.length - a = d → h.size = 32 → acc.length ≤ a → a ≤ 400 →
 Ev (fun k => impl_CutLog.l0 k l (n : Int) acc h (a : Int)) (acc ++ cutGo l n a h, true) := by
 intro d
 induction d using Nat.strongRecOn with
 | ind d ih =>
  intro a h acc hd hh hacc ha4
  refine evSucc ?_
  simp only [impl_CutLog.l0]
  rw [cutGo]
  by_cases hc : a < l.length
  ·rw [dif_pos ⟨hc, hn⟩]
   have hw : wrap64 ((a : Int) + (n : Int)) = ((a + n : Nat) : Int) := by rw [w64 (by omega) (by omega)]; omega
   have hm : mn ((a + n : Nat) : Int) (l.length : Int) = ((min (a + n) l.length : Nat) : Int) := by unfold mn; split <;> omega
   have hpart : some ((l.take (mn (wrap64 ((a : Int) + (n : Int))) (l.length : Int)).toNat).drop (a : Int).toNat) = some (partS l n a) := by
    rw [hw, hm, Int.toNat_natCast, Int.toNat_natCast]
    rfl
   have hp := partS_len l n a hc
   refine evPos (by omega) (evBindS rfl (evPos (by omega) (evPos (by rw [hw, hm]; omega) (evPos (by rw [hw, hm]; omega) (evBindS hpart (evPos (by show 0 + _ < _; omega) (evBindS (congrArg some (List.nil_append _)) (Ev.bind (ev_impl_HeadFrom h _ (by omega) (by omega)) (evPos (by omega) ?_)))))))))
   rw [hw]
   have := ih (l.length - (a + n)) (by omega) (a + n) (headS h (partS l n a)) (acc ++ [⟨(a : Int), h, partS l n a, headS h (partS l n a)⟩]) rfl (headS_32 h _ hh) (by rw [List.length_append, List.length_singleton]; omega) (by omega)
   rw [List.append_assoc] at this
   exact this
  ·rw [dif_neg (fun z => hc z.1)]
   exact evNeg (by omega) (evEq (Ev.now _) (by simp))
theorem FnSegments : PureFnSegments.Stated := by
 intro code ⟨_, hb⟩
 refine Ev.rounds ?_
 simp only [laws_FnSegments.f, laws_big.f, Option.bind_some]
 by_cases hc : (code.length : Int) > 1048576
 ·exact evPos (by simpa using hc) (Ev.now _)
 refine evNeg (by simpa using hc) ?_
 obtain ⟨l, el, hl, ha⟩ := drawEntries code (by omega)
 obtain ⟨q, eq, hq, hqx⟩ := drawPlaces code (by omega)
 have hq0 : 0 ≤ rd q 0 ∧ rd q 0 < 10000 := by
  have : rd q 0 = q[0]'(by omega) := by simp [rd, show 0 < q.length by omega]
  rw [this]
  exact hqx _ (List.getElem_mem _)
 have hr0 : 0 ≤ rd q 0 % 4 := Int.emod_nonneg _ (by omega)
 have hr1 : rd q 0 % 4 < 4 := Int.emod_lt_of_pos _ (by omega)
 obtain ⟨n, hn⟩ := Int.eq_ofNat_of_zero_le (show 0 ≤ 1 + rd q 0 % 4 by omega)
 have hw : wrap64 (1 + Int.tmod (rd q 0) 4) = (n : Int) := by rw [Int.tmod_eq_emod_of_nonneg hq0.1, w64 (by omega) (by omega)]; omega
 refine Ev.bind el (Ev.bind eq (evPos (by omega) ?_))
 rw [hw]
 have hn1 : 0 < n := by omega
 have hcut : Ev (fun k => impl_CutLog.f k l (n : Int)) (cutGo l n 0 (dig ⟨#[]⟩), true) := by
  simp only [impl_CutLog.f, impl_in, Option.bind_some]
  rw [show rng (n : Int) 1 200 = true by unfold rng; simp; omega]
  refine evPos rfl (evSucc ?_)
  simp only [impl_CutLog.j0]
  refine evNeg (by simp; omega) (Ev.bind (dig_impl _ (by show (⟨#[]⟩ : ByteArray).size ≤ _; decide)) ?_)
  exact ev_impl_cutC l n (by omega) hn1 (by omega) _ 0 (dig ⟨#[]⟩) [] rfl (dig_size _) (Nat.le_refl _) (by omega)
 obtain ⟨a', h', hch⟩ := cut_chain l n (by omega) hn1 ha _ 0 (dig ⟨#[]⟩) rfl (dig_size _)
 have hlen := cutGo_len l n _ 0 (dig ⟨#[]⟩) rfl
 have hflat := cutGo_flat l n hn1 _ 0 (dig ⟨#[]⟩) rfl
 have hpart := cutGo_part l n hn1 _ 0 (dig ⟨#[]⟩) rfl
 have hnone := cutGo_none l n 0 (dig ⟨#[]⟩) hn1
 have hlast := cutGo_last l n hn1 _ 0 (dig ⟨#[]⟩) rfl
 generalize cutGo l n 0 (dig ⟨#[]⟩) = p at hcut hch hlen hflat hpart hnone hlast
 rw [List.drop_zero] at hflat hlast
 have hfull : joinS p = (l, true) := by
  obtain ⟨o, _, o2, o3⟩ := chain_join p 0 (dig ⟨#[]⟩) a' h' [] hch rfl
  have := o3 []
  rw [List.append_nil] at this
  unfold joinS
  rw [this, o2, List.nil_append, hflat]
  rfl
 refine Ev.bind hcut (Ev.bind (evEq (ev_impl_JoinSegments p (by omega)) hfull) ?_)
 have hD : (dig ⟨#[]⟩).size ≤ 16777216 := by rw [dig_size]; omega
 have key := evUp (r := true) p.length (fun i k => laws_FnSegments.l0 k l (n : Int) p true l true (i : Int)) ?_ ?_
 ·exact key
 ·intro i hi ih
  have hsplit : p = p.take i ++ (p[i] :: p.drop (i + 1)) := by rw [← List.drop_eq_getElem_cons, List.take_append_drop]
  have hch2 := hch
  rw [hsplit] at hch2
  obtain ⟨a1, h1, _, c2⟩ := chain_split _ _ _ _ _ _ hch2
  have hs := c2.1
  obtain ⟨q1, q2⟩ := hpart _ (List.getElem_mem hi)
  have hraw := logRaw_size p[i].f2
  obtain ⟨t, t1, t2, t3⟩ := readSeg_back hs (by omega)
  refine evSucc ?_
  simp only [laws_FnSegments.l0]
  rw [rdG p i hi, w64 (x := (i : Int) + 1) (by omega) (by omega), ci]
  refine evPos (by omega) (evPos (by omega) (Ev.bind (evEq (ev_impl_SegmentText _ _ _ _) t1) (Ev.bind (evEq (ev_impl_ReadSegment t (by omega)) t3) (evPos rfl (evPos rfl ?_)))))
  have hsame : Ev (fun k => laws_sameSegment.f k p[i].f0 p[i].f1 p[i].f2 p[i].f3 p[i].f0 p[i].f1 p[i].f2 p[i].f3) true := by
   simp only [laws_sameSegment.f]
   exact evPos trivial (evPos trivial (evPos trivial (Ev.bind (ev_sameEntries p[i].f2 (by omega)) (Ev.now _))))
  exact Ev.bind hsame (evPos rfl (Ev.bind (evEq (ev_impl_SegmentOk _ _ _ _) hs) (evPos rfl (evNeg (by omega) ih))))
 ·refine evSucc ?_
  simp only [laws_FnSegments.l0]
  have fin : Ev (fun k => (spec_Digest.f (⟨#[]⟩ : ByteArray)).bind fun t771 => ((impl_HeadFrom.f k t771 l).bind fun t772 => ((spec_HeadOf.f k l).bind fun t773 => (some (t772.toList == t773.toList))))) true :=
   evBindS (dig_spec _ (by show (⟨#[]⟩ : ByteArray).size ≤ _; decide)) (Ev.bind (ev_impl_HeadFrom _ l hD (by omega)) (Ev.bind (ev_spec_HeadOf l (by omega)) (evEq (Ev.now _) (by simp))))
  refine evNeg (by omega) (evPos trivial (evPos trivial (Ev.bind (ev_sameEntries l (by omega)) (evPos rfl ?_))))
  have more : (p.length : Int) > 0 → Ev (fun k => (if (p.length : Int) > 0 then (if 0 ≤ (wrap64 ((p.length : Int) - 1)) then (if (wrap64 ((p.length : Int) - 1)) < (p.length : Int) then ((spec_HeadOf.f k l).bind fun t775 => (if ((rd_T30 p (wrap64 ((p.length : Int) - 1))).f3).toList = t775.toList then ((spec_Digest.f (⟨#[]⟩ : ByteArray)).bind fun t776 => ((impl_HeadFrom.f k t776 l).bind fun t777 => ((spec_HeadOf.f k l).bind fun t778 => (some (t777.toList == t778.toList))))) else (some false))) else (none)) else (none)) else (some false))) true := by
   intro hp
   have hwp : wrap64 ((p.length : Int) - 1) = ((p.length - 1 : Nat) : Int) := by rw [w64 (by omega) (by omega)]; omega
   rw [hwp, rdG p (p.length - 1) (by omega)]
   refine evPos hp (evPos (by omega) (evPos (by omega) (Ev.bind (ev_spec_HeadOf l (by omega)) (evPos ?_ fin))))
   rw [hlast (p.length - 1) (by omega) (by omega)]
  by_cases h0 : (p.length : Int) = 0
  ·exact evPos h0 (evPos (by omega) fin)
  ·exact evNeg h0 (more (by omega))

end Go.Proofs.YtdhjolglbcoijaaDoor.Pure

namespace Go.Proofs.YtdhjolglbcoijaaDoor.fnSegments
open Go.ChangeShapes Go.WideShapes Go.ChangeAt Go.RowKit Go.Proofs.YtdhjolglbcoijaaDoor.PA Go.Proofs.YtdhjolglbcoijaaDoor.PureFnSegments Go.Proofs.YtdhjolglbcoijaaDoorW.PrintWords
open Go.ChangeMaps (open_string shut_string)
set_option linter.unusedVariables false
set_option linter.unusedSimpArgs false
theorem own : ownKnob Tryd.prog.godebug = none := by kernel_rfl
theorem laidOut : laidOutB Tryd.prog = true := by kernel_rfl
def laidV : List (String × DataW Unit) := [("loop.example/g00397/impl.shaWords", Rows.laid_loop_example_g00397_impl_shaWords)]
theorem gTab : Tryd.prog.globalNamed "loop.example/g00397/impl.shaWords" = some 0 := by kernel_rfl
theorem gTabType : (Tryd.prog.globals[0]?).map (·.type) = some 107 := by kernel_rfl
theorem door_met (os : Os) (args : Array Value) : laidMetH Tryd.prog laidV ((World.doorLaid Tryd.prog 4000 os).forCall (fun _ _ => 0) ⟨#[], args, []⟩).memory :=
 laidMetH_of_parts3 (fuel := 8) (laidMet_of_run' 8 (by kernel_rfl) (by kernel_rfl)) (by kernel_rfl) (by kernel_rfl)
theorem vars_back {H : Type} {enc : TypeId × Value → H} {W W' : World} (hb : Below W.heap.size W W') {gs : List (DataW H)} {ps : List MemPlace} (h : DataW.TrodVars enc Tryd.prog W (fun _ => true) ["loop.example/g00397/impl.shaWords"] gs ps) :
 DataW.TrodVars enc Tryd.prog W' (fun b => decide (b < W.heap.size)) ["loop.example/g00397/impl.shaWords"] gs ps := by
 obtain ⟨g, t, cs, fu, d, p, rfl, hg, ht, hv, htr, rfl⟩ := trodVars_one h
 have hg2 := hg
 have ht2 := ht
 obtain rfl := Option.some.inj (gTab.symm.trans hg)
 obtain rfl := Option.some.inj (gTabType.symm.trans ht)
 have lt := DataW.trod_lt _ _ _ _ htr
 have hk : DataW.Trod enc Tryd.prog W' 0 (fun b => decide (b < W.heap.size)) true 107 (.agg cs) d p := Below.trod laidOut (by kernel_rfl) (of_decide_eq_true (by kernel_rfl)) (show DataW.Trod enc Tryd.prog W 0 (fun _ => true) true 107 (.agg cs) d p from ⟨fu, htr⟩) hb lt
 obtain ⟨m, hm⟩ := hk
 have hv2 : W'.var? Tryd.prog "loop.example/g00397/impl.shaWords" = some cs := by
  unfold World.var? at hv ⊢
  rw [gTab, Option.bind_some] at hv ⊢
  have hlt : 0 < W.heap.size := by
   rcases Nat.lt_or_ge 0 W.heap.size with h' | h'
   ·exact h'
   ·rw [Array.getElem?_eq_none h'] at hv; cases hv
  rw [hb.block 0 hlt]
  exact hv
 exact trodVars_mk1 hg2 ht2 hv2 hm
set_option maxRecDepth 100000 in
theorem lifted (os : Os) (started : os.Started) (H : Type) (enc : TypeId × Value → H) :
 ReturnsInHanded {} Tryd.checked os 14 .any (fun w args => (Rows.fnSegmentsSpec.pre enc Tryd.prog Tryd.f14 [] false w args ∧ laidMetH Tryd.prog laidV w) ∧ sizedMet enc Tryd.prog Tryd.f14 (OpenSpec.ofChange Rows.fnSegmentsSpec) false w args) (Rows.fnSegmentsSpec.post enc Tryd.prog Tryd.f14 false true false false) := by
 refine returnsInHanded_of_change_and (C := Tryd.checked) (X := fun w _ => laidMetH Tryd.prog laidV w) (fun _ _ _ hh h => h.of_heap hh) own started (by kernel_rfl) Tryd.func14
  (ChangeSpec.witness_shaped (enc := enc) (C := Tryd.checked) (os := os) (X := fun w _ => laidMetH Tryd.prog laidV w) false (World.doorLaid Tryd.prog 4000 os) #[.slice none 0 0] 8 rfl (World.shaped_of_RefB (by kernel_rfl) (by kernel_rfl)) (by kernel_rfl) (by kernel_rfl) (by kernel_rfl) (door_met os _)) ?_
 intro W base args ds gs before hval0 hW _ _ hL _
 have hT : PA.Tab W := by
  rw [MakeChecks.laidMetH_plain _ _ _ (by kernel_rfl)] at hL
  exact Lib.tabIs_of_head (rest := []) gTab gTabType (t := 107) (e := 104) (n := 64) (by kernel_rfl) (by kernel_rfl) (by kernel_rfl) (by kernel_rfl) hL
 have hval : ∀ (j : Nat) t v, Tryd.f14.params[j]? = some t → args[j]? = some v → Value.okWide Tryd.prog W .any base t v := hval0
 have hW' := hW
 obtain ⟨p, q, hA0, hV, rfl, hfz, hnd⟩ := hW
 have hA : DataW.TrodAll enc Tryd.prog W 0 (fun _ => true) true Tryd.f14.params.toList args.toList ds p := hA0
 rw [Tryd.params14] at hA hval
 obtain ⟨v0, vs0, d0, ds0, p0, q0, hargs, rfl, rfl, h0, r0⟩ := trodAll_cons hA
 obtain ⟨rfl, rfl, rfl⟩ := trodAll_nil r0
 obtain rfl : args = #[v0] := by cases args; simp_all
 obtain ⟨g1, t1, cs1, fu1, dv, pv1, rfl, _⟩ := trodVars_one hV
 have k0 := h0
 have lt0 : ∀ x ∈ p0, x.block < W.heap.size := by obtain ⟨m, hm⟩ := k0; exact DataW.trod_lt m _ _ _ hm
 obtain ⟨m0, hm0⟩ := h0
 obtain ⟨A0, n0, c0, rfl⟩ := okWide_slice Tryd.underlying61 (hval 0 61 v0 rfl rfl)
 obtain ⟨x0, ⟨A0', c0', hs0, hc0, hr0⟩, hG0⟩ := (Op.opSlice Tryd.underlying61 (by kernel_rfl) 5 (Op.opInt Tryd.underlying5 (by kernel_rfl))).op hm0
 obtain ⟨rfl, rfl, rfl⟩ : A0 = A0' ∧ n0 = x0.length ∧ c0 = c0' := by simpa [Value.cells] using hs0
 obtain ⟨k, h⟩ := Pure.FnSegments x0 hG0
 refine (laws_FnSegments.calls k A0 c0 x0 true W hr0 hc0 hT rfl h).mono fun e W' ⟨he, bel⟩ => ?_
 subst he
 exact ⟨_, rfl, _, _, _, [], _, _, hW', trodAll_mk1 (shut_bool Tryd.underlying4 _), (trodAll_cons_mk (Below.trod laidOut (by kernel_rfl) (of_decide_eq_true (by kernel_rfl)) k0 bel lt0) trodAll_mk0), vars_back bel hV, bel.frame _, fun h => by cases h⟩
theorem over : Rows.fnSegmentsRow.holds Tryd.pinned (OpenSpec.ofChange Rows.fnSegmentsSpec) :=
 OpenClaim.holds_of_wide 14 Tryd.f14 rfl rfl rfl rfl rfl rfl rfl ⟨rfl, rfl, rfl, rfl, rfl⟩ rfl rfl rfl rfl rfl (by kernel_rfl) Tryd.func14 (by kernel_rfl)
  (of_decide_eq_true (by kernel_rfl)) (by unfold Func.isWrapper; first | (rw [if_pos (by decide +kernel)]; kernel_rfl) | (rw [if_neg (by decide +kernel)]; exact ⟨rfl, rfl⟩))
  (fun os started H enc _ => lifted os started H enc)
theorem proved : Rows.FnSegmentsSaid := over
#print axioms proved
end Go.Proofs.YtdhjolglbcoijaaDoor.fnSegments
namespace Go.Proofs.YtdhjolglbcoijaaDoor
theorem fnSegments_holds : Rows.FnSegmentsCardSaid :=
 Claim7.holds_tied_plain_at .later [] [.data] true (true, "86c5b83168afbe62a9fd9dd9b188a8bbcb0f32602a88b45c4d3f3879959306bb") false
  fnSegments.proved (fun _ h => by cases h) (by kernel_rfl) (fun _ h => by cases h) fnSegments_row_tie rfl ⟨rfl, rfl⟩ (by kernel_rfl) rfl
  (fun f fn hf hfn => by
   obtain rfl : f = 14 := Option.some.inj ((show Tryd.prog.funcNamed "loop.example/g00397/laws.FnSegments" = some 14 by kernel_rfl).symm.trans hf) |>.symm
   obtain rfl : fn = Tryd.f14 := (Option.some.inj (Tryd.func14.symm.trans hfn)).symm
   exact ⟨by kernel_rfl, fun j t ht => by
    rw [Tryd.params14] at ht
    have h3 : t = 61 := by
     match j, ht with
     | 0, ht => simp at ht; subst ht; simp
     | _ + 1, ht => simp at ht
    rcases h3 with rfl
    ·exact (show Tryd.prog.wantsStandIn 61 = false by kernel_rfl)⟩)
  (by kernel_rfl)
end Go.Proofs.YtdhjolglbcoijaaDoor

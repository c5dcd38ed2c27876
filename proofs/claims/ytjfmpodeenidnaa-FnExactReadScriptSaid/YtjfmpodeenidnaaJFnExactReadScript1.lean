/- Contracts of functions of the program and of the reference, and plain lemmas on what they compute: a part of the proof of the law FnExactReadScript. No condition. -/
import Derived.Test.YtjfmpodeenidnaaProg
import Derived.Below
import Derived.Deep.Draws
import Derived.Deep.AppendLies
import Derived.Maps.AppendAt
import Derived.OwnWalk
import Derived.Laws.BytesArg
import Derived.Laws.MakeOwn
import Derived.Laws.OwnMore
import Derived.Deep.OwnRows
import Derived.Tactics
import Derived.Lib.ConvBytes
import Derived.Laws.Slices
import Derived.WalkKit
import Derived.KernelRfl
import Derived.RowKit3
import Derived.Deep.LoopGhost
import Derived.Deep.QuietTactic
import Derived.BigQuiet
import Derived.WideLaws
import Derived.Deep.DeepCutAuto
import Derived.Deep.CutBlock
import Derived.Deep.RegionHeld3
import Derived.Laws.Rows
import Derived.Lib.AppendStr
import Derived.ArgAppend
import Derived.Laws.IdiomCopy
import Derived.OrdersHeld
import Derived.Laws.BitsLemmas
import Derived.RowKit
import Derived.Test.YtjfmpodeenidnaaV0
import Derived.Test.YtjfmpodeenidnaaShortV
set_option maxHeartbeats 8000000
set_option maxRecDepth 100000
namespace Go.Proofs.Ytjfmpodeenidnaa.PA
open Go.RowKit Go.Proofs.YtjfmpodeenidnaaW.PrintWords Go.Proofs.YtjfmpodeenidnaaW.PrintLast Go.Proofs.YtjfmpodeenidnaaW.PrintMore
attribute [local go_sem] max2_int min2_int max_two min_two max_three min_three max_four min_four   -- for this text's walks alone
set_option linter.unusedVariables false
set_option linter.unusedSimpArgs false



def errW : Option Int → Value
 | none => .nilIface
 | some c => .iface 0 (.int .i64 c)
theorem errW_none : errW none = .nilIface := rfl
theorem errW_some (c : Int) : errW (some c) = .iface 0 (.int .i64 c) := rfl

theorem info3 : (Try.prog.info? 3).map (fun i => (i.zero, i.size, i.bytes)) = some (some (.int .i64 0), 1, 8) := by kernel_rfl
theorem info5 : (Try.prog.info? 5).map (fun i => (i.zero, i.size, i.bytes)) = some (some (.int .u8 0), 1, 1) := by kernel_rfl
theorem info9 : (Try.prog.info? 9).map (fun i => (i.zero, i.size, i.bytes)) = some (some (.string ⟨#[]⟩), 1, 16) := by kernel_rfl
theorem info69 : (Try.prog.info? 69).map (fun i => (i.zero, i.size, i.bytes)) = some (some (.agg #[(.int .i64 0), (.int .i64 0), (.int .i64 0), (.int .i64 0), (.int .i64 0), (.slice none 0 0), (.string ⟨#[]⟩)]), 7, 80) := by kernel_rfl
theorem info98 : (Try.prog.info? 98).map (fun i => (i.zero, i.size, i.bytes)) = some (some (.agg #[(.int .i64 0), (.int .i64 0)]), 2, 16) := by kernel_rfl
-- the values' own types
structure S98 where
 f0 : Int
 f1 : Int
def z98 : S98 := ⟨(0 : Int), (0 : Int)⟩
def k98 : Kd S98 := Kd.iso (Kd.pair (Kd.int .i64) (Kd.int .i64)) (fun x : S98 => (x.f0, x.f1))
theorem k98_open {w : World} {x : S98} {cs : List Value} (h : k98.K w x cs) : cs = [.int .i64 x.f0, .int .i64 x.f1] := by
 obtain ⟨_, _, rfl, rfl, rfl⟩ := h
 exact rfl
theorem k98_openM {w : World} {base : Nat} {ok : Nat → Prop} {x : S98} {cs : List Value} (h : k98.M w base ok x cs) : cs = [.int .i64 x.f0, .int .i64 x.f1] := by
 obtain ⟨_, _, rfl, rfl, rfl⟩ := h
 exact rfl
theorem k98_mk (w : World) (x : S98)  : k98.K w x [.int .i64 x.f0, .int .i64 x.f1] := ⟨[.int .i64 x.f0], [.int .i64 x.f1], rfl, rfl, rfl⟩
theorem k98_mkM (w : World) (base : Nat) (ok : Nat → Prop) (x : S98)  : k98.M w base ok x [.int .i64 x.f0, .int .i64 x.f1] := ⟨[.int .i64 x.f0], [.int .i64 x.f1], rfl, rfl, rfl⟩
def rd_T98 (xs : List S98) (i : Int) : S98 := xs.getD i.toNat z98
theorem at_T98 {w : World} {A : Option Addr} {n : Nat} {xs : List S98} (h : Kd.C k98 w A n xs) (i : Int) (h0 : 0 ≤ i) (h1 : i < n) : ∃ ad , A = some ad ∧ w.cell? (ad.add (i.toNat * 2)) = some (.int .i64 (rd_T98 xs i).f0) ∧ w.cell? ⟨(ad.add (i.toNat * 2)).block, (ad.add (i.toNat * 2)).off + 1, none⟩ = some (.int .i64 (rd_T98 xs i).f1) := by
 obtain ⟨ad, c, e, _, hK, hc0⟩ := Kd.C_get h z98 i h0 h1
 have hc : ∀ j u, c[j]? = some u → w.cell? (ad.add (i.toNat * 2 + j)) = some u := hc0
 obtain rfl := k98_open hK
 exact ⟨ad, e, hc 0 _ rfl, by rw [← add_field _ _ 1 (by omega)]; exact hc 1 _ rfl⟩

def rd_L3 (xs : List (List S98)) (i : Int) : (List S98) := xs.getD i.toNat ([] : List S98)
theorem at_L3 {w : World} {A : Option Addr} {n : Nat} {xs : List (List S98)} (h : Kd.C (Kd.slice 98 k98) w A n xs) (i : Int) (h0 : 0 ≤ i) (h1 : i < n) : ∃ ad A0 c0, A = some ad ∧ w.cell? (ad.add i.toNat) = some (.slice A0 (rd_L3 xs i).length c0) ∧ (rd_L3 xs i).length ≤ c0 ∧ k98.C w A0 (rd_L3 xs i).length (rd_L3 xs i) := by
 obtain ⟨ad, c, e, _, hK, hc0⟩ := Kd.C_get h ([] : List S98) i h0 h1
 have hc : ∀ j u, c[j]? = some u → w.cell? (ad.add (i.toNat * 1 + j)) = some u := hc0
 obtain ⟨A0, c0, rfl, l0, g0⟩ := hK
 exact ⟨ad, A0, c0, e, by have hq := hc 0 _ rfl; rwa [Nat.mul_one, Nat.add_zero] at hq, l0, g0⟩

structure S47 where
 f0 : Int
 f1 : Int
 f2 : (List S98)
def z47 : S47 := ⟨(0 : Int), (0 : Int), ([] : List S98)⟩
def k47 : Kd S47 := Kd.iso (Kd.pair (Kd.int .i64) (Kd.pair (Kd.int .i64) (Kd.slice 98 k98))) (fun x : S47 => (x.f0, x.f1, x.f2))
theorem k47_open {w : World} {x : S47} {cs : List Value} (h : k47.K w x cs) : ∃ A2 c2, cs = [.int .i64 x.f0, .int .i64 x.f1, .slice A2 x.f2.length c2] ∧ x.f2.length ≤ c2 ∧ k98.C w A2 x.f2.length x.f2 := by
 obtain ⟨_, _, rfl, rfl, ⟨_, _, rfl, rfl, ⟨A2, c2, rfl, l2, g2⟩⟩⟩ := h
 exact ⟨A2, c2, rfl, l2, g2⟩
theorem k47_openM {w : World} {base : Nat} {ok : Nat → Prop} {x : S47} {cs : List Value} (h : k47.M w base ok x cs) : ∃ v2, cs = [.int .i64 x.f0, .int .i64 x.f1, v2] ∧ k98.R 98 w base ok v2 x.f2 := by
 obtain ⟨_, _, rfl, rfl, ⟨_, _, rfl, rfl, ⟨v2, rfl, g2⟩⟩⟩ := h
 exact ⟨v2, rfl, g2⟩
theorem k47_mk (w : World) (x : S47) {A2 : Option Addr} {c2 : Nat} (l2 : x.f2.length ≤ c2) (g2 : k98.C w A2 x.f2.length x.f2) : k47.K w x [.int .i64 x.f0, .int .i64 x.f1, .slice A2 x.f2.length c2] := ⟨[.int .i64 x.f0], [.int .i64 x.f1, .slice A2 x.f2.length c2], rfl, rfl, ⟨[.int .i64 x.f1], [.slice A2 x.f2.length c2], rfl, rfl, ⟨A2, c2, rfl, l2, g2⟩⟩⟩
theorem k47_mkM (w : World) (base : Nat) (ok : Nat → Prop) (x : S47) {v2 : Value} (g2 : k98.R 98 w base ok v2 x.f2) : k47.M w base ok x [.int .i64 x.f0, .int .i64 x.f1, v2] := ⟨[.int .i64 x.f0], [.int .i64 x.f1, v2], rfl, rfl, ⟨[.int .i64 x.f1], [v2], rfl, rfl, ⟨v2, rfl, g2⟩⟩⟩
def rd_T47 (xs : List S47) (i : Int) : S47 := xs.getD i.toNat z47
theorem at_T47 {w : World} {A : Option Addr} {n : Nat} {xs : List S47} (h : Kd.C k47 w A n xs) (i : Int) (h0 : 0 ≤ i) (h1 : i < n) : ∃ ad A2 c2, A = some ad ∧ w.cell? (ad.add (i.toNat * 3)) = some (.int .i64 (rd_T47 xs i).f0) ∧ w.cell? ⟨(ad.add (i.toNat * 3)).block, (ad.add (i.toNat * 3)).off + 1, none⟩ = some (.int .i64 (rd_T47 xs i).f1) ∧ w.cell? ⟨(ad.add (i.toNat * 3)).block, (ad.add (i.toNat * 3)).off + 2, none⟩ = some (.slice A2 (rd_T47 xs i).f2.length c2) ∧ (rd_T47 xs i).f2.length ≤ c2 ∧ k98.C w A2 (rd_T47 xs i).f2.length (rd_T47 xs i).f2 := by
 obtain ⟨ad, c, e, _, hK, hc0⟩ := Kd.C_get h z47 i h0 h1
 have hc : ∀ j u, c[j]? = some u → w.cell? (ad.add (i.toNat * 3 + j)) = some u := hc0
 obtain ⟨A2, c2, rfl, l2, g2⟩ := k47_open hK
 exact ⟨ad, A2, c2, e, hc 0 _ rfl, by rw [← add_field _ _ 1 (by omega)]; exact hc 1 _ rfl, by rw [← add_field _ _ 2 (by omega)]; exact hc 2 _ rfl, l2, g2⟩

structure S69 where
 f0 : Int
 f1 : Int
 f2 : Int
 f3 : S47
 f4 : ByteArray
def z69 : S69 := ⟨(0 : Int), (0 : Int), (0 : Int), z47, (⟨#[]⟩ : ByteArray)⟩
def k69 : Kd S69 := Kd.iso (Kd.pair (Kd.int .i64) (Kd.pair (Kd.int .i64) (Kd.pair (Kd.int .i64) (Kd.pair k47 Kd.string)))) (fun x : S69 => (x.f0, x.f1, x.f2, x.f3, x.f4))
theorem k69_open {w : World} {x : S69} {cs : List Value} (h : k69.K w x cs) : ∃ A5 c5, cs = [.int .i64 x.f0, .int .i64 x.f1, .int .i64 x.f2, .int .i64 x.f3.f0, .int .i64 x.f3.f1, .slice A5 x.f3.f2.length c5, .string x.f4] ∧ x.f3.f2.length ≤ c5 ∧ k98.C w A5 x.f3.f2.length x.f3.f2 := by
 obtain ⟨_, _, rfl, rfl, ⟨_, _, rfl, rfl, ⟨_, _, rfl, rfl, ⟨_, _, rfl, s3, rfl⟩⟩⟩⟩ := h
 obtain ⟨A5, c5, rfl, l5, g5⟩ := k47_open s3
 exact ⟨A5, c5, rfl, l5, g5⟩
theorem k69_openM {w : World} {base : Nat} {ok : Nat → Prop} {x : S69} {cs : List Value} (h : k69.M w base ok x cs) : ∃ v5, cs = [.int .i64 x.f0, .int .i64 x.f1, .int .i64 x.f2, .int .i64 x.f3.f0, .int .i64 x.f3.f1, v5, .string x.f4] ∧ k98.R 98 w base ok v5 x.f3.f2 := by
 obtain ⟨_, _, rfl, rfl, ⟨_, _, rfl, rfl, ⟨_, _, rfl, rfl, ⟨_, _, rfl, s3, rfl⟩⟩⟩⟩ := h
 obtain ⟨v5, rfl, g5⟩ := k47_openM s3
 exact ⟨v5, rfl, g5⟩
theorem k69_mk (w : World) (x : S69) {A5 : Option Addr} {c5 : Nat} (l5 : x.f3.f2.length ≤ c5) (g5 : k98.C w A5 x.f3.f2.length x.f3.f2) : k69.K w x [.int .i64 x.f0, .int .i64 x.f1, .int .i64 x.f2, .int .i64 x.f3.f0, .int .i64 x.f3.f1, .slice A5 x.f3.f2.length c5, .string x.f4] := ⟨[.int .i64 x.f0], [.int .i64 x.f1, .int .i64 x.f2, .int .i64 x.f3.f0, .int .i64 x.f3.f1, .slice A5 x.f3.f2.length c5, .string x.f4], rfl, rfl, ⟨[.int .i64 x.f1], [.int .i64 x.f2, .int .i64 x.f3.f0, .int .i64 x.f3.f1, .slice A5 x.f3.f2.length c5, .string x.f4], rfl, rfl, ⟨[.int .i64 x.f2], [.int .i64 x.f3.f0, .int .i64 x.f3.f1, .slice A5 x.f3.f2.length c5, .string x.f4], rfl, rfl, ⟨[.int .i64 x.f3.f0, .int .i64 x.f3.f1, .slice A5 x.f3.f2.length c5], [.string x.f4], rfl, (k47_mk w x.f3 l5 g5), rfl⟩⟩⟩⟩
theorem k69_mkM (w : World) (base : Nat) (ok : Nat → Prop) (x : S69) {v5 : Value} (g5 : k98.R 98 w base ok v5 x.f3.f2) : k69.M w base ok x [.int .i64 x.f0, .int .i64 x.f1, .int .i64 x.f2, .int .i64 x.f3.f0, .int .i64 x.f3.f1, v5, .string x.f4] := ⟨[.int .i64 x.f0], [.int .i64 x.f1, .int .i64 x.f2, .int .i64 x.f3.f0, .int .i64 x.f3.f1, v5, .string x.f4], rfl, rfl, ⟨[.int .i64 x.f1], [.int .i64 x.f2, .int .i64 x.f3.f0, .int .i64 x.f3.f1, v5, .string x.f4], rfl, rfl, ⟨[.int .i64 x.f2], [.int .i64 x.f3.f0, .int .i64 x.f3.f1, v5, .string x.f4], rfl, rfl, ⟨[.int .i64 x.f3.f0, .int .i64 x.f3.f1, v5], [.string x.f4], rfl, (k47_mkM w base ok x.f3 g5), rfl⟩⟩⟩⟩
def rd_T69 (xs : List S69) (i : Int) : S69 := xs.getD i.toNat z69
theorem at_T69 {w : World} {A : Option Addr} {n : Nat} {xs : List S69} (h : Kd.C k69 w A n xs) (i : Int) (h0 : 0 ≤ i) (h1 : i < n) : ∃ ad A5 c5, A = some ad ∧ w.cell? (ad.add (i.toNat * 7)) = some (.int .i64 (rd_T69 xs i).f0) ∧ w.cell? ⟨(ad.add (i.toNat * 7)).block, (ad.add (i.toNat * 7)).off + 1, none⟩ = some (.int .i64 (rd_T69 xs i).f1) ∧ w.cell? ⟨(ad.add (i.toNat * 7)).block, (ad.add (i.toNat * 7)).off + 2, none⟩ = some (.int .i64 (rd_T69 xs i).f2) ∧ w.cell? ⟨(ad.add (i.toNat * 7)).block, (ad.add (i.toNat * 7)).off + 3, none⟩ = some (.int .i64 (rd_T69 xs i).f3.f0) ∧ w.cell? ⟨(ad.add (i.toNat * 7)).block, (ad.add (i.toNat * 7)).off + 4, none⟩ = some (.int .i64 (rd_T69 xs i).f3.f1) ∧ w.cell? ⟨(ad.add (i.toNat * 7)).block, (ad.add (i.toNat * 7)).off + 5, none⟩ = some (.slice A5 (rd_T69 xs i).f3.f2.length c5) ∧ w.cell? ⟨(ad.add (i.toNat * 7)).block, (ad.add (i.toNat * 7)).off + 6, none⟩ = some (.string (rd_T69 xs i).f4) ∧ (rd_T69 xs i).f3.f2.length ≤ c5 ∧ k98.C w A5 (rd_T69 xs i).f3.f2.length (rd_T69 xs i).f3.f2 := by
 obtain ⟨ad, c, e, _, hK, hc0⟩ := Kd.C_get h z69 i h0 h1
 have hc : ∀ j u, c[j]? = some u → w.cell? (ad.add (i.toNat * 7 + j)) = some u := hc0
 obtain ⟨A5, c5, rfl, l5, g5⟩ := k69_open hK
 exact ⟨ad, A5, c5, e, hc 0 _ rfl, by rw [← add_field _ _ 1 (by omega)]; exact hc 1 _ rfl, by rw [← add_field _ _ 2 (by omega)]; exact hc 2 _ rfl, by rw [← add_field _ _ 3 (by omega)]; exact hc 3 _ rfl, by rw [← add_field _ _ 4 (by omega)]; exact hc 4 _ rfl, by rw [← add_field _ _ 5 (by omega)]; exact hc 5 _ rfl, by rw [← add_field _ _ 6 (by omega)]; exact hc 6 _ rfl, l5, g5⟩

end Go.Proofs.Ytjfmpodeenidnaa.PA

namespace Go.Proofs.Ytjfmpodeenidnaa.PA
open Go.RowKit Go.Proofs.Ytjfmpodeenidnaa.Short Go.Proofs.YtjfmpodeenidnaaW.PrintWords Go.Proofs.YtjfmpodeenidnaaW.PrintLast Go.Proofs.YtjfmpodeenidnaaW.PrintMore
attribute [local go_sem] max2_int min2_int max_two min_two max_three min_three max_four min_four   -- for this text's walks alone
set_option linter.unusedVariables false
set_option linter.unusedSimpArgs false

def laws_markText.l0 : Nat → Int → ByteArray → Option (ByteArray)
 | 0, _, _ => none
 | k + 1, x0, x3 => if x0 > 0 then ((some (([(wrap64 (48 + (Int.tmod x0 10))) % 256] : List Int) : List Int)).bind fun y101 => (if (strOfNums y101).size + x3.size ≤ 9223372036854775807 then (laws_markText.l0 k (wrap64 (Int.tdiv x0 10)) ((strOfNums y101) ++ x3)) else (none))) else (if 1 + x3.size ≤ 9223372036854775807 then (some ((⟨#[109]⟩ : ByteArray) ++ x3)) else (none))
def laws_markText.f (k : Nat) (a0 : Int) : Option (ByteArray) := if a0 ≤ 0 then (some (⟨#[109, 48]⟩ : ByteArray)) else (laws_markText.l0 k a0 (⟨#[]⟩ : ByteArray))
theorem laws_markText.mono_l : ∀ k, (∀ y0 y1, LeO (laws_markText.l0 k y0 y1) (laws_markText.l0 (k + 1) y0 y1))
 | 0 => fun _ _ r h => by simp [laws_markText.l0] at h
 | k + 1 => by
  have ih0 := laws_markText.mono_l k
  ·intro y0 y1
   unfold laws_markText.l0
   exact mo_
theorem laws_markText.mono : ∀ a0 k, LeO (laws_markText.f k a0) (laws_markText.f (k + 1) a0) := by
 intro a0 k
 have ih0 := laws_markText.mono_l k
 unfold laws_markText.f
 exact mo_
theorem laws_markText.calls (k : Nat) (a0 : Int) (r : ByteArray) (w : World) (h : laws_markText.f k a0 = some r) :
 Calls Try.prog 50 #[.int .i64 a0] w fun e w' => e = .returned (.string r) ∧ Below w.heap.size w w' := by
 have HB := Aside0.mk (Below.refl w.heap.size w)
 have H := h
 unfold laws_markText.f at H
 clear h
 by_cases c2 : a0 ≤ 0
 ·rw [if_pos c2] at H
  have c2b0 := decide_eq_true c2
  clear c2
  obtain rfl := Option.some.inj H
  go_enter Try.func50, Try.ntmps50
  go_wp2
  go_ret
  exact ⟨er_, bl_⟩
 rw [if_neg c2] at H
 have c2b0 := decide_eq_false c2
 clear c2
 have H' := Aside0.mk H
 clear H
 go_enter Try.func50, Try.ntmps50
 go_wp2
 go_loopg [0, 3] k (fun kq v0 v3 w' => ∃ (x0_1 : Int) (x3_1 : ByteArray), v0 = .int .i64 x0_1 ∧ v3 = .string x3_1 ∧ Aside0 (laws_markText.l0 kq x0_1 x3_1 = some r) ∧ Aside0 (kq ≤ k) ∧ Aside0 (Below w.heap.size w w'))
 case atStart => exact ⟨(a0), ((⟨#[]⟩ : ByteArray)), (sr_), (sr_), H', ⟨Nat.le_refl _⟩, ⟨bl_⟩⟩
 clear H'
 try clear c2
 try clear c2b0
 obtain ⟨x0_1, x3_1, rfl, rfl, HA, HK1, HB⟩ := hrel
 cases gk with
 | zero => exact absurd HA.out (by simp [laws_markText.l0])
 | succ k1 => ?_
 have H := HA.out
 clear HA
 simp only [laws_markText.l0] at H
 by_cases c3 : x0_1 > 0
 rotate_left
 ·rw [if_neg c3] at H
  have c3b0 := decide_eq_false c3
  clear c3
  by_cases c8 : 1 + x3_1.size ≤ 9223372036854775807
  rotate_left
  ·exact nn_ c8 H
  rw [if_pos c8] at H
  have c8b0 := eq_true c8
  have c8b1 : decide (1 + x3_1.size ≤ 9223372036854775807) = true := decide_eq_true c8
  try have c8b2 : (9223372036854775807 < 1 + x3_1.size) = False := eq_false (Nat.not_lt.2 c8)
  obtain rfl := Option.some.inj H
  go_wp2
  go_ret
  exact ⟨er_, bl_⟩
 rw [if_pos c3] at H
 have c3b0 := decide_eq_true c3
 clear c3
 obtain ⟨y101, hy101⟩ : ∃ y_ : List Int, y_ = (([(wrap64 (48 + (Int.tmod x0_1 10))) % 256] : List Int)) := ⟨_, rfl⟩
 replace H : (if (strOfNums y101).size + x3_1.size ≤ 9223372036854775807 then (laws_markText.l0 k1 (wrap64 (Int.tdiv x0_1 10)) ((strOfNums y101) ++ x3_1)) else (none)) = some r := rp_ H hy101
 have Ny101 := Aside0.mk hy101
 clear hy101
 by_cases c4 : (strOfNums y101).size + x3_1.size ≤ 9223372036854775807
 rotate_left
 ·exact nn_ c4 H
 rw [if_pos c4] at H
 have c4b0 := eq_true c4
 have c4b1 : decide ((strOfNums y101).size + x3_1.size ≤ 9223372036854775807) = true := decide_eq_true c4
 try have c4b2 : (9223372036854775807 < (strOfNums y101).size + x3_1.size) = False := eq_false (Nat.not_lt.2 c4)
 have H' := Aside0.mk H
 clear H
 go_wp2_with (first | ((with_reducible refine gate_dst (N := 12) rfl ?_); refine Kd.R_lit (Kd.int .u8) _ 5 ?hg (N := 12) ?hd (xs := ([(wrap64 (48 + (Int.tmod x0_1 10))) % 256] : List Int)) (inner := [.int .u8 ((wrap64 (48 + (Int.tmod x0_1 10))) % 256)]) (ok := fun _ => True) (okp := fun _ => True) ?hr ?hp (fun _ hk => hk) trivial (Below.refl _ _) (Nat.le_refl _) (by simp) ?_; (case hd => rfl); (case hg => rfl); (case hr => first | (go_simp; done) | (go_simp; rfl)); (case hp => exact (Reps.one (show Kd.M (Kd.int .u8) _ _ _ ((wrap64 (48 + (Int.tmod x0_1 10))) % 256) [.int .u8 ((wrap64 (48 + (Int.tmod x0_1 10))) % 256)] from rfl) (Reps.none _ _))); intro v102 w5 ho6 hb hg_ hnew_; clear hg_ hnew_; (first | rw [← Ny101.out] at ho6 | (simp only [Int.reduceToNat] at ho6; rw [← Ny101.out] at ho6)); have HO103 := Aside0.mk (Kd.R_lower ho6 (below_size bl_)); replace HB := Aside0.mk (below_step bl_ hb); clear hb ho6; have hcv7 := own_string (P := Try.prog) Try.underlying43 Try.underlying5 Try.underlying9 (Kd.own_of_R HO103.out)))
 go_roundg k1
 case measure => have := HK1.out; omega
 case rel => exact ⟨(wrap64 (Int.tdiv x0_1 10)), ((strOfNums y101) ++ x3_1), (sr_), (sr_), H', ⟨by have := HK1.out; omega⟩, ⟨bl_⟩⟩


def laws_heldWideS.l0 : Nat → List (S98) → Int → Int → Option (Int)
 | 0, _, _, _ => none
 | k + 1, x0, x1, x5 => if x5 < (x0.length : Int) then (if 0 ≤ x5 then (if ((rd_T98 x0 x5).f0) = x1 then (if ((rd_T98 x0 x5).f1) = (wrap64 (x1 + 1)) then (laws_heldWideS.l0 k x0 (wrap64 ((wrap64 (x1 + 1)) + 1)) (wrap64 (x5 + 1))) else (some (-1))) else (some (-1))) else (none)) else (some x1)
def laws_heldWideS.f (k : Nat) (l0 : List (S98)) (a1 : Int) : Option (Int) := laws_heldWideS.l0 k l0 a1 0
theorem laws_heldWideS.mono_l : ∀ k, (∀ y0 y1 y2, LeO (laws_heldWideS.l0 k y0 y1 y2) (laws_heldWideS.l0 (k + 1) y0 y1 y2))
 | 0 => fun _ _ _ r h => by simp [laws_heldWideS.l0] at h
 | k + 1 => by
  have ih0 := laws_heldWideS.mono_l k
  ·intro y0 y1 y2
   unfold laws_heldWideS.l0
   exact mo_
theorem laws_heldWideS.mono : ∀ a0 a1 k, LeO (laws_heldWideS.f k a0 a1) (laws_heldWideS.f (k + 1) a0 a1) := by
 intro a0 a1 k
 have ih0 := laws_heldWideS.mono_l k
 unfold laws_heldWideS.f
 exact mo_
theorem laws_heldWideS.calls (k : Nat) (A0 : Option Addr) (c0 : Nat) (l0 : List (S98)) (a1 : Int) (r : Int) (w : World) (hr0 : Kd.C k98 w A0 l0.length l0) (hc0 : l0.length ≤ c0) (h : laws_heldWideS.f k l0 a1 = some r) :
 Calls Try.prog 51 #[.slice A0 l0.length c0, .int .i64 a1] w fun e w' => e = .returned (.int .i64 r) ∧ Drawn0 w w' := by
 have HR0 := Aside0.mk hr0
 have HC0 := Aside0.mk hc0
 clear hr0 hc0
 have H := h
 unfold laws_heldWideS.f at H
 clear h
 have H' := Aside0.mk H
 clear H
 go_enter Try.func51, Try.ntmps51
 go_wp2
 go_loopg [1, 5] k (fun kq v1 v5 w' => ∃ (x1_1 : Int) (x5_1 : Int), v1 = .int .i64 x1_1 ∧ v5 = .int .i64 x5_1 ∧ Aside0 (laws_heldWideS.l0 kq l0 x1_1 x5_1 = some r) ∧ Aside0 (kq ≤ k) ∧ Drawn0 w w')
 case atStart => exact ⟨(a1), (0), (sr_), (sr_), H', ⟨Nat.le_refl _⟩, by repeat (first | exact Drawn0.refl _ | apply Drawn0.step)⟩
 clear H'
 obtain ⟨x1_1, x5_1, rfl, rfl, HA, HK1, ⟨m1, rfl⟩⟩ := hrel
 cases gk with
 | zero => exact absurd HA.out (by simp [laws_heldWideS.l0])
 | succ k1 => ?_
 have H := HA.out
 clear HA
 simp only [laws_heldWideS.l0] at H
 by_cases c3 : x5_1 < (l0.length : Int)
 rotate_left
 ·rw [if_neg c3] at H
  have c3b0 := decide_eq_false c3
  clear c3
  obtain rfl := Option.some.inj H
  go_wp2
  go_ret
  exact ⟨sr_, by repeat (first | exact Drawn0.refl _ | apply Drawn0.step)⟩
 rw [if_pos c3] at H
 have c3b0 := decide_eq_true c3
 clear c3
 by_cases c4 : 0 ≤ x5_1
 rotate_left
 ·exact nn_ c4 H
 rw [if_pos c4] at H
 have c4b0 := decide_eq_true c4
 clear c4
 by_cases c5 : ((rd_T98 l0 x5_1).f0) = x1_1
 rotate_left
 ·rw [if_neg c5] at H
  have c5b0 : (((rd_T98 l0 x5_1).f0) == x1_1) = false := beq_eq_false_iff_ne.mpr c5
  have c5b1 : (((rd_T98 l0 x5_1).f0) != x1_1) = true := bne_iff_ne.mpr c5
  obtain rfl := Option.some.inj H
  have p104 : 0 ≤ (x5_1 : Int) := of_decide_eq_true as_
  have q104 : x5_1 < (l0.length : Int) := of_decide_eq_true as_
  obtain ⟨ad104, e104, hx104_0, hx104_1⟩ := at_T98 HR0.out x5_1 p104 q104
  cases e104
  replace p104 := eq_true p104
  replace q104 := eq_true q104
  go_wp2
  go_ret
  exact ⟨sr_, by repeat (first | exact Drawn0.refl _ | apply Drawn0.step)⟩
 rw [if_pos c5] at H
 have c5b0 : (((rd_T98 l0 x5_1).f0) == x1_1) = true := beq_iff_eq.mpr c5
 have c5b1 : (((rd_T98 l0 x5_1).f0) != x1_1) = false := bne_eq_false_iff_eq.mpr c5
 clear c5
 by_cases c6 : ((rd_T98 l0 x5_1).f1) = (wrap64 (x1_1 + 1))
 rotate_left
 ·rw [if_neg c6] at H
  have c6b0 : (((rd_T98 l0 x5_1).f1) == (wrap64 (x1_1 + 1))) = false := beq_eq_false_iff_ne.mpr c6
  have c6b1 : (((rd_T98 l0 x5_1).f1) != (wrap64 (x1_1 + 1))) = true := bne_iff_ne.mpr c6
  obtain rfl := Option.some.inj H
  have p104 : 0 ≤ (x5_1 : Int) := of_decide_eq_true as_
  have q104 : x5_1 < (l0.length : Int) := of_decide_eq_true as_
  obtain ⟨ad104, e104, hx104_0, hx104_1⟩ := at_T98 HR0.out x5_1 p104 q104
  cases e104
  replace p104 := eq_true p104
  replace q104 := eq_true q104
  have p105 : 0 ≤ (x5_1 : Int) := of_decide_eq_true as_
  have q105 : x5_1 < (l0.length : Int) := of_decide_eq_true as_
  obtain ⟨ad105, e105, hx105_0, hx105_1⟩ := at_T98 HR0.out x5_1 p105 q105
  obtain rfl : ad104 = ad105 := (by injection e105)
  replace p105 := eq_true p105
  replace q105 := eq_true q105
  go_wp2
  go_ret
  exact ⟨sr_, by repeat (first | exact Drawn0.refl _ | apply Drawn0.step)⟩
 rw [if_pos c6] at H
 have c6b0 : (((rd_T98 l0 x5_1).f1) == (wrap64 (x1_1 + 1))) = true := beq_iff_eq.mpr c6
 have c6b1 : (((rd_T98 l0 x5_1).f1) != (wrap64 (x1_1 + 1))) = false := bne_eq_false_iff_eq.mpr c6
 clear c6
 have H' := Aside0.mk H
 clear H
 have p104 : 0 ≤ (x5_1 : Int) := of_decide_eq_true as_
 have q104 : x5_1 < (l0.length : Int) := of_decide_eq_true as_
 obtain ⟨ad104, e104, hx104_0, hx104_1⟩ := at_T98 HR0.out x5_1 p104 q104
 cases e104
 replace p104 := eq_true p104
 replace q104 := eq_true q104
 have p105 : 0 ≤ (x5_1 : Int) := of_decide_eq_true as_
 have q105 : x5_1 < (l0.length : Int) := of_decide_eq_true as_
 obtain ⟨ad105, e105, hx105_0, hx105_1⟩ := at_T98 HR0.out x5_1 p105 q105
 obtain rfl : ad104 = ad105 := (by injection e105)
 replace p105 := eq_true p105
 replace q105 := eq_true q105
 go_wp2
 go_roundg k1
 case measure => have := HK1.out; omega
 case rel => exact ⟨(wrap64 ((wrap64 (x1_1 + 1)) + 1)), (wrap64 (x5_1 + 1)), (sr_), (sr_), H', ⟨by have := HK1.out; omega⟩, by repeat (first | exact Drawn0.refl _ | apply Drawn0.step)⟩


def laws_heldEventS.l0 : Nat → List (S69) → Int → Int → Option (Int)
 | 0, _, _, _ => none
 | k + 1, x0, x1, x5 => if x5 < (x0.length : Int) then (if 0 ≤ x5 then (if ((rd_T69 x0 x5).f0) = x1 then (if ((rd_T69 x0 x5).f1) = (wrap64 (x1 + 1)) then (if ((rd_T69 x0 x5).f2) = (wrap64 ((wrap64 (x1 + 1)) + 1)) then (if ((rd_T69 x0 x5).f3.f0) = (wrap64 ((wrap64 ((wrap64 (x1 + 1)) + 1)) + 1)) then (if ((rd_T69 x0 x5).f3.f1) = (wrap64 ((wrap64 ((wrap64 ((wrap64 (x1 + 1)) + 1)) + 1)) + 1)) then ((laws_heldWideS.f k ((rd_T69 x0 x5).f3.f2) (wrap64 ((wrap64 ((wrap64 ((wrap64 ((wrap64 (x1 + 1)) + 1)) + 1)) + 1)) + 1))).bind fun t112 => (if t112 < 0 then (some (-1)) else ((laws_markText.f k t112).bind fun t114 => (if ((rd_T69 x0 x5).f4).toList = t114.toList then (laws_heldEventS.l0 k x0 (wrap64 (t112 + 1)) (wrap64 (x5 + 1))) else (some (-1)))))) else (some (-1))) else (some (-1))) else (some (-1))) else (some (-1))) else (some (-1))) else (none)) else (some x1)
def laws_heldEventS.f (k : Nat) (l0 : List (S69)) (a1 : Int) : Option (Int) := laws_heldEventS.l0 k l0 a1 0
theorem laws_heldEventS.mono_l : ∀ k, (∀ y0 y1 y2, LeO (laws_heldEventS.l0 k y0 y1 y2) (laws_heldEventS.l0 (k + 1) y0 y1 y2))
 | 0 => fun _ _ _ r h => by simp [laws_heldEventS.l0] at h
 | k + 1 => by
  have ih0 := laws_heldEventS.mono_l k
  ·intro y0 y1 y2
   unfold laws_heldEventS.l0
   have m0 := @laws_heldWideS.mono
   have m1 := @laws_markText.mono
   exact mo_
theorem laws_heldEventS.mono : ∀ a0 a1 k, LeO (laws_heldEventS.f k a0 a1) (laws_heldEventS.f (k + 1) a0 a1) := by
 intro a0 a1 k
 have ih0 := laws_heldEventS.mono_l k
 unfold laws_heldEventS.f
 have m0 := @laws_heldWideS.mono
 have m1 := @laws_markText.mono
 exact mo_
def laws_heldEventS.T22 : Bool × List (List Nat × List Nat) := (true, [([], []), ([], []), ([0, 1], [0, 1]), ([2], [2]), ([3], [3]), ([], []), ([5], [5]), ([4, 6], [4, 6])])
def laws_heldEventS.B22 : List Nat := [0, 0, 3, 7, 15, 0, 32, 127]
theorem laws_heldEventS.tab22 : rtab .any (opsOf Try.f11 22) = laws_heldEventS.T22 := by kernel_rfl
theorem laws_heldEventS.bits22 : waitsOk laws_heldEventS.T22.2 laws_heldEventS.B22 = true := by kernel_rfl
theorem laws_heldEventS.calls (k : Nat) (A0 : Option Addr) (c0 : Nat) (l0 : List (S69)) (a1 : Int) (r : Int) (w : World) (hr0 : Kd.C k69 w A0 l0.length l0) (hc0 : l0.length ≤ c0) (h : laws_heldEventS.f k l0 a1 = some r) :
 Calls Try.prog 11 #[.slice A0 l0.length c0, .int .i64 a1] w fun e w' => e = .returned (.int .i64 r) ∧ Below w.heap.size w w' := by
 have HR0 := Aside0.mk hr0
 have HC0 := Aside0.mk hc0
 clear hr0 hc0
 have HB := Aside0.mk (Below.refl w.heap.size w)
 have H := h
 unfold laws_heldEventS.f at H
 clear h
 have H' := Aside0.mk H
 clear H
 go_enter Try.func11, Try.ntmps11
 go_wp2
 go_loopg [1, 5] k (fun kq v1 v5 w' => ∃ (x1_1 : Int) (x5_1 : Int), v1 = .int .i64 x1_1 ∧ v5 = .int .i64 x5_1 ∧ Aside0 (laws_heldEventS.l0 kq l0 x1_1 x5_1 = some r) ∧ Aside0 (kq ≤ k) ∧ Aside0 (Below w.heap.size w w'))
 case atStart => exact ⟨(a1), (0), (sr_), (sr_), H', ⟨Nat.le_refl _⟩, ⟨bl_⟩⟩
 clear H'
 obtain ⟨x1_1, x5_1, rfl, rfl, HA, HK1, HB⟩ := hrel
 cases gk with
 | zero => exact absurd HA.out (by simp [laws_heldEventS.l0])
 | succ k1 => ?_
 have H := HA.out
 clear HA
 simp only [laws_heldEventS.l0] at H
 by_cases c3 : x5_1 < (l0.length : Int)
 rotate_left
 ·rw [if_neg c3] at H
  have c3b0 := decide_eq_false c3
  clear c3
  obtain rfl := Option.some.inj H
  go_wp2
  go_ret
  exact ⟨er_, bl_⟩
 rw [if_pos c3] at H
 have c3b0 := decide_eq_true c3
 clear c3
 by_cases c4 : 0 ≤ x5_1
 rotate_left
 ·exact nn_ c4 H
 rw [if_pos c4] at H
 have c4b0 := decide_eq_true c4
 clear c4
 by_cases c5 : ((rd_T69 l0 x5_1).f0) = x1_1
 rotate_left
 ·rw [if_neg c5] at H
  have c5b0 : (((rd_T69 l0 x5_1).f0) == x1_1) = false := beq_eq_false_iff_ne.mpr c5
  have c5b1 : (((rd_T69 l0 x5_1).f0) != x1_1) = true := bne_iff_ne.mpr c5
  obtain rfl := Option.some.inj H
  have p106 : 0 ≤ (x5_1 : Int) := of_decide_eq_true as_
  have q106 : x5_1 < (l0.length : Int) := of_decide_eq_true as_
  obtain ⟨ad106, A106_5, c106_5, e106, hx106_0, hx106_1, hx106_2, hx106_3, hx106_4, hx106_5, hx106_6, hl106_5, hi106_5⟩ := at_T69 HR0.out x5_1 p106 q106
  cases e106
  replace hx106_0 := (HB.out.cell (World.block_lt_of_cell? w _ hx106_0)).trans hx106_0
  replace hx106_1 := (HB.out.cell (World.block_lt_of_cell? w _ hx106_1)).trans hx106_1
  replace hx106_2 := (HB.out.cell (World.block_lt_of_cell? w _ hx106_2)).trans hx106_2
  replace hx106_3 := (HB.out.cell (World.block_lt_of_cell? w _ hx106_3)).trans hx106_3
  replace hx106_4 := (HB.out.cell (World.block_lt_of_cell? w _ hx106_4)).trans hx106_4
  replace hx106_5 := (HB.out.cell (World.block_lt_of_cell? w _ hx106_5)).trans hx106_5
  replace hx106_6 := (HB.out.cell (World.block_lt_of_cell? w _ hx106_6)).trans hx106_6
  have HR106_5 := Aside0.mk hi106_5
  have HC106_5 := Aside0.mk hl106_5
  clear hi106_5 hl106_5
  replace p106 := eq_true p106
  replace q106 := eq_true q106
  go_wp2
  go_ret
  exact ⟨er_, bl_⟩
 rw [if_pos c5] at H
 have c5b0 : (((rd_T69 l0 x5_1).f0) == x1_1) = true := beq_iff_eq.mpr c5
 have c5b1 : (((rd_T69 l0 x5_1).f0) != x1_1) = false := bne_eq_false_iff_eq.mpr c5
 clear c5
 by_cases c6 : ((rd_T69 l0 x5_1).f1) = (wrap64 (x1_1 + 1))
 rotate_left
 ·rw [if_neg c6] at H
  have c6b0 : (((rd_T69 l0 x5_1).f1) == (wrap64 (x1_1 + 1))) = false := beq_eq_false_iff_ne.mpr c6
  have c6b1 : (((rd_T69 l0 x5_1).f1) != (wrap64 (x1_1 + 1))) = true := bne_iff_ne.mpr c6
  obtain rfl := Option.some.inj H
  have p106 : 0 ≤ (x5_1 : Int) := of_decide_eq_true as_
  have q106 : x5_1 < (l0.length : Int) := of_decide_eq_true as_
  obtain ⟨ad106, A106_5, c106_5, e106, hx106_0, hx106_1, hx106_2, hx106_3, hx106_4, hx106_5, hx106_6, hl106_5, hi106_5⟩ := at_T69 HR0.out x5_1 p106 q106
  cases e106
  replace hx106_0 := (HB.out.cell (World.block_lt_of_cell? w _ hx106_0)).trans hx106_0
  replace hx106_1 := (HB.out.cell (World.block_lt_of_cell? w _ hx106_1)).trans hx106_1
  replace hx106_2 := (HB.out.cell (World.block_lt_of_cell? w _ hx106_2)).trans hx106_2
  replace hx106_3 := (HB.out.cell (World.block_lt_of_cell? w _ hx106_3)).trans hx106_3
  replace hx106_4 := (HB.out.cell (World.block_lt_of_cell? w _ hx106_4)).trans hx106_4
  replace hx106_5 := (HB.out.cell (World.block_lt_of_cell? w _ hx106_5)).trans hx106_5
  replace hx106_6 := (HB.out.cell (World.block_lt_of_cell? w _ hx106_6)).trans hx106_6
  have HR106_5 := Aside0.mk hi106_5
  have HC106_5 := Aside0.mk hl106_5
  clear hi106_5 hl106_5
  replace p106 := eq_true p106
  replace q106 := eq_true q106
  have p107 : 0 ≤ (x5_1 : Int) := of_decide_eq_true as_
  have q107 : x5_1 < (l0.length : Int) := of_decide_eq_true as_
  obtain ⟨ad107, A107_5, c107_5, e107, hx107_0, hx107_1, hx107_2, hx107_3, hx107_4, hx107_5, hx107_6, hl107_5, hi107_5⟩ := at_T69 HR0.out x5_1 p107 q107
  obtain rfl : ad106 = ad107 := (by injection e107)
  replace hx107_0 := (HB.out.cell (World.block_lt_of_cell? w _ hx107_0)).trans hx107_0
  replace hx107_1 := (HB.out.cell (World.block_lt_of_cell? w _ hx107_1)).trans hx107_1
  replace hx107_2 := (HB.out.cell (World.block_lt_of_cell? w _ hx107_2)).trans hx107_2
  replace hx107_3 := (HB.out.cell (World.block_lt_of_cell? w _ hx107_3)).trans hx107_3
  replace hx107_4 := (HB.out.cell (World.block_lt_of_cell? w _ hx107_4)).trans hx107_4
  replace hx107_5 := (HB.out.cell (World.block_lt_of_cell? w _ hx107_5)).trans hx107_5
  replace hx107_6 := (HB.out.cell (World.block_lt_of_cell? w _ hx107_6)).trans hx107_6
  have HR107_5 := Aside0.mk hi107_5
  have HC107_5 := Aside0.mk hl107_5
  clear hi107_5 hl107_5
  replace p107 := eq_true p107
  replace q107 := eq_true q107
  have ea_ := Option.some.inj (hx106_5.symm.trans hx107_5)
  injection ea_ with ea_ en_ ec_
  subst ea_
  subst ec_
  clear en_
  go_wp2
  go_ret
  exact ⟨er_, bl_⟩
 rw [if_pos c6] at H
 have c6b0 : (((rd_T69 l0 x5_1).f1) == (wrap64 (x1_1 + 1))) = true := beq_iff_eq.mpr c6
 have c6b1 : (((rd_T69 l0 x5_1).f1) != (wrap64 (x1_1 + 1))) = false := bne_eq_false_iff_eq.mpr c6
 clear c6
 by_cases c7 : ((rd_T69 l0 x5_1).f2) = (wrap64 ((wrap64 (x1_1 + 1)) + 1))
 rotate_left
 ·rw [if_neg c7] at H
  have c7b0 : (((rd_T69 l0 x5_1).f2) == (wrap64 ((wrap64 (x1_1 + 1)) + 1))) = false := beq_eq_false_iff_ne.mpr c7
  have c7b1 : (((rd_T69 l0 x5_1).f2) != (wrap64 ((wrap64 (x1_1 + 1)) + 1))) = true := bne_iff_ne.mpr c7
  obtain rfl := Option.some.inj H
  have p106 : 0 ≤ (x5_1 : Int) := of_decide_eq_true as_
  have q106 : x5_1 < (l0.length : Int) := of_decide_eq_true as_
  obtain ⟨ad106, A106_5, c106_5, e106, hx106_0, hx106_1, hx106_2, hx106_3, hx106_4, hx106_5, hx106_6, hl106_5, hi106_5⟩ := at_T69 HR0.out x5_1 p106 q106
  cases e106
  replace hx106_0 := (HB.out.cell (World.block_lt_of_cell? w _ hx106_0)).trans hx106_0
  replace hx106_1 := (HB.out.cell (World.block_lt_of_cell? w _ hx106_1)).trans hx106_1
  replace hx106_2 := (HB.out.cell (World.block_lt_of_cell? w _ hx106_2)).trans hx106_2
  replace hx106_3 := (HB.out.cell (World.block_lt_of_cell? w _ hx106_3)).trans hx106_3
  replace hx106_4 := (HB.out.cell (World.block_lt_of_cell? w _ hx106_4)).trans hx106_4
  replace hx106_5 := (HB.out.cell (World.block_lt_of_cell? w _ hx106_5)).trans hx106_5
  replace hx106_6 := (HB.out.cell (World.block_lt_of_cell? w _ hx106_6)).trans hx106_6
  have HR106_5 := Aside0.mk hi106_5
  have HC106_5 := Aside0.mk hl106_5
  clear hi106_5 hl106_5
  replace p106 := eq_true p106
  replace q106 := eq_true q106
  have p107 : 0 ≤ (x5_1 : Int) := of_decide_eq_true as_
  have q107 : x5_1 < (l0.length : Int) := of_decide_eq_true as_
  obtain ⟨ad107, A107_5, c107_5, e107, hx107_0, hx107_1, hx107_2, hx107_3, hx107_4, hx107_5, hx107_6, hl107_5, hi107_5⟩ := at_T69 HR0.out x5_1 p107 q107
  obtain rfl : ad106 = ad107 := (by injection e107)
  replace hx107_0 := (HB.out.cell (World.block_lt_of_cell? w _ hx107_0)).trans hx107_0
  replace hx107_1 := (HB.out.cell (World.block_lt_of_cell? w _ hx107_1)).trans hx107_1
  replace hx107_2 := (HB.out.cell (World.block_lt_of_cell? w _ hx107_2)).trans hx107_2
  replace hx107_3 := (HB.out.cell (World.block_lt_of_cell? w _ hx107_3)).trans hx107_3
  replace hx107_4 := (HB.out.cell (World.block_lt_of_cell? w _ hx107_4)).trans hx107_4
  replace hx107_5 := (HB.out.cell (World.block_lt_of_cell? w _ hx107_5)).trans hx107_5
  replace hx107_6 := (HB.out.cell (World.block_lt_of_cell? w _ hx107_6)).trans hx107_6
  have HR107_5 := Aside0.mk hi107_5
  have HC107_5 := Aside0.mk hl107_5
  clear hi107_5 hl107_5
  replace p107 := eq_true p107
  replace q107 := eq_true q107
  have ea_ := Option.some.inj (hx106_5.symm.trans hx107_5)
  injection ea_ with ea_ en_ ec_
  subst ea_
  subst ec_
  clear en_
  have p108 : 0 ≤ (x5_1 : Int) := of_decide_eq_true as_
  have q108 : x5_1 < (l0.length : Int) := of_decide_eq_true as_
  obtain ⟨ad108, A108_5, c108_5, e108, hx108_0, hx108_1, hx108_2, hx108_3, hx108_4, hx108_5, hx108_6, hl108_5, hi108_5⟩ := at_T69 HR0.out x5_1 p108 q108
  obtain rfl : ad106 = ad108 := (by injection e108)
  replace hx108_0 := (HB.out.cell (World.block_lt_of_cell? w _ hx108_0)).trans hx108_0
  replace hx108_1 := (HB.out.cell (World.block_lt_of_cell? w _ hx108_1)).trans hx108_1
  replace hx108_2 := (HB.out.cell (World.block_lt_of_cell? w _ hx108_2)).trans hx108_2
  replace hx108_3 := (HB.out.cell (World.block_lt_of_cell? w _ hx108_3)).trans hx108_3
  replace hx108_4 := (HB.out.cell (World.block_lt_of_cell? w _ hx108_4)).trans hx108_4
  replace hx108_5 := (HB.out.cell (World.block_lt_of_cell? w _ hx108_5)).trans hx108_5
  replace hx108_6 := (HB.out.cell (World.block_lt_of_cell? w _ hx108_6)).trans hx108_6
  have HR108_5 := Aside0.mk hi108_5
  have HC108_5 := Aside0.mk hl108_5
  clear hi108_5 hl108_5
  replace p108 := eq_true p108
  replace q108 := eq_true q108
  have ea_ := Option.some.inj (hx106_5.symm.trans hx108_5)
  injection ea_ with ea_ en_ ec_
  subst ea_
  subst ec_
  clear en_
  go_wp2
  go_ret
  exact ⟨er_, bl_⟩
 rw [if_pos c7] at H
 have c7b0 : (((rd_T69 l0 x5_1).f2) == (wrap64 ((wrap64 (x1_1 + 1)) + 1))) = true := beq_iff_eq.mpr c7
 have c7b1 : (((rd_T69 l0 x5_1).f2) != (wrap64 ((wrap64 (x1_1 + 1)) + 1))) = false := bne_eq_false_iff_eq.mpr c7
 clear c7
 by_cases c8 : ((rd_T69 l0 x5_1).f3.f0) = (wrap64 ((wrap64 ((wrap64 (x1_1 + 1)) + 1)) + 1))
 rotate_left
 ·rw [if_neg c8] at H
  have c8b0 : (((rd_T69 l0 x5_1).f3.f0) == (wrap64 ((wrap64 ((wrap64 (x1_1 + 1)) + 1)) + 1))) = false := beq_eq_false_iff_ne.mpr c8
  have c8b1 : (((rd_T69 l0 x5_1).f3.f0) != (wrap64 ((wrap64 ((wrap64 (x1_1 + 1)) + 1)) + 1))) = true := bne_iff_ne.mpr c8
  obtain rfl := Option.some.inj H
  have p106 : 0 ≤ (x5_1 : Int) := of_decide_eq_true as_
  have q106 : x5_1 < (l0.length : Int) := of_decide_eq_true as_
  obtain ⟨ad106, A106_5, c106_5, e106, hx106_0, hx106_1, hx106_2, hx106_3, hx106_4, hx106_5, hx106_6, hl106_5, hi106_5⟩ := at_T69 HR0.out x5_1 p106 q106
  cases e106
  replace hx106_0 := (HB.out.cell (World.block_lt_of_cell? w _ hx106_0)).trans hx106_0
  replace hx106_1 := (HB.out.cell (World.block_lt_of_cell? w _ hx106_1)).trans hx106_1
  replace hx106_2 := (HB.out.cell (World.block_lt_of_cell? w _ hx106_2)).trans hx106_2
  replace hx106_3 := (HB.out.cell (World.block_lt_of_cell? w _ hx106_3)).trans hx106_3
  replace hx106_4 := (HB.out.cell (World.block_lt_of_cell? w _ hx106_4)).trans hx106_4
  replace hx106_5 := (HB.out.cell (World.block_lt_of_cell? w _ hx106_5)).trans hx106_5
  replace hx106_6 := (HB.out.cell (World.block_lt_of_cell? w _ hx106_6)).trans hx106_6
  have HR106_5 := Aside0.mk hi106_5
  have HC106_5 := Aside0.mk hl106_5
  clear hi106_5 hl106_5
  replace p106 := eq_true p106
  replace q106 := eq_true q106
  have p107 : 0 ≤ (x5_1 : Int) := of_decide_eq_true as_
  have q107 : x5_1 < (l0.length : Int) := of_decide_eq_true as_
  obtain ⟨ad107, A107_5, c107_5, e107, hx107_0, hx107_1, hx107_2, hx107_3, hx107_4, hx107_5, hx107_6, hl107_5, hi107_5⟩ := at_T69 HR0.out x5_1 p107 q107
  obtain rfl : ad106 = ad107 := (by injection e107)
  replace hx107_0 := (HB.out.cell (World.block_lt_of_cell? w _ hx107_0)).trans hx107_0
  replace hx107_1 := (HB.out.cell (World.block_lt_of_cell? w _ hx107_1)).trans hx107_1
  replace hx107_2 := (HB.out.cell (World.block_lt_of_cell? w _ hx107_2)).trans hx107_2
  replace hx107_3 := (HB.out.cell (World.block_lt_of_cell? w _ hx107_3)).trans hx107_3
  replace hx107_4 := (HB.out.cell (World.block_lt_of_cell? w _ hx107_4)).trans hx107_4
  replace hx107_5 := (HB.out.cell (World.block_lt_of_cell? w _ hx107_5)).trans hx107_5
  replace hx107_6 := (HB.out.cell (World.block_lt_of_cell? w _ hx107_6)).trans hx107_6
  have HR107_5 := Aside0.mk hi107_5
  have HC107_5 := Aside0.mk hl107_5
  clear hi107_5 hl107_5
  replace p107 := eq_true p107
  replace q107 := eq_true q107
  have ea_ := Option.some.inj (hx106_5.symm.trans hx107_5)
  injection ea_ with ea_ en_ ec_
  subst ea_
  subst ec_
  clear en_
  have p108 : 0 ≤ (x5_1 : Int) := of_decide_eq_true as_
  have q108 : x5_1 < (l0.length : Int) := of_decide_eq_true as_
  obtain ⟨ad108, A108_5, c108_5, e108, hx108_0, hx108_1, hx108_2, hx108_3, hx108_4, hx108_5, hx108_6, hl108_5, hi108_5⟩ := at_T69 HR0.out x5_1 p108 q108
  obtain rfl : ad106 = ad108 := (by injection e108)
  replace hx108_0 := (HB.out.cell (World.block_lt_of_cell? w _ hx108_0)).trans hx108_0
  replace hx108_1 := (HB.out.cell (World.block_lt_of_cell? w _ hx108_1)).trans hx108_1
  replace hx108_2 := (HB.out.cell (World.block_lt_of_cell? w _ hx108_2)).trans hx108_2
  replace hx108_3 := (HB.out.cell (World.block_lt_of_cell? w _ hx108_3)).trans hx108_3
  replace hx108_4 := (HB.out.cell (World.block_lt_of_cell? w _ hx108_4)).trans hx108_4
  replace hx108_5 := (HB.out.cell (World.block_lt_of_cell? w _ hx108_5)).trans hx108_5
  replace hx108_6 := (HB.out.cell (World.block_lt_of_cell? w _ hx108_6)).trans hx108_6
  have HR108_5 := Aside0.mk hi108_5
  have HC108_5 := Aside0.mk hl108_5
  clear hi108_5 hl108_5
  replace p108 := eq_true p108
  replace q108 := eq_true q108
  have ea_ := Option.some.inj (hx106_5.symm.trans hx108_5)
  injection ea_ with ea_ en_ ec_
  subst ea_
  subst ec_
  clear en_
  have p109 : 0 ≤ (x5_1 : Int) := of_decide_eq_true as_
  have q109 : x5_1 < (l0.length : Int) := of_decide_eq_true as_
  obtain ⟨ad109, A109_5, c109_5, e109, hx109_0, hx109_1, hx109_2, hx109_3, hx109_4, hx109_5, hx109_6, hl109_5, hi109_5⟩ := at_T69 HR0.out x5_1 p109 q109
  obtain rfl : ad106 = ad109 := (by injection e109)
  replace hx109_0 := (HB.out.cell (World.block_lt_of_cell? w _ hx109_0)).trans hx109_0
  replace hx109_1 := (HB.out.cell (World.block_lt_of_cell? w _ hx109_1)).trans hx109_1
  replace hx109_2 := (HB.out.cell (World.block_lt_of_cell? w _ hx109_2)).trans hx109_2
  replace hx109_3 := (HB.out.cell (World.block_lt_of_cell? w _ hx109_3)).trans hx109_3
  replace hx109_4 := (HB.out.cell (World.block_lt_of_cell? w _ hx109_4)).trans hx109_4
  replace hx109_5 := (HB.out.cell (World.block_lt_of_cell? w _ hx109_5)).trans hx109_5
  replace hx109_6 := (HB.out.cell (World.block_lt_of_cell? w _ hx109_6)).trans hx109_6
  have HR109_5 := Aside0.mk hi109_5
  have HC109_5 := Aside0.mk hl109_5
  clear hi109_5 hl109_5
  replace p109 := eq_true p109
  replace q109 := eq_true q109
  have ea_ := Option.some.inj (hx106_5.symm.trans hx109_5)
  injection ea_ with ea_ en_ ec_
  subst ea_
  subst ec_
  clear en_
  go_wp2
  go_ret
  exact ⟨er_, bl_⟩
 rw [if_pos c8] at H
 have c8b0 : (((rd_T69 l0 x5_1).f3.f0) == (wrap64 ((wrap64 ((wrap64 (x1_1 + 1)) + 1)) + 1))) = true := beq_iff_eq.mpr c8
 have c8b1 : (((rd_T69 l0 x5_1).f3.f0) != (wrap64 ((wrap64 ((wrap64 (x1_1 + 1)) + 1)) + 1))) = false := bne_eq_false_iff_eq.mpr c8
 clear c8
 by_cases c9 : ((rd_T69 l0 x5_1).f3.f1) = (wrap64 ((wrap64 ((wrap64 ((wrap64 (x1_1 + 1)) + 1)) + 1)) + 1))
 rotate_left
 ·rw [if_neg c9] at H
  have c9b0 : (((rd_T69 l0 x5_1).f3.f1) == (wrap64 ((wrap64 ((wrap64 ((wrap64 (x1_1 + 1)) + 1)) + 1)) + 1))) = false := beq_eq_false_iff_ne.mpr c9
  have c9b1 : (((rd_T69 l0 x5_1).f3.f1) != (wrap64 ((wrap64 ((wrap64 ((wrap64 (x1_1 + 1)) + 1)) + 1)) + 1))) = true := bne_iff_ne.mpr c9
  obtain rfl := Option.some.inj H
  have p106 : 0 ≤ (x5_1 : Int) := of_decide_eq_true as_
  have q106 : x5_1 < (l0.length : Int) := of_decide_eq_true as_
  obtain ⟨ad106, A106_5, c106_5, e106, hx106_0, hx106_1, hx106_2, hx106_3, hx106_4, hx106_5, hx106_6, hl106_5, hi106_5⟩ := at_T69 HR0.out x5_1 p106 q106
  cases e106
  replace hx106_0 := (HB.out.cell (World.block_lt_of_cell? w _ hx106_0)).trans hx106_0
  replace hx106_1 := (HB.out.cell (World.block_lt_of_cell? w _ hx106_1)).trans hx106_1
  replace hx106_2 := (HB.out.cell (World.block_lt_of_cell? w _ hx106_2)).trans hx106_2
  replace hx106_3 := (HB.out.cell (World.block_lt_of_cell? w _ hx106_3)).trans hx106_3
  replace hx106_4 := (HB.out.cell (World.block_lt_of_cell? w _ hx106_4)).trans hx106_4
  replace hx106_5 := (HB.out.cell (World.block_lt_of_cell? w _ hx106_5)).trans hx106_5
  replace hx106_6 := (HB.out.cell (World.block_lt_of_cell? w _ hx106_6)).trans hx106_6
  have HR106_5 := Aside0.mk hi106_5
  have HC106_5 := Aside0.mk hl106_5
  clear hi106_5 hl106_5
  replace p106 := eq_true p106
  replace q106 := eq_true q106
  have p107 : 0 ≤ (x5_1 : Int) := of_decide_eq_true as_
  have q107 : x5_1 < (l0.length : Int) := of_decide_eq_true as_
  obtain ⟨ad107, A107_5, c107_5, e107, hx107_0, hx107_1, hx107_2, hx107_3, hx107_4, hx107_5, hx107_6, hl107_5, hi107_5⟩ := at_T69 HR0.out x5_1 p107 q107
  obtain rfl : ad106 = ad107 := (by injection e107)
  replace hx107_0 := (HB.out.cell (World.block_lt_of_cell? w _ hx107_0)).trans hx107_0
  replace hx107_1 := (HB.out.cell (World.block_lt_of_cell? w _ hx107_1)).trans hx107_1
  replace hx107_2 := (HB.out.cell (World.block_lt_of_cell? w _ hx107_2)).trans hx107_2
  replace hx107_3 := (HB.out.cell (World.block_lt_of_cell? w _ hx107_3)).trans hx107_3
  replace hx107_4 := (HB.out.cell (World.block_lt_of_cell? w _ hx107_4)).trans hx107_4
  replace hx107_5 := (HB.out.cell (World.block_lt_of_cell? w _ hx107_5)).trans hx107_5
  replace hx107_6 := (HB.out.cell (World.block_lt_of_cell? w _ hx107_6)).trans hx107_6
  have HR107_5 := Aside0.mk hi107_5
  have HC107_5 := Aside0.mk hl107_5
  clear hi107_5 hl107_5
  replace p107 := eq_true p107
  replace q107 := eq_true q107
  have ea_ := Option.some.inj (hx106_5.symm.trans hx107_5)
  injection ea_ with ea_ en_ ec_
  subst ea_
  subst ec_
  clear en_
  have p108 : 0 ≤ (x5_1 : Int) := of_decide_eq_true as_
  have q108 : x5_1 < (l0.length : Int) := of_decide_eq_true as_
  obtain ⟨ad108, A108_5, c108_5, e108, hx108_0, hx108_1, hx108_2, hx108_3, hx108_4, hx108_5, hx108_6, hl108_5, hi108_5⟩ := at_T69 HR0.out x5_1 p108 q108
  obtain rfl : ad106 = ad108 := (by injection e108)
  replace hx108_0 := (HB.out.cell (World.block_lt_of_cell? w _ hx108_0)).trans hx108_0
  replace hx108_1 := (HB.out.cell (World.block_lt_of_cell? w _ hx108_1)).trans hx108_1
  replace hx108_2 := (HB.out.cell (World.block_lt_of_cell? w _ hx108_2)).trans hx108_2
  replace hx108_3 := (HB.out.cell (World.block_lt_of_cell? w _ hx108_3)).trans hx108_3
  replace hx108_4 := (HB.out.cell (World.block_lt_of_cell? w _ hx108_4)).trans hx108_4
  replace hx108_5 := (HB.out.cell (World.block_lt_of_cell? w _ hx108_5)).trans hx108_5
  replace hx108_6 := (HB.out.cell (World.block_lt_of_cell? w _ hx108_6)).trans hx108_6
  have HR108_5 := Aside0.mk hi108_5
  have HC108_5 := Aside0.mk hl108_5
  clear hi108_5 hl108_5
  replace p108 := eq_true p108
  replace q108 := eq_true q108
  have ea_ := Option.some.inj (hx106_5.symm.trans hx108_5)
  injection ea_ with ea_ en_ ec_
  subst ea_
  subst ec_
  clear en_
  have p109 : 0 ≤ (x5_1 : Int) := of_decide_eq_true as_
  have q109 : x5_1 < (l0.length : Int) := of_decide_eq_true as_
  obtain ⟨ad109, A109_5, c109_5, e109, hx109_0, hx109_1, hx109_2, hx109_3, hx109_4, hx109_5, hx109_6, hl109_5, hi109_5⟩ := at_T69 HR0.out x5_1 p109 q109
  obtain rfl : ad106 = ad109 := (by injection e109)
  replace hx109_0 := (HB.out.cell (World.block_lt_of_cell? w _ hx109_0)).trans hx109_0
  replace hx109_1 := (HB.out.cell (World.block_lt_of_cell? w _ hx109_1)).trans hx109_1
  replace hx109_2 := (HB.out.cell (World.block_lt_of_cell? w _ hx109_2)).trans hx109_2
  replace hx109_3 := (HB.out.cell (World.block_lt_of_cell? w _ hx109_3)).trans hx109_3
  replace hx109_4 := (HB.out.cell (World.block_lt_of_cell? w _ hx109_4)).trans hx109_4
  replace hx109_5 := (HB.out.cell (World.block_lt_of_cell? w _ hx109_5)).trans hx109_5
  replace hx109_6 := (HB.out.cell (World.block_lt_of_cell? w _ hx109_6)).trans hx109_6
  have HR109_5 := Aside0.mk hi109_5
  have HC109_5 := Aside0.mk hl109_5
  clear hi109_5 hl109_5
  replace p109 := eq_true p109
  replace q109 := eq_true q109
  have ea_ := Option.some.inj (hx106_5.symm.trans hx109_5)
  injection ea_ with ea_ en_ ec_
  subst ea_
  subst ec_
  clear en_
  have p110 : 0 ≤ (x5_1 : Int) := of_decide_eq_true as_
  have q110 : x5_1 < (l0.length : Int) := of_decide_eq_true as_
  obtain ⟨ad110, A110_5, c110_5, e110, hx110_0, hx110_1, hx110_2, hx110_3, hx110_4, hx110_5, hx110_6, hl110_5, hi110_5⟩ := at_T69 HR0.out x5_1 p110 q110
  obtain rfl : ad106 = ad110 := (by injection e110)
  replace hx110_0 := (HB.out.cell (World.block_lt_of_cell? w _ hx110_0)).trans hx110_0
  replace hx110_1 := (HB.out.cell (World.block_lt_of_cell? w _ hx110_1)).trans hx110_1
  replace hx110_2 := (HB.out.cell (World.block_lt_of_cell? w _ hx110_2)).trans hx110_2
  replace hx110_3 := (HB.out.cell (World.block_lt_of_cell? w _ hx110_3)).trans hx110_3
  replace hx110_4 := (HB.out.cell (World.block_lt_of_cell? w _ hx110_4)).trans hx110_4
  replace hx110_5 := (HB.out.cell (World.block_lt_of_cell? w _ hx110_5)).trans hx110_5
  replace hx110_6 := (HB.out.cell (World.block_lt_of_cell? w _ hx110_6)).trans hx110_6
  have HR110_5 := Aside0.mk hi110_5
  have HC110_5 := Aside0.mk hl110_5
  clear hi110_5 hl110_5
  replace p110 := eq_true p110
  replace q110 := eq_true q110
  have ea_ := Option.some.inj (hx106_5.symm.trans hx110_5)
  injection ea_ with ea_ en_ ec_
  subst ea_
  subst ec_
  clear en_
  go_wp2
  go_ret
  exact ⟨er_, bl_⟩
 rw [if_pos c9] at H
 have c9b0 : (((rd_T69 l0 x5_1).f3.f1) == (wrap64 ((wrap64 ((wrap64 ((wrap64 (x1_1 + 1)) + 1)) + 1)) + 1))) = true := beq_iff_eq.mpr c9
 have c9b1 : (((rd_T69 l0 x5_1).f3.f1) != (wrap64 ((wrap64 ((wrap64 ((wrap64 (x1_1 + 1)) + 1)) + 1)) + 1))) = false := bne_eq_false_iff_eq.mpr c9
 clear c9
 replace H := bs_ H
 obtain ⟨t112, A10, H⟩ := H
 try dsimp only at H
 by_cases c11 : t112 < 0
 ·rw [if_pos c11] at H
  have c11b0 := decide_eq_true c11
  clear c11
  obtain rfl := Option.some.inj H
  have p106 : 0 ≤ (x5_1 : Int) := of_decide_eq_true as_
  have q106 : x5_1 < (l0.length : Int) := of_decide_eq_true as_
  obtain ⟨ad106, A106_5, c106_5, e106, hx106_0, hx106_1, hx106_2, hx106_3, hx106_4, hx106_5, hx106_6, hl106_5, hi106_5⟩ := at_T69 HR0.out x5_1 p106 q106
  cases e106
  replace hx106_0 := (HB.out.cell (World.block_lt_of_cell? w _ hx106_0)).trans hx106_0
  replace hx106_1 := (HB.out.cell (World.block_lt_of_cell? w _ hx106_1)).trans hx106_1
  replace hx106_2 := (HB.out.cell (World.block_lt_of_cell? w _ hx106_2)).trans hx106_2
  replace hx106_3 := (HB.out.cell (World.block_lt_of_cell? w _ hx106_3)).trans hx106_3
  replace hx106_4 := (HB.out.cell (World.block_lt_of_cell? w _ hx106_4)).trans hx106_4
  replace hx106_5 := (HB.out.cell (World.block_lt_of_cell? w _ hx106_5)).trans hx106_5
  replace hx106_6 := (HB.out.cell (World.block_lt_of_cell? w _ hx106_6)).trans hx106_6
  have HR106_5 := Aside0.mk hi106_5
  have HC106_5 := Aside0.mk hl106_5
  clear hi106_5 hl106_5
  replace p106 := eq_true p106
  replace q106 := eq_true q106
  have p107 : 0 ≤ (x5_1 : Int) := of_decide_eq_true as_
  have q107 : x5_1 < (l0.length : Int) := of_decide_eq_true as_
  obtain ⟨ad107, A107_5, c107_5, e107, hx107_0, hx107_1, hx107_2, hx107_3, hx107_4, hx107_5, hx107_6, hl107_5, hi107_5⟩ := at_T69 HR0.out x5_1 p107 q107
  obtain rfl : ad106 = ad107 := (by injection e107)
  replace hx107_0 := (HB.out.cell (World.block_lt_of_cell? w _ hx107_0)).trans hx107_0
  replace hx107_1 := (HB.out.cell (World.block_lt_of_cell? w _ hx107_1)).trans hx107_1
  replace hx107_2 := (HB.out.cell (World.block_lt_of_cell? w _ hx107_2)).trans hx107_2
  replace hx107_3 := (HB.out.cell (World.block_lt_of_cell? w _ hx107_3)).trans hx107_3
  replace hx107_4 := (HB.out.cell (World.block_lt_of_cell? w _ hx107_4)).trans hx107_4
  replace hx107_5 := (HB.out.cell (World.block_lt_of_cell? w _ hx107_5)).trans hx107_5
  replace hx107_6 := (HB.out.cell (World.block_lt_of_cell? w _ hx107_6)).trans hx107_6
  have HR107_5 := Aside0.mk hi107_5
  have HC107_5 := Aside0.mk hl107_5
  clear hi107_5 hl107_5
  replace p107 := eq_true p107
  replace q107 := eq_true q107
  have ea_ := Option.some.inj (hx106_5.symm.trans hx107_5)
  injection ea_ with ea_ en_ ec_
  subst ea_
  subst ec_
  clear en_
  have p108 : 0 ≤ (x5_1 : Int) := of_decide_eq_true as_
  have q108 : x5_1 < (l0.length : Int) := of_decide_eq_true as_
  obtain ⟨ad108, A108_5, c108_5, e108, hx108_0, hx108_1, hx108_2, hx108_3, hx108_4, hx108_5, hx108_6, hl108_5, hi108_5⟩ := at_T69 HR0.out x5_1 p108 q108
  obtain rfl : ad106 = ad108 := (by injection e108)
  replace hx108_0 := (HB.out.cell (World.block_lt_of_cell? w _ hx108_0)).trans hx108_0
  replace hx108_1 := (HB.out.cell (World.block_lt_of_cell? w _ hx108_1)).trans hx108_1
  replace hx108_2 := (HB.out.cell (World.block_lt_of_cell? w _ hx108_2)).trans hx108_2
  replace hx108_3 := (HB.out.cell (World.block_lt_of_cell? w _ hx108_3)).trans hx108_3
  replace hx108_4 := (HB.out.cell (World.block_lt_of_cell? w _ hx108_4)).trans hx108_4
  replace hx108_5 := (HB.out.cell (World.block_lt_of_cell? w _ hx108_5)).trans hx108_5
  replace hx108_6 := (HB.out.cell (World.block_lt_of_cell? w _ hx108_6)).trans hx108_6
  have HR108_5 := Aside0.mk hi108_5
  have HC108_5 := Aside0.mk hl108_5
  clear hi108_5 hl108_5
  replace p108 := eq_true p108
  replace q108 := eq_true q108
  have ea_ := Option.some.inj (hx106_5.symm.trans hx108_5)
  injection ea_ with ea_ en_ ec_
  subst ea_
  subst ec_
  clear en_
  have p109 : 0 ≤ (x5_1 : Int) := of_decide_eq_true as_
  have q109 : x5_1 < (l0.length : Int) := of_decide_eq_true as_
  obtain ⟨ad109, A109_5, c109_5, e109, hx109_0, hx109_1, hx109_2, hx109_3, hx109_4, hx109_5, hx109_6, hl109_5, hi109_5⟩ := at_T69 HR0.out x5_1 p109 q109
  obtain rfl : ad106 = ad109 := (by injection e109)
  replace hx109_0 := (HB.out.cell (World.block_lt_of_cell? w _ hx109_0)).trans hx109_0
  replace hx109_1 := (HB.out.cell (World.block_lt_of_cell? w _ hx109_1)).trans hx109_1
  replace hx109_2 := (HB.out.cell (World.block_lt_of_cell? w _ hx109_2)).trans hx109_2
  replace hx109_3 := (HB.out.cell (World.block_lt_of_cell? w _ hx109_3)).trans hx109_3
  replace hx109_4 := (HB.out.cell (World.block_lt_of_cell? w _ hx109_4)).trans hx109_4
  replace hx109_5 := (HB.out.cell (World.block_lt_of_cell? w _ hx109_5)).trans hx109_5
  replace hx109_6 := (HB.out.cell (World.block_lt_of_cell? w _ hx109_6)).trans hx109_6
  have HR109_5 := Aside0.mk hi109_5
  have HC109_5 := Aside0.mk hl109_5
  clear hi109_5 hl109_5
  replace p109 := eq_true p109
  replace q109 := eq_true q109
  have ea_ := Option.some.inj (hx106_5.symm.trans hx109_5)
  injection ea_ with ea_ en_ ec_
  subst ea_
  subst ec_
  clear en_
  have p110 : 0 ≤ (x5_1 : Int) := of_decide_eq_true as_
  have q110 : x5_1 < (l0.length : Int) := of_decide_eq_true as_
  obtain ⟨ad110, A110_5, c110_5, e110, hx110_0, hx110_1, hx110_2, hx110_3, hx110_4, hx110_5, hx110_6, hl110_5, hi110_5⟩ := at_T69 HR0.out x5_1 p110 q110
  obtain rfl : ad106 = ad110 := (by injection e110)
  replace hx110_0 := (HB.out.cell (World.block_lt_of_cell? w _ hx110_0)).trans hx110_0
  replace hx110_1 := (HB.out.cell (World.block_lt_of_cell? w _ hx110_1)).trans hx110_1
  replace hx110_2 := (HB.out.cell (World.block_lt_of_cell? w _ hx110_2)).trans hx110_2
  replace hx110_3 := (HB.out.cell (World.block_lt_of_cell? w _ hx110_3)).trans hx110_3
  replace hx110_4 := (HB.out.cell (World.block_lt_of_cell? w _ hx110_4)).trans hx110_4
  replace hx110_5 := (HB.out.cell (World.block_lt_of_cell? w _ hx110_5)).trans hx110_5
  replace hx110_6 := (HB.out.cell (World.block_lt_of_cell? w _ hx110_6)).trans hx110_6
  have HR110_5 := Aside0.mk hi110_5
  have HC110_5 := Aside0.mk hl110_5
  clear hi110_5 hl110_5
  replace p110 := eq_true p110
  replace q110 := eq_true q110
  have ea_ := Option.some.inj (hx106_5.symm.trans hx110_5)
  injection ea_ with ea_ en_ ec_
  subst ea_
  subst ec_
  clear en_
  have p111 : 0 ≤ (x5_1 : Int) := of_decide_eq_true as_
  have q111 : x5_1 < (l0.length : Int) := of_decide_eq_true as_
  obtain ⟨ad111, A111_5, c111_5, e111, hx111_0, hx111_1, hx111_2, hx111_3, hx111_4, hx111_5, hx111_6, hl111_5, hi111_5⟩ := at_T69 HR0.out x5_1 p111 q111
  obtain rfl : ad106 = ad111 := (by injection e111)
  replace hx111_0 := (HB.out.cell (World.block_lt_of_cell? w _ hx111_0)).trans hx111_0
  replace hx111_1 := (HB.out.cell (World.block_lt_of_cell? w _ hx111_1)).trans hx111_1
  replace hx111_2 := (HB.out.cell (World.block_lt_of_cell? w _ hx111_2)).trans hx111_2
  replace hx111_3 := (HB.out.cell (World.block_lt_of_cell? w _ hx111_3)).trans hx111_3
  replace hx111_4 := (HB.out.cell (World.block_lt_of_cell? w _ hx111_4)).trans hx111_4
  replace hx111_5 := (HB.out.cell (World.block_lt_of_cell? w _ hx111_5)).trans hx111_5
  replace hx111_6 := (HB.out.cell (World.block_lt_of_cell? w _ hx111_6)).trans hx111_6
  have HR111_5 := Aside0.mk hi111_5
  have HC111_5 := Aside0.mk hl111_5
  clear hi111_5 hl111_5
  replace p111 := eq_true p111
  replace q111 := eq_true q111
  have ea_ := Option.some.inj (hx106_5.symm.trans hx111_5)
  injection ea_ with ea_ en_ ec_
  subst ea_
  subst ec_
  clear en_
  go_wp2_with (first | ((with_reducible refine gate_callee (f := 51) rfl ?_); refine gs_ (some 66) Try.func51 #[.slice A106_5 ((rd_T69 l0 x5_1).f3.f2).length c106_5, .int .i64 (wrap64 ((wrap64 ((wrap64 ((wrap64 ((wrap64 (x1_1 + 1)) + 1)) + 1)) + 1)) + 1))] ?_; (with_reducible refine (laws_heldWideS.calls k1 _ _ ((rd_T69 l0 x5_1).f3.f2) (wrap64 ((wrap64 ((wrap64 ((wrap64 ((wrap64 (x1_1 + 1)) + 1)) + 1)) + 1)) + 1)) t112 _ ?side1 ?side2 A10.out).mono ?_); (case side1 => exact cb_ HR111_5.out HB.out); (case side2 => exact HC111_5.out); rintro e w' ⟨rfl, ⟨nd, rfl⟩⟩; refine ⟨_, rfl, ?_⟩))
  go_ret
  exact ⟨er_, bl_⟩
 rw [if_neg c11] at H
 have c11b0 := decide_eq_false c11
 clear c11
 replace H := bs_ H
 obtain ⟨t114, A12, H⟩ := H
 try dsimp only at H
 by_cases c13 : ((rd_T69 l0 x5_1).f4).toList = t114.toList
 rotate_left
 ·rw [if_neg c13] at H
  have c13b0 : (((rd_T69 l0 x5_1).f4).toList == t114.toList) = false := beq_eq_false_iff_ne.mpr c13
  have c13b1 : (((rd_T69 l0 x5_1).f4).toList != t114.toList) = true := bne_iff_ne.mpr c13
  obtain rfl := Option.some.inj H
  have p106 : 0 ≤ (x5_1 : Int) := of_decide_eq_true as_
  have q106 : x5_1 < (l0.length : Int) := of_decide_eq_true as_
  obtain ⟨ad106, A106_5, c106_5, e106, hx106_0, hx106_1, hx106_2, hx106_3, hx106_4, hx106_5, hx106_6, hl106_5, hi106_5⟩ := at_T69 HR0.out x5_1 p106 q106
  cases e106
  replace hx106_0 := (HB.out.cell (World.block_lt_of_cell? w _ hx106_0)).trans hx106_0
  replace hx106_1 := (HB.out.cell (World.block_lt_of_cell? w _ hx106_1)).trans hx106_1
  replace hx106_2 := (HB.out.cell (World.block_lt_of_cell? w _ hx106_2)).trans hx106_2
  replace hx106_3 := (HB.out.cell (World.block_lt_of_cell? w _ hx106_3)).trans hx106_3
  replace hx106_4 := (HB.out.cell (World.block_lt_of_cell? w _ hx106_4)).trans hx106_4
  replace hx106_5 := (HB.out.cell (World.block_lt_of_cell? w _ hx106_5)).trans hx106_5
  replace hx106_6 := (HB.out.cell (World.block_lt_of_cell? w _ hx106_6)).trans hx106_6
  have HR106_5 := Aside0.mk hi106_5
  have HC106_5 := Aside0.mk hl106_5
  clear hi106_5 hl106_5
  replace p106 := eq_true p106
  replace q106 := eq_true q106
  have p107 : 0 ≤ (x5_1 : Int) := of_decide_eq_true as_
  have q107 : x5_1 < (l0.length : Int) := of_decide_eq_true as_
  obtain ⟨ad107, A107_5, c107_5, e107, hx107_0, hx107_1, hx107_2, hx107_3, hx107_4, hx107_5, hx107_6, hl107_5, hi107_5⟩ := at_T69 HR0.out x5_1 p107 q107
  obtain rfl : ad106 = ad107 := (by injection e107)
  replace hx107_0 := (HB.out.cell (World.block_lt_of_cell? w _ hx107_0)).trans hx107_0
  replace hx107_1 := (HB.out.cell (World.block_lt_of_cell? w _ hx107_1)).trans hx107_1
  replace hx107_2 := (HB.out.cell (World.block_lt_of_cell? w _ hx107_2)).trans hx107_2
  replace hx107_3 := (HB.out.cell (World.block_lt_of_cell? w _ hx107_3)).trans hx107_3
  replace hx107_4 := (HB.out.cell (World.block_lt_of_cell? w _ hx107_4)).trans hx107_4
  replace hx107_5 := (HB.out.cell (World.block_lt_of_cell? w _ hx107_5)).trans hx107_5
  replace hx107_6 := (HB.out.cell (World.block_lt_of_cell? w _ hx107_6)).trans hx107_6
  have HR107_5 := Aside0.mk hi107_5
  have HC107_5 := Aside0.mk hl107_5
  clear hi107_5 hl107_5
  replace p107 := eq_true p107
  replace q107 := eq_true q107
  have ea_ := Option.some.inj (hx106_5.symm.trans hx107_5)
  injection ea_ with ea_ en_ ec_
  subst ea_
  subst ec_
  clear en_
  have p108 : 0 ≤ (x5_1 : Int) := of_decide_eq_true as_
  have q108 : x5_1 < (l0.length : Int) := of_decide_eq_true as_
  obtain ⟨ad108, A108_5, c108_5, e108, hx108_0, hx108_1, hx108_2, hx108_3, hx108_4, hx108_5, hx108_6, hl108_5, hi108_5⟩ := at_T69 HR0.out x5_1 p108 q108
  obtain rfl : ad106 = ad108 := (by injection e108)
  replace hx108_0 := (HB.out.cell (World.block_lt_of_cell? w _ hx108_0)).trans hx108_0
  replace hx108_1 := (HB.out.cell (World.block_lt_of_cell? w _ hx108_1)).trans hx108_1
  replace hx108_2 := (HB.out.cell (World.block_lt_of_cell? w _ hx108_2)).trans hx108_2
  replace hx108_3 := (HB.out.cell (World.block_lt_of_cell? w _ hx108_3)).trans hx108_3
  replace hx108_4 := (HB.out.cell (World.block_lt_of_cell? w _ hx108_4)).trans hx108_4
  replace hx108_5 := (HB.out.cell (World.block_lt_of_cell? w _ hx108_5)).trans hx108_5
  replace hx108_6 := (HB.out.cell (World.block_lt_of_cell? w _ hx108_6)).trans hx108_6
  have HR108_5 := Aside0.mk hi108_5
  have HC108_5 := Aside0.mk hl108_5
  clear hi108_5 hl108_5
  replace p108 := eq_true p108
  replace q108 := eq_true q108
  have ea_ := Option.some.inj (hx106_5.symm.trans hx108_5)
  injection ea_ with ea_ en_ ec_
  subst ea_
  subst ec_
  clear en_
  have p109 : 0 ≤ (x5_1 : Int) := of_decide_eq_true as_
  have q109 : x5_1 < (l0.length : Int) := of_decide_eq_true as_
  obtain ⟨ad109, A109_5, c109_5, e109, hx109_0, hx109_1, hx109_2, hx109_3, hx109_4, hx109_5, hx109_6, hl109_5, hi109_5⟩ := at_T69 HR0.out x5_1 p109 q109
  obtain rfl : ad106 = ad109 := (by injection e109)
  replace hx109_0 := (HB.out.cell (World.block_lt_of_cell? w _ hx109_0)).trans hx109_0
  replace hx109_1 := (HB.out.cell (World.block_lt_of_cell? w _ hx109_1)).trans hx109_1
  replace hx109_2 := (HB.out.cell (World.block_lt_of_cell? w _ hx109_2)).trans hx109_2
  replace hx109_3 := (HB.out.cell (World.block_lt_of_cell? w _ hx109_3)).trans hx109_3
  replace hx109_4 := (HB.out.cell (World.block_lt_of_cell? w _ hx109_4)).trans hx109_4
  replace hx109_5 := (HB.out.cell (World.block_lt_of_cell? w _ hx109_5)).trans hx109_5
  replace hx109_6 := (HB.out.cell (World.block_lt_of_cell? w _ hx109_6)).trans hx109_6
  have HR109_5 := Aside0.mk hi109_5
  have HC109_5 := Aside0.mk hl109_5
  clear hi109_5 hl109_5
  replace p109 := eq_true p109
  replace q109 := eq_true q109
  have ea_ := Option.some.inj (hx106_5.symm.trans hx109_5)
  injection ea_ with ea_ en_ ec_
  subst ea_
  subst ec_
  clear en_
  have p110 : 0 ≤ (x5_1 : Int) := of_decide_eq_true as_
  have q110 : x5_1 < (l0.length : Int) := of_decide_eq_true as_
  obtain ⟨ad110, A110_5, c110_5, e110, hx110_0, hx110_1, hx110_2, hx110_3, hx110_4, hx110_5, hx110_6, hl110_5, hi110_5⟩ := at_T69 HR0.out x5_1 p110 q110
  obtain rfl : ad106 = ad110 := (by injection e110)
  replace hx110_0 := (HB.out.cell (World.block_lt_of_cell? w _ hx110_0)).trans hx110_0
  replace hx110_1 := (HB.out.cell (World.block_lt_of_cell? w _ hx110_1)).trans hx110_1
  replace hx110_2 := (HB.out.cell (World.block_lt_of_cell? w _ hx110_2)).trans hx110_2
  replace hx110_3 := (HB.out.cell (World.block_lt_of_cell? w _ hx110_3)).trans hx110_3
  replace hx110_4 := (HB.out.cell (World.block_lt_of_cell? w _ hx110_4)).trans hx110_4
  replace hx110_5 := (HB.out.cell (World.block_lt_of_cell? w _ hx110_5)).trans hx110_5
  replace hx110_6 := (HB.out.cell (World.block_lt_of_cell? w _ hx110_6)).trans hx110_6
  have HR110_5 := Aside0.mk hi110_5
  have HC110_5 := Aside0.mk hl110_5
  clear hi110_5 hl110_5
  replace p110 := eq_true p110
  replace q110 := eq_true q110
  have ea_ := Option.some.inj (hx106_5.symm.trans hx110_5)
  injection ea_ with ea_ en_ ec_
  subst ea_
  subst ec_
  clear en_
  have p111 : 0 ≤ (x5_1 : Int) := of_decide_eq_true as_
  have q111 : x5_1 < (l0.length : Int) := of_decide_eq_true as_
  obtain ⟨ad111, A111_5, c111_5, e111, hx111_0, hx111_1, hx111_2, hx111_3, hx111_4, hx111_5, hx111_6, hl111_5, hi111_5⟩ := at_T69 HR0.out x5_1 p111 q111
  obtain rfl : ad106 = ad111 := (by injection e111)
  replace hx111_0 := (HB.out.cell (World.block_lt_of_cell? w _ hx111_0)).trans hx111_0
  replace hx111_1 := (HB.out.cell (World.block_lt_of_cell? w _ hx111_1)).trans hx111_1
  replace hx111_2 := (HB.out.cell (World.block_lt_of_cell? w _ hx111_2)).trans hx111_2
  replace hx111_3 := (HB.out.cell (World.block_lt_of_cell? w _ hx111_3)).trans hx111_3
  replace hx111_4 := (HB.out.cell (World.block_lt_of_cell? w _ hx111_4)).trans hx111_4
  replace hx111_5 := (HB.out.cell (World.block_lt_of_cell? w _ hx111_5)).trans hx111_5
  replace hx111_6 := (HB.out.cell (World.block_lt_of_cell? w _ hx111_6)).trans hx111_6
  have HR111_5 := Aside0.mk hi111_5
  have HC111_5 := Aside0.mk hl111_5
  clear hi111_5 hl111_5
  replace p111 := eq_true p111
  replace q111 := eq_true q111
  have ea_ := Option.some.inj (hx106_5.symm.trans hx111_5)
  injection ea_ with ea_ en_ ec_
  subst ea_
  subst ec_
  clear en_
  try go_wp2_with (first | ((with_reducible refine gate_callee (f := 51) rfl ?_); refine gs_ (some 66) Try.func51 #[.slice A106_5 ((rd_T69 l0 x5_1).f3.f2).length c106_5, .int .i64 (wrap64 ((wrap64 ((wrap64 ((wrap64 ((wrap64 (x1_1 + 1)) + 1)) + 1)) + 1)) + 1))] ?_; (with_reducible refine (laws_heldWideS.calls k1 _ _ ((rd_T69 l0 x5_1).f3.f2) (wrap64 ((wrap64 ((wrap64 ((wrap64 ((wrap64 (x1_1 + 1)) + 1)) + 1)) + 1)) + 1)) t112 _ ?side1 ?side2 A10.out).mono ?_); (case side1 => exact cb_ HR111_5.out HB.out); (case side2 => exact HC111_5.out); rintro e w' ⟨rfl, ⟨nd, rfl⟩⟩; refine ⟨_, rfl, ?_⟩))
  (try (rw [drewN_self wr]; generalize hq_ : World.drewN wr _ = wr; have n0_ : Aside0 (Below w.heap.size w wr) := ⟨by rw [← hq_]; exact bl_⟩; clear HB hq_; have HB := n0_; clear n0_))
  have n0_ := Aside0.mk (below_drew1 HB.out)
  clear HB
  have HB := n0_
  clear n0_
  have p113 : 0 ≤ (x5_1 : Int) := of_decide_eq_true as_
  have q113 : x5_1 < (l0.length : Int) := of_decide_eq_true as_
  obtain ⟨ad113, A113_5, c113_5, e113, hx113_0, hx113_1, hx113_2, hx113_3, hx113_4, hx113_5, hx113_6, hl113_5, hi113_5⟩ := at_T69 HR0.out x5_1 p113 q113
  have hw113_6 := hx113_6
  have hw113_5 := hx113_5
  have hw113_4 := hx113_4
  have hw113_3 := hx113_3
  have hw113_2 := hx113_2
  have hw113_1 := hx113_1
  have hw113_0 := hx113_0
  obtain rfl : ad106 = ad113 := (by injection e113)
  replace hx113_0 := (HB.out.cell (World.block_lt_of_cell? w _ hx113_0)).trans hx113_0
  replace hx113_1 := (HB.out.cell (World.block_lt_of_cell? w _ hx113_1)).trans hx113_1
  replace hx113_2 := (HB.out.cell (World.block_lt_of_cell? w _ hx113_2)).trans hx113_2
  replace hx113_3 := (HB.out.cell (World.block_lt_of_cell? w _ hx113_3)).trans hx113_3
  replace hx113_4 := (HB.out.cell (World.block_lt_of_cell? w _ hx113_4)).trans hx113_4
  replace hx113_5 := (HB.out.cell (World.block_lt_of_cell? w _ hx113_5)).trans hx113_5
  replace hx113_6 := (HB.out.cell (World.block_lt_of_cell? w _ hx113_6)).trans hx113_6
  have HR113_5 := Aside0.mk hi113_5
  have HC113_5 := Aside0.mk hl113_5
  clear hi113_5 hl113_5
  replace p113 := eq_true p113
  replace q113 := eq_true q113
  refine start_ (n := 8) (S := fun w' => w'.cell? (ad106.add ((x5_1).toNat * 7)) = some (.int .i64 ((rd_T69 l0 x5_1).f0)) ∧ w'.cell? ⟨(ad106.add ((x5_1).toNat * 7)).block, (ad106.add ((x5_1).toNat * 7)).off + 1, none⟩ = some (.int .i64 ((rd_T69 l0 x5_1).f1)) ∧ w'.cell? ⟨(ad106.add ((x5_1).toNat * 7)).block, (ad106.add ((x5_1).toNat * 7)).off + 2, none⟩ = some (.int .i64 ((rd_T69 l0 x5_1).f2)) ∧ w'.cell? ⟨(ad106.add ((x5_1).toNat * 7)).block, (ad106.add ((x5_1).toNat * 7)).off + 3, none⟩ = some (.int .i64 ((rd_T69 l0 x5_1).f3.f0)) ∧ w'.cell? ⟨(ad106.add ((x5_1).toNat * 7)).block, (ad106.add ((x5_1).toNat * 7)).off + 4, none⟩ = some (.int .i64 ((rd_T69 l0 x5_1).f3.f1)) ∧ w'.cell? ⟨(ad106.add ((x5_1).toNat * 7)).block, (ad106.add ((x5_1).toNat * 7)).off + 5, none⟩ = some (.slice A113_5 ((rd_T69 l0 x5_1).f3.f2).length c113_5) ∧ w'.cell? ⟨(ad106.add ((x5_1).toNat * 7)).block, (ad106.add ((x5_1).toNat * 7)).off + 6, none⟩ = some (.string ((rd_T69 l0 x5_1).f4))) (ds := []) #[false, false, false, false, false, false, false, false] (by kernel_rfl) rfl rfl ⟨((HB.out.cell (World.block_lt_of_cell? w _ hw113_0)).trans hw113_0), ((HB.out.cell (World.block_lt_of_cell? w _ hw113_1)).trans hw113_1), ((HB.out.cell (World.block_lt_of_cell? w _ hw113_2)).trans hw113_2), ((HB.out.cell (World.block_lt_of_cell? w _ hw113_3)).trans hw113_3), ((HB.out.cell (World.block_lt_of_cell? w _ hw113_4)).trans hw113_4), ((HB.out.cell (World.block_lt_of_cell? w _ hw113_5)).trans hw113_5), ((HB.out.cell (World.block_lt_of_cell? w _ hw113_6)).trans hw113_6)⟩ (fun hHeld => ?_); refine with_tabW laws_heldEventS.tab22 laws_heldEventS.bits22 (fun HT_ HW_ => ?_)
  generalize wr.drew = w16 at HB HR113_5 hx113_0 hx113_1 hx113_2 hx113_3 hx113_4 hx113_5 hx113_6 hHeld ⊢
  refine pu_ 0 69 HT_ ?_
  refine pu_ 1 70 HT_ ?_
  refine pu_ 2 71 HT_ ?_
  refine pu_ 3 72 HT_ ?_
  refine pu_ 5 74 HT_ ?_
  refine ta_ 4 73 HT_ HW_ hHeld ?_ (r := by rintro w' ⟨s0, s1, s2, s3, s4, s5, s6⟩; go_simp; with_reducible rfl)
  refine on_ 6 75 HT_ (fun K hK => ?_)
  refine goes_ Try.func50 (by kernel_rfl) rfl #[.int .i64 t112] (by rfl) rfl rfl lm_ ?_
  with_reducible refine (laws_markText.calls k1 t112 t114 _ A12.out).mono ?_
  rintro e w17 ⟨rfl, hb⟩
  refine ⟨_, rfl, ?_⟩
  have n0_ := Aside0.mk (below_step bl_ hb)
  clear HB
  have HB := n0_
  clear n0_
  (try clear hb)
  (try clear hb2)
  (try clear hk)
  (try clear hi)
  refine hK.out _ _ ⟨((HB.out.cell (World.block_lt_of_cell? w _ hw113_0)).trans hw113_0), ((HB.out.cell (World.block_lt_of_cell? w _ hw113_1)).trans hw113_1), ((HB.out.cell (World.block_lt_of_cell? w _ hw113_2)).trans hw113_2), ((HB.out.cell (World.block_lt_of_cell? w _ hw113_3)).trans hw113_3), ((HB.out.cell (World.block_lt_of_cell? w _ hw113_4)).trans hw113_4), ((HB.out.cell (World.block_lt_of_cell? w _ hw113_5)).trans hw113_5), ((HB.out.cell (World.block_lt_of_cell? w _ hw113_6)).trans hw113_6)⟩ (fun hHeld => ?_)
  clear hK K
  refine norm_ (a' := ?_) ?_ ?_
  rotate_left
  ·show Act.put _ (some 75) _ = _
   simp only [Act.put, List.setIfInBounds_toArray, List.set_cons_zero, List.set_cons_succ, i64_w, i32_w]
   rfl
  refine pu_ 7 76 HT_ ?_
  refine done_ (done_of HT_.out (by kernel_rfl)) ?_
  try go_wp2
  go_ret
  exact ⟨er_, bl_⟩
 rw [if_pos c13] at H
 have c13b0 : (((rd_T69 l0 x5_1).f4).toList == t114.toList) = true := beq_iff_eq.mpr c13
 have c13b1 : (((rd_T69 l0 x5_1).f4).toList != t114.toList) = false := bne_eq_false_iff_eq.mpr c13
 clear c13
 have H' := Aside0.mk H
 clear H
 have p106 : 0 ≤ (x5_1 : Int) := of_decide_eq_true as_
 have q106 : x5_1 < (l0.length : Int) := of_decide_eq_true as_
 obtain ⟨ad106, A106_5, c106_5, e106, hx106_0, hx106_1, hx106_2, hx106_3, hx106_4, hx106_5, hx106_6, hl106_5, hi106_5⟩ := at_T69 HR0.out x5_1 p106 q106
 cases e106
 replace hx106_0 := (HB.out.cell (World.block_lt_of_cell? w _ hx106_0)).trans hx106_0
 replace hx106_1 := (HB.out.cell (World.block_lt_of_cell? w _ hx106_1)).trans hx106_1
 replace hx106_2 := (HB.out.cell (World.block_lt_of_cell? w _ hx106_2)).trans hx106_2
 replace hx106_3 := (HB.out.cell (World.block_lt_of_cell? w _ hx106_3)).trans hx106_3
 replace hx106_4 := (HB.out.cell (World.block_lt_of_cell? w _ hx106_4)).trans hx106_4
 replace hx106_5 := (HB.out.cell (World.block_lt_of_cell? w _ hx106_5)).trans hx106_5
 replace hx106_6 := (HB.out.cell (World.block_lt_of_cell? w _ hx106_6)).trans hx106_6
 have HR106_5 := Aside0.mk hi106_5
 have HC106_5 := Aside0.mk hl106_5
 clear hi106_5 hl106_5
 replace p106 := eq_true p106
 replace q106 := eq_true q106
 have p107 : 0 ≤ (x5_1 : Int) := of_decide_eq_true as_
 have q107 : x5_1 < (l0.length : Int) := of_decide_eq_true as_
 obtain ⟨ad107, A107_5, c107_5, e107, hx107_0, hx107_1, hx107_2, hx107_3, hx107_4, hx107_5, hx107_6, hl107_5, hi107_5⟩ := at_T69 HR0.out x5_1 p107 q107
 obtain rfl : ad106 = ad107 := (by injection e107)
 replace hx107_0 := (HB.out.cell (World.block_lt_of_cell? w _ hx107_0)).trans hx107_0
 replace hx107_1 := (HB.out.cell (World.block_lt_of_cell? w _ hx107_1)).trans hx107_1
 replace hx107_2 := (HB.out.cell (World.block_lt_of_cell? w _ hx107_2)).trans hx107_2
 replace hx107_3 := (HB.out.cell (World.block_lt_of_cell? w _ hx107_3)).trans hx107_3
 replace hx107_4 := (HB.out.cell (World.block_lt_of_cell? w _ hx107_4)).trans hx107_4
 replace hx107_5 := (HB.out.cell (World.block_lt_of_cell? w _ hx107_5)).trans hx107_5
 replace hx107_6 := (HB.out.cell (World.block_lt_of_cell? w _ hx107_6)).trans hx107_6
 have HR107_5 := Aside0.mk hi107_5
 have HC107_5 := Aside0.mk hl107_5
 clear hi107_5 hl107_5
 replace p107 := eq_true p107
 replace q107 := eq_true q107
 have ea_ := Option.some.inj (hx106_5.symm.trans hx107_5)
 injection ea_ with ea_ en_ ec_
 subst ea_
 subst ec_
 clear en_
 have p108 : 0 ≤ (x5_1 : Int) := of_decide_eq_true as_
 have q108 : x5_1 < (l0.length : Int) := of_decide_eq_true as_
 obtain ⟨ad108, A108_5, c108_5, e108, hx108_0, hx108_1, hx108_2, hx108_3, hx108_4, hx108_5, hx108_6, hl108_5, hi108_5⟩ := at_T69 HR0.out x5_1 p108 q108
 obtain rfl : ad106 = ad108 := (by injection e108)
 replace hx108_0 := (HB.out.cell (World.block_lt_of_cell? w _ hx108_0)).trans hx108_0
 replace hx108_1 := (HB.out.cell (World.block_lt_of_cell? w _ hx108_1)).trans hx108_1
 replace hx108_2 := (HB.out.cell (World.block_lt_of_cell? w _ hx108_2)).trans hx108_2
 replace hx108_3 := (HB.out.cell (World.block_lt_of_cell? w _ hx108_3)).trans hx108_3
 replace hx108_4 := (HB.out.cell (World.block_lt_of_cell? w _ hx108_4)).trans hx108_4
 replace hx108_5 := (HB.out.cell (World.block_lt_of_cell? w _ hx108_5)).trans hx108_5
 replace hx108_6 := (HB.out.cell (World.block_lt_of_cell? w _ hx108_6)).trans hx108_6
 have HR108_5 := Aside0.mk hi108_5
 have HC108_5 := Aside0.mk hl108_5
 clear hi108_5 hl108_5
 replace p108 := eq_true p108
 replace q108 := eq_true q108
 have ea_ := Option.some.inj (hx106_5.symm.trans hx108_5)
 injection ea_ with ea_ en_ ec_
 subst ea_
 subst ec_
 clear en_
 have p109 : 0 ≤ (x5_1 : Int) := of_decide_eq_true as_
 have q109 : x5_1 < (l0.length : Int) := of_decide_eq_true as_
 obtain ⟨ad109, A109_5, c109_5, e109, hx109_0, hx109_1, hx109_2, hx109_3, hx109_4, hx109_5, hx109_6, hl109_5, hi109_5⟩ := at_T69 HR0.out x5_1 p109 q109
 obtain rfl : ad106 = ad109 := (by injection e109)
 replace hx109_0 := (HB.out.cell (World.block_lt_of_cell? w _ hx109_0)).trans hx109_0
 replace hx109_1 := (HB.out.cell (World.block_lt_of_cell? w _ hx109_1)).trans hx109_1
 replace hx109_2 := (HB.out.cell (World.block_lt_of_cell? w _ hx109_2)).trans hx109_2
 replace hx109_3 := (HB.out.cell (World.block_lt_of_cell? w _ hx109_3)).trans hx109_3
 replace hx109_4 := (HB.out.cell (World.block_lt_of_cell? w _ hx109_4)).trans hx109_4
 replace hx109_5 := (HB.out.cell (World.block_lt_of_cell? w _ hx109_5)).trans hx109_5
 replace hx109_6 := (HB.out.cell (World.block_lt_of_cell? w _ hx109_6)).trans hx109_6
 have HR109_5 := Aside0.mk hi109_5
 have HC109_5 := Aside0.mk hl109_5
 clear hi109_5 hl109_5
 replace p109 := eq_true p109
 replace q109 := eq_true q109
 have ea_ := Option.some.inj (hx106_5.symm.trans hx109_5)
 injection ea_ with ea_ en_ ec_
 subst ea_
 subst ec_
 clear en_
 have p110 : 0 ≤ (x5_1 : Int) := of_decide_eq_true as_
 have q110 : x5_1 < (l0.length : Int) := of_decide_eq_true as_
 obtain ⟨ad110, A110_5, c110_5, e110, hx110_0, hx110_1, hx110_2, hx110_3, hx110_4, hx110_5, hx110_6, hl110_5, hi110_5⟩ := at_T69 HR0.out x5_1 p110 q110
 obtain rfl : ad106 = ad110 := (by injection e110)
 replace hx110_0 := (HB.out.cell (World.block_lt_of_cell? w _ hx110_0)).trans hx110_0
 replace hx110_1 := (HB.out.cell (World.block_lt_of_cell? w _ hx110_1)).trans hx110_1
 replace hx110_2 := (HB.out.cell (World.block_lt_of_cell? w _ hx110_2)).trans hx110_2
 replace hx110_3 := (HB.out.cell (World.block_lt_of_cell? w _ hx110_3)).trans hx110_3
 replace hx110_4 := (HB.out.cell (World.block_lt_of_cell? w _ hx110_4)).trans hx110_4
 replace hx110_5 := (HB.out.cell (World.block_lt_of_cell? w _ hx110_5)).trans hx110_5
 replace hx110_6 := (HB.out.cell (World.block_lt_of_cell? w _ hx110_6)).trans hx110_6
 have HR110_5 := Aside0.mk hi110_5
 have HC110_5 := Aside0.mk hl110_5
 clear hi110_5 hl110_5
 replace p110 := eq_true p110
 replace q110 := eq_true q110
 have ea_ := Option.some.inj (hx106_5.symm.trans hx110_5)
 injection ea_ with ea_ en_ ec_
 subst ea_
 subst ec_
 clear en_
 have p111 : 0 ≤ (x5_1 : Int) := of_decide_eq_true as_
 have q111 : x5_1 < (l0.length : Int) := of_decide_eq_true as_
 obtain ⟨ad111, A111_5, c111_5, e111, hx111_0, hx111_1, hx111_2, hx111_3, hx111_4, hx111_5, hx111_6, hl111_5, hi111_5⟩ := at_T69 HR0.out x5_1 p111 q111
 obtain rfl : ad106 = ad111 := (by injection e111)
 replace hx111_0 := (HB.out.cell (World.block_lt_of_cell? w _ hx111_0)).trans hx111_0
 replace hx111_1 := (HB.out.cell (World.block_lt_of_cell? w _ hx111_1)).trans hx111_1
 replace hx111_2 := (HB.out.cell (World.block_lt_of_cell? w _ hx111_2)).trans hx111_2
 replace hx111_3 := (HB.out.cell (World.block_lt_of_cell? w _ hx111_3)).trans hx111_3
 replace hx111_4 := (HB.out.cell (World.block_lt_of_cell? w _ hx111_4)).trans hx111_4
 replace hx111_5 := (HB.out.cell (World.block_lt_of_cell? w _ hx111_5)).trans hx111_5
 replace hx111_6 := (HB.out.cell (World.block_lt_of_cell? w _ hx111_6)).trans hx111_6
 have HR111_5 := Aside0.mk hi111_5
 have HC111_5 := Aside0.mk hl111_5
 clear hi111_5 hl111_5
 replace p111 := eq_true p111
 replace q111 := eq_true q111
 have ea_ := Option.some.inj (hx106_5.symm.trans hx111_5)
 injection ea_ with ea_ en_ ec_
 subst ea_
 subst ec_
 clear en_
 try go_wp2_with (first | ((with_reducible refine gate_callee (f := 51) rfl ?_); refine gs_ (some 66) Try.func51 #[.slice A106_5 ((rd_T69 l0 x5_1).f3.f2).length c106_5, .int .i64 (wrap64 ((wrap64 ((wrap64 ((wrap64 ((wrap64 (x1_1 + 1)) + 1)) + 1)) + 1)) + 1))] ?_; (with_reducible refine (laws_heldWideS.calls k1 _ _ ((rd_T69 l0 x5_1).f3.f2) (wrap64 ((wrap64 ((wrap64 ((wrap64 ((wrap64 (x1_1 + 1)) + 1)) + 1)) + 1)) + 1)) t112 _ ?side1 ?side2 A10.out).mono ?_); (case side1 => exact cb_ HR111_5.out HB.out); (case side2 => exact HC111_5.out); rintro e w' ⟨rfl, ⟨nd, rfl⟩⟩; refine ⟨_, rfl, ?_⟩))
 (try (rw [drewN_self wr]; generalize hq_ : World.drewN wr _ = wr; have n0_ : Aside0 (Below w.heap.size w wr) := ⟨by rw [← hq_]; exact bl_⟩; clear HB hq_; have HB := n0_; clear n0_))
 have n0_ := Aside0.mk (below_drew1 HB.out)
 clear HB
 have HB := n0_
 clear n0_
 have p113 : 0 ≤ (x5_1 : Int) := of_decide_eq_true as_
 have q113 : x5_1 < (l0.length : Int) := of_decide_eq_true as_
 obtain ⟨ad113, A113_5, c113_5, e113, hx113_0, hx113_1, hx113_2, hx113_3, hx113_4, hx113_5, hx113_6, hl113_5, hi113_5⟩ := at_T69 HR0.out x5_1 p113 q113
 have hw113_6 := hx113_6
 have hw113_5 := hx113_5
 have hw113_4 := hx113_4
 have hw113_3 := hx113_3
 have hw113_2 := hx113_2
 have hw113_1 := hx113_1
 have hw113_0 := hx113_0
 obtain rfl : ad106 = ad113 := (by injection e113)
 replace hx113_0 := (HB.out.cell (World.block_lt_of_cell? w _ hx113_0)).trans hx113_0
 replace hx113_1 := (HB.out.cell (World.block_lt_of_cell? w _ hx113_1)).trans hx113_1
 replace hx113_2 := (HB.out.cell (World.block_lt_of_cell? w _ hx113_2)).trans hx113_2
 replace hx113_3 := (HB.out.cell (World.block_lt_of_cell? w _ hx113_3)).trans hx113_3
 replace hx113_4 := (HB.out.cell (World.block_lt_of_cell? w _ hx113_4)).trans hx113_4
 replace hx113_5 := (HB.out.cell (World.block_lt_of_cell? w _ hx113_5)).trans hx113_5
 replace hx113_6 := (HB.out.cell (World.block_lt_of_cell? w _ hx113_6)).trans hx113_6
 have HR113_5 := Aside0.mk hi113_5
 have HC113_5 := Aside0.mk hl113_5
 clear hi113_5 hl113_5
 replace p113 := eq_true p113
 replace q113 := eq_true q113
 refine start_ (n := 8) (S := fun w' => w'.cell? (ad106.add ((x5_1).toNat * 7)) = some (.int .i64 ((rd_T69 l0 x5_1).f0)) ∧ w'.cell? ⟨(ad106.add ((x5_1).toNat * 7)).block, (ad106.add ((x5_1).toNat * 7)).off + 1, none⟩ = some (.int .i64 ((rd_T69 l0 x5_1).f1)) ∧ w'.cell? ⟨(ad106.add ((x5_1).toNat * 7)).block, (ad106.add ((x5_1).toNat * 7)).off + 2, none⟩ = some (.int .i64 ((rd_T69 l0 x5_1).f2)) ∧ w'.cell? ⟨(ad106.add ((x5_1).toNat * 7)).block, (ad106.add ((x5_1).toNat * 7)).off + 3, none⟩ = some (.int .i64 ((rd_T69 l0 x5_1).f3.f0)) ∧ w'.cell? ⟨(ad106.add ((x5_1).toNat * 7)).block, (ad106.add ((x5_1).toNat * 7)).off + 4, none⟩ = some (.int .i64 ((rd_T69 l0 x5_1).f3.f1)) ∧ w'.cell? ⟨(ad106.add ((x5_1).toNat * 7)).block, (ad106.add ((x5_1).toNat * 7)).off + 5, none⟩ = some (.slice A113_5 ((rd_T69 l0 x5_1).f3.f2).length c113_5) ∧ w'.cell? ⟨(ad106.add ((x5_1).toNat * 7)).block, (ad106.add ((x5_1).toNat * 7)).off + 6, none⟩ = some (.string ((rd_T69 l0 x5_1).f4))) (ds := []) #[false, false, false, false, false, false, false, false] (by kernel_rfl) rfl rfl ⟨((HB.out.cell (World.block_lt_of_cell? w _ hw113_0)).trans hw113_0), ((HB.out.cell (World.block_lt_of_cell? w _ hw113_1)).trans hw113_1), ((HB.out.cell (World.block_lt_of_cell? w _ hw113_2)).trans hw113_2), ((HB.out.cell (World.block_lt_of_cell? w _ hw113_3)).trans hw113_3), ((HB.out.cell (World.block_lt_of_cell? w _ hw113_4)).trans hw113_4), ((HB.out.cell (World.block_lt_of_cell? w _ hw113_5)).trans hw113_5), ((HB.out.cell (World.block_lt_of_cell? w _ hw113_6)).trans hw113_6)⟩ (fun hHeld => ?_); refine with_tabW laws_heldEventS.tab22 laws_heldEventS.bits22 (fun HT_ HW_ => ?_)
 generalize wr.drew = w14 at HB HR113_5 hx113_0 hx113_1 hx113_2 hx113_3 hx113_4 hx113_5 hx113_6 hHeld ⊢
 refine pu_ 0 69 HT_ ?_
 refine pu_ 1 70 HT_ ?_
 refine pu_ 2 71 HT_ ?_
 refine pu_ 3 72 HT_ ?_
 refine pu_ 5 74 HT_ ?_
 refine ta_ 4 73 HT_ HW_ hHeld ?_ (r := by rintro w' ⟨s0, s1, s2, s3, s4, s5, s6⟩; go_simp; with_reducible rfl)
 refine on_ 6 75 HT_ (fun K hK => ?_)
 refine goes_ Try.func50 (by kernel_rfl) rfl #[.int .i64 t112] (by rfl) rfl rfl lm_ ?_
 with_reducible refine (laws_markText.calls k1 t112 t114 _ A12.out).mono ?_
 rintro e w15 ⟨rfl, hb⟩
 refine ⟨_, rfl, ?_⟩
 have n0_ := Aside0.mk (below_step bl_ hb)
 clear HB
 have HB := n0_
 clear n0_
 (try clear hb)
 (try clear hb2)
 (try clear hk)
 (try clear hi)
 refine hK.out _ _ ⟨((HB.out.cell (World.block_lt_of_cell? w _ hw113_0)).trans hw113_0), ((HB.out.cell (World.block_lt_of_cell? w _ hw113_1)).trans hw113_1), ((HB.out.cell (World.block_lt_of_cell? w _ hw113_2)).trans hw113_2), ((HB.out.cell (World.block_lt_of_cell? w _ hw113_3)).trans hw113_3), ((HB.out.cell (World.block_lt_of_cell? w _ hw113_4)).trans hw113_4), ((HB.out.cell (World.block_lt_of_cell? w _ hw113_5)).trans hw113_5), ((HB.out.cell (World.block_lt_of_cell? w _ hw113_6)).trans hw113_6)⟩ (fun hHeld => ?_)
 clear hK K
 refine norm_ (a' := ?_) ?_ ?_
 rotate_left
 ·show Act.put _ (some 75) _ = _
  simp only [Act.put, List.setIfInBounds_toArray, List.set_cons_zero, List.set_cons_succ, i64_w, i32_w]
  rfl
 refine pu_ 7 76 HT_ ?_
 refine done_ (done_of HT_.out (by kernel_rfl)) ?_
 try go_wp2
 go_roundg k1
 case measure => have := HK1.out; omega
 case rel => exact ⟨(wrap64 (t112 + 1)), (wrap64 (x5_1 + 1)), (sr_), (sr_), H', ⟨by have := HK1.out; omega⟩, ⟨bl_⟩⟩


def spec_l30Lines.l0 : Nat → ByteArray → List ByteArray → Int → Int → Option (List ByteArray)
 | 0, _, _, _, _ => none
 | k + 1, x0, x3, x4, x5 => if x5 < (x0.size : Int) then (if 0 ≤ x5 then (if (bt x0 x5) = 10 then (if 0 ≤ x4 then (if x4 ≤ x5 then (if x5 ≤ (x0.size : Int) then (if x3.length < 8796093022208 then (spec_l30Lines.l0 k x0 (x3 ++ [x0.extract (x4 : Int).toNat (x5 : Int).toNat]) (wrap64 (x5 + 1)) (wrap64 (x5 + 1))) else (none)) else (none)) else (none)) else (none)) else (spec_l30Lines.l0 k x0 x3 x4 (wrap64 (x5 + 1)))) else (none)) else (if x4 < (x0.size : Int) then (if 0 ≤ x4 then (if x4 ≤ (x0.size : Int) then (if x3.length < 8796093022208 then (some (x3 ++ [x0.extract (x4 : Int).toNat x0.size])) else (none)) else (none)) else (none)) else (some x3))
def spec_l30Lines.f (k : Nat) (a0 : ByteArray) : Option (List ByteArray) := spec_l30Lines.l0 k a0 (([] : List ByteArray)) 0 0
theorem spec_l30Lines.mono_l : ∀ k, (∀ y0 y1 y2 y3, LeO (spec_l30Lines.l0 k y0 y1 y2 y3) (spec_l30Lines.l0 (k + 1) y0 y1 y2 y3))
 | 0 => fun _ _ _ _ r h => by simp [spec_l30Lines.l0] at h
 | k + 1 => by
  have ih0 := spec_l30Lines.mono_l k
  ·intro y0 y1 y2 y3
   unfold spec_l30Lines.l0
   exact mo_
theorem spec_l30Lines.mono : ∀ a0 k, LeO (spec_l30Lines.f k a0) (spec_l30Lines.f (k + 1) a0) := by
 intro a0 k
 have ih0 := spec_l30Lines.mono_l k
 unfold spec_l30Lines.f
 exact mo_
theorem spec_l30Lines.calls (k : Nat) (a0 : ByteArray) (r : List ByteArray) (w : World) (h : spec_l30Lines.f k a0 = some r) :
 Calls Try.prog 39 #[.string a0] w fun e w' => ∃ v0_ : Value, e = .returned (v0_) ∧ Kd.R Kd.string 9 w' w.heap.size (fun _ => True) v0_ r ∧ Below w.heap.size w w' := by
 have HB := Aside0.mk (Below.refl w.heap.size w)
 have H := h
 unfold spec_l30Lines.f at H
 clear h
 obtain ⟨y115, hy115⟩ : ∃ y_ : List ByteArray, y_ = (([] : List ByteArray)) := ⟨_, rfl⟩
 replace H : (spec_l30Lines.l0 k a0 y115 0 0) = some r := rp_ H hy115
 have Ny115 := Aside0.mk hy115
 clear hy115
 have H' := Aside0.mk H
 clear H
 go_enter Try.func39, Try.ntmps39
 go_wp2_with (first | ((with_reducible refine gate_dst (N := 6) rfl ?_); refine Kd.R_lit Kd.string _ 9 ?hg (N := 6) ?hd (xs := ([] : List ByteArray)) (inner := []) (ok := fun _ => True) (okp := fun _ => True) ?hr ?hp (fun _ hk => hk) trivial (Below.refl _ _) (Nat.le_refl _) (by simp) ?_; (case hd => rfl); (case hg => rfl); (case hr => first | (go_simp; done) | (go_simp; rfl)); (case hp => exact (Reps.none _ _)); intro v116 w2 ho3 hb hg_ hnew_; clear hg_ hnew_; (first | rw [← Ny115.out] at ho3 | (simp only [Int.reduceToNat] at ho3; rw [← Ny115.out] at ho3)); have HO117 := Aside0.mk (Kd.R_lower ho3 (below_size bl_)); replace HB := Aside0.mk (below_step bl_ hb); clear hb ho3))
 go_loopg [3, 4, 5] k (fun kq v3 v4 v5 w' => ∃ (x3_1 : List ByteArray) (x4_1 : Int) (x5_1 : Int), v4 = .int .i64 x4_1 ∧ v5 = .int .i64 x5_1 ∧ Aside0 (spec_l30Lines.l0 kq a0 x3_1 x4_1 x5_1 = some r) ∧ Aside0 (kq ≤ k) ∧ Aside0 (Kd.R Kd.string 9 w' w.heap.size (fun _ => True) v3 x3_1) ∧ Aside0 (Below w.heap.size w w'))
 case atStart => exact ⟨(y115), (0), (0), (sr_), (sr_), H', ⟨Nat.le_refl _⟩, ⟨ra_ HO117.out⟩, ⟨bl_⟩⟩
 clear H'
 obtain ⟨x3_1, x4_1, x5_1, rfl, rfl, HA, HK1, HO_3, HB⟩ := hrel
 cases gk with
 | zero => exact absurd HA.out (by simp [spec_l30Lines.l0])
 | succ k1 => ?_
 have H := HA.out
 clear HA
 simp only [spec_l30Lines.l0] at H
 by_cases c4 : x5_1 < (a0.size : Int)
 rotate_left
 ·rw [if_neg c4] at H
  have c4b0 := decide_eq_false c4
  clear c4
  by_cases c13 : x4_1 < (a0.size : Int)
  rotate_left
  ·rw [if_neg c13] at H
   have c13b0 := decide_eq_false c13
   clear c13
   obtain rfl := Option.some.inj H
   go_wp2
   go_ret
   exact ⟨_, er_, ra_ HO_3.out, bl_⟩
  rw [if_pos c13] at H
  have c13b0 := decide_eq_true c13
  clear c13
  by_cases c14 : 0 ≤ x4_1
  rotate_left
  ·exact nn_ c14 H
  rw [if_pos c14] at H
  have c14b0 := eq_true c14
  have c14b1 : decide (0 ≤ x4_1) = true := decide_eq_true c14
  clear c14
  by_cases c15 : x4_1 ≤ (a0.size : Int)
  rotate_left
  ·exact nn_ c15 H
  rw [if_pos c15] at H
  have c15b0 := eq_true c15
  have c15b1 : decide (x4_1 ≤ (a0.size : Int)) = true := decide_eq_true c15
  clear c15
  by_cases c16 : x3_1.length < 8796093022208
  rotate_left
  ·exact nn_ c16 H
  rw [if_pos c16] at H
  have LMc16 := Aside0.mk c16
  clear c16
  obtain ⟨y121, hy121⟩ : ∃ y_ : List ByteArray, y_ = (x3_1 ++ [a0.extract (x4_1 : Int).toNat a0.size]) := ⟨_, rfl⟩
  replace H : (some y121) = some r := rp_ H hy121
  have Ny121 := Aside0.mk hy121
  clear hy121
  obtain rfl := Option.some.inj H
  go_wp2_with (first | ((with_reducible refine gate_builtin (b := .append) (xs := #[.tmp 30, .tmp 34]) rfl ?_); at_builtin; refine Kd.R_append Kd.string (w0 := w) w.heap.size rfl (.tmp 30) (.tmp 34) 62 9 (.string ⟨#[]⟩) 16 rfl Try.underlying62 info9 rfl (by decide) (by omega) u3 x3_1 (a0.extract (x4_1 : Int).toNat a0.size) [.string (a0.extract (x4_1 : Int).toNat a0.size)] (fun _ => True) (fun _ => False) rfl rfl ?aP (fun _ hk => hk.elim) ?aF ?aO ?aB ?aS ?aL ?_; (case aP => exact rfl); (case aB => exact bl_); (case aF => exact (fun _ _ => trivial)); (case aO => exact (ra_ HO_3.out)); (case aS => exact (below_size bl_)); (case aL => have := LMc16.out; omega); intro v122 w17 ho hb hg hat; rw [← Ny121.out] at ho; replace HB := Aside0.mk (hb); have HO123 := Aside0.mk (ho); clear HO_3; clear ho hb hg hat))
  go_ret
  exact ⟨_, er_, ra_ HO123.out, bl_⟩
 rw [if_pos c4] at H
 have c4b0 := decide_eq_true c4
 clear c4
 by_cases c5 : 0 ≤ x5_1
 rotate_left
 ·exact nn_ c5 H
 rw [if_pos c5] at H
 have c5b0 := decide_eq_true c5
 clear c5
 by_cases c7 : (bt a0 x5_1) = 10
 rotate_left
 ·rw [if_neg c7] at H
  have c7b0 : ((bt a0 x5_1) == 10) = false := beq_eq_false_iff_ne.mpr c7
  have c7b1 : ((bt a0 x5_1) != 10) = true := bne_iff_ne.mpr c7
  have H' := Aside0.mk H
  clear H
  have p6 : 0 ≤ (x5_1 : Int) := of_decide_eq_true as_
  have q6 : x5_1 < (a0.size : Int) := of_decide_eq_true as_
  have hx6 := bt_at a0 x5_1
  replace p6 := eq_true p6
  replace q6 := eq_true q6
  go_wp2
  go_roundg k1
  case measure => have := HK1.out; omega
  case rel => exact ⟨(x3_1), (x4_1), (wrap64 (x5_1 + 1)), (sr_), (sr_), H', ⟨by have := HK1.out; omega⟩, ⟨ra_ HO_3.out⟩, ⟨bl_⟩⟩
 rw [if_pos c7] at H
 have c7b0 : ((bt a0 x5_1) == 10) = true := beq_iff_eq.mpr c7
 have c7b1 : ((bt a0 x5_1) != 10) = false := bne_eq_false_iff_eq.mpr c7
 clear c7
 by_cases c8 : 0 ≤ x4_1
 rotate_left
 ·exact nn_ c8 H
 rw [if_pos c8] at H
 have c8b0 := eq_true c8
 have c8b1 : decide (0 ≤ x4_1) = true := decide_eq_true c8
 clear c8
 by_cases c9 : x4_1 ≤ x5_1
 rotate_left
 ·exact nn_ c9 H
 rw [if_pos c9] at H
 have c9b0 := eq_true c9
 have c9b1 : decide (x4_1 ≤ x5_1) = true := decide_eq_true c9
 clear c9
 by_cases c10 : x5_1 ≤ (a0.size : Int)
 rotate_left
 ·exact nn_ c10 H
 rw [if_pos c10] at H
 have c10b0 := eq_true c10
 have c10b1 : decide (x5_1 ≤ (a0.size : Int)) = true := decide_eq_true c10
 clear c10
 by_cases c11 : x3_1.length < 8796093022208
 rotate_left
 ·exact nn_ c11 H
 rw [if_pos c11] at H
 have LMc11 := Aside0.mk c11
 clear c11
 obtain ⟨y118, hy118⟩ : ∃ y_ : List ByteArray, y_ = (x3_1 ++ [a0.extract (x4_1 : Int).toNat (x5_1 : Int).toNat]) := ⟨_, rfl⟩
 replace H : (spec_l30Lines.l0 k1 a0 y118 (wrap64 (x5_1 + 1)) (wrap64 (x5_1 + 1))) = some r := rp_ H hy118
 have Ny118 := Aside0.mk hy118
 clear hy118
 have H' := Aside0.mk H
 clear H
 have p6 : 0 ≤ (x5_1 : Int) := of_decide_eq_true as_
 have q6 : x5_1 < (a0.size : Int) := of_decide_eq_true as_
 have hx6 := bt_at a0 x5_1
 replace p6 := eq_true p6
 replace q6 := eq_true q6
 go_wp2_with (first | ((with_reducible refine gate_builtin (b := .append) (xs := #[.tmp 17, .tmp 22]) rfl ?_); at_builtin; refine Kd.R_append Kd.string (w0 := w) w.heap.size rfl (.tmp 17) (.tmp 22) 62 9 (.string ⟨#[]⟩) 16 rfl Try.underlying62 info9 rfl (by decide) (by omega) u3 x3_1 (a0.extract (x4_1 : Int).toNat (x5_1 : Int).toNat) [.string (a0.extract (x4_1 : Int).toNat (x5_1 : Int).toNat)] (fun _ => True) (fun _ => False) rfl rfl ?aP (fun _ hk => hk.elim) ?aF ?aO ?aB ?aS ?aL ?_; (case aP => exact rfl); (case aB => exact bl_); (case aF => exact (fun _ _ => trivial)); (case aO => exact (ra_ HO_3.out)); (case aS => exact (below_size bl_)); (case aL => have := LMc11.out; omega); intro v119 w12 ho hb hg hat; rw [← Ny118.out] at ho; replace HB := Aside0.mk (hb); have HO120 := Aside0.mk (ho); clear HO_3; clear ho hb hg hat))
 go_roundg k1
 case measure => have := HK1.out; omega
 case rel => exact ⟨(y118), (wrap64 (x5_1 + 1)), (wrap64 (x5_1 + 1)), (sr_), (sr_), H', ⟨by have := HK1.out; omega⟩, ⟨ra_ HO120.out⟩, ⟨bl_⟩⟩


mutual
def spec_PartsOf.l0 : Nat → ByteArray → List ByteArray → Int → Int → Option (List ByteArray × Bool)
 | 0, _, _, _, _ => none
 | k + 1, x0, x4, x5, x6 => if x6 ≤ (x0.size : Int) then (if x6 < (x0.size : Int) then (if 0 ≤ x6 then (if (bt x0 x6) < 32 then (spec_PartsOf.j1 k x0 x4 x5 x6 true) else (spec_PartsOf.j1 k x0 x4 x5 x6 (decide ((bt x0 x6) > 126)))) else (none)) else (spec_PartsOf.j1 k x0 x4 x5 x6 false)) else (if (x4.length : Int) > 10 then (some ((([] : List ByteArray)), false)) else (some (x4, true)))
def spec_PartsOf.j1 : Nat → ByteArray → List ByteArray → Int → Int → Bool → Option (List ByteArray × Bool)
 | 0, _, _, _, _, _ => none
 | k + 1, x0, x4, x5, x6, x33 => if x33 = true then (some ((([] : List ByteArray)), false)) else (if x6 < (x0.size : Int) then (if 0 ≤ x6 then (spec_PartsOf.j2 k x0 x4 x5 x6 ((bt x0 x6) != 32)) else (none)) else (spec_PartsOf.j2 k x0 x4 x5 x6 false))
def spec_PartsOf.j2 : Nat → ByteArray → List ByteArray → Int → Int → Bool → Option (List ByteArray × Bool)
 | 0, _, _, _, _, _ => none
 | k + 1, x0, x4, x5, x6, x44 => if x44 = true then (spec_PartsOf.l0 k x0 x4 x5 (wrap64 (x6 + 1))) else (if x5 < x6 then (if 0 ≤ x5 then (if x5 ≤ x6 then (if x6 ≤ (x0.size : Int) then (if x4.length < 8796093022208 then (spec_PartsOf.l0 k x0 (x4 ++ [x0.extract (x5 : Int).toNat (x6 : Int).toNat]) (wrap64 (x6 + 1)) (wrap64 (x6 + 1))) else (none)) else (none)) else (none)) else (none)) else (spec_PartsOf.l0 k x0 x4 (wrap64 (x6 + 1)) (wrap64 (x6 + 1))))
end
def spec_PartsOf.f (k : Nat) (a0 : ByteArray) : Option (List ByteArray × Bool) := (some (([] : List ByteArray) : List ByteArray)).bind fun y124 => (if (a0.size : Int) > 600 then (some (y124, false)) else (spec_PartsOf.l0 k a0 y124 0 0))
theorem spec_PartsOf.mono_l : ∀ k, (∀ y0 y1 y2 y3, LeO (spec_PartsOf.l0 k y0 y1 y2 y3) (spec_PartsOf.l0 (k + 1) y0 y1 y2 y3)) ∧ (∀ y0 y1 y2 y3 y4, LeO (spec_PartsOf.j1 k y0 y1 y2 y3 y4) (spec_PartsOf.j1 (k + 1) y0 y1 y2 y3 y4)) ∧ (∀ y0 y1 y2 y3 y4, LeO (spec_PartsOf.j2 k y0 y1 y2 y3 y4) (spec_PartsOf.j2 (k + 1) y0 y1 y2 y3 y4))
 | 0 => ⟨fun _ _ _ _ r h => by simp [spec_PartsOf.l0] at h, fun _ _ _ _ _ r h => by simp [spec_PartsOf.j1] at h, fun _ _ _ _ _ r h => by simp [spec_PartsOf.j2] at h⟩
 | k + 1 => by
  obtain ⟨ih0, ih1, ih2⟩ := spec_PartsOf.mono_l k
  refine ⟨?_, ?_, ?_⟩
  ·intro y0 y1 y2 y3
   unfold spec_PartsOf.l0
   exact mo_
  ·intro y0 y1 y2 y3 y4
   unfold spec_PartsOf.j1
   exact mo_
  ·intro y0 y1 y2 y3 y4
   unfold spec_PartsOf.j2
   exact mo_
theorem spec_PartsOf.mono : ∀ a0 k, LeO (spec_PartsOf.f k a0) (spec_PartsOf.f (k + 1) a0) := by
 intro a0 k
 obtain ⟨ih0, ih1, ih2⟩ := spec_PartsOf.mono_l k
 unfold spec_PartsOf.f
 exact mo_
theorem spec_PartsOf.calls (k : Nat) (a0 : ByteArray) (r1 : List ByteArray) (r2 : Bool) (w : World) (h : spec_PartsOf.f k a0 = some (r1, r2)) :
 Calls Try.prog 40 #[.string a0] w fun e w' => ∃ v0_ : Value, e = .returned (.tuple #[v0_, .bool r2]) ∧ Kd.R Kd.string 9 w' w.heap.size (fun _ => True) v0_ r1 ∧ Below w.heap.size w w' := by
 have HB := Aside0.mk (Below.refl w.heap.size w)
 have H := h
 unfold spec_PartsOf.f at H
 clear h
 obtain ⟨y124, hy124⟩ : ∃ y_ : List ByteArray, y_ = (([] : List ByteArray)) := ⟨_, rfl⟩
 replace H : (if (a0.size : Int) > 600 then (some (y124, false)) else (spec_PartsOf.l0 k a0 y124 0 0)) = some (r1, r2) := rp_ H hy124
 have Ny124 := Aside0.mk hy124
 clear hy124
 by_cases c2 : (a0.size : Int) > 600
 ·rw [if_pos c2] at H
  have c2b0 := decide_eq_true c2
  have c2b1 : decide (600 < a0.size) = true := decide_eq_true (by omega)
  clear c2
  simp only [Option.some.injEq, Prod.mk.injEq] at H
  obtain ⟨rfl, rfl⟩ := H
  go_enter Try.func40, Try.ntmps40
  go_wp2_with (first | ((with_reducible refine gate_dst (N := 7) rfl ?_); refine Kd.R_lit Kd.string _ 9 ?hg (N := 7) ?hd (xs := ([] : List ByteArray)) (inner := []) (ok := fun _ => True) (okp := fun _ => True) ?hr ?hp (fun _ hk => hk) trivial (Below.refl _ _) (Nat.le_refl _) (by simp) ?_; (case hd => rfl); (case hg => rfl); (case hr => first | (go_simp; done) | (go_simp; rfl)); (case hp => exact (Reps.none _ _)); intro v125 w3 ho4 hb hg_ hnew_; clear hg_ hnew_; (first | rw [← Ny124.out] at ho4 | (simp only [Int.reduceToNat] at ho4; rw [← Ny124.out] at ho4)); have HO126 := Aside0.mk (Kd.R_lower ho4 (below_size bl_)); replace HB := Aside0.mk (below_step bl_ hb); clear hb ho4))
  go_ret2
  exact ⟨_, er_, ra_ HO126.out, bl_⟩
 rw [if_neg c2] at H
 have c2b0 := decide_eq_false c2
 have c2b1 : decide (600 < a0.size) = false := decide_eq_false (by omega)
 clear c2
 have H' := Aside0.mk H
 clear H
 go_enter Try.func40, Try.ntmps40
 go_wp2_with (first | ((with_reducible refine gate_dst (N := 7) rfl ?_); refine Kd.R_lit Kd.string _ 9 ?hg (N := 7) ?hd (xs := ([] : List ByteArray)) (inner := []) (ok := fun _ => True) (okp := fun _ => True) ?hr ?hp (fun _ hk => hk) trivial (Below.refl _ _) (Nat.le_refl _) (by simp) ?_; (case hd => rfl); (case hg => rfl); (case hr => first | (go_simp; done) | (go_simp; rfl)); (case hp => exact (Reps.none _ _)); intro v125 w5 ho6 hb hg_ hnew_; clear hg_ hnew_; (first | rw [← Ny124.out] at ho6 | (simp only [Int.reduceToNat] at ho6; rw [← Ny124.out] at ho6)); have HO126 := Aside0.mk (Kd.R_lower ho6 (below_size bl_)); replace HB := Aside0.mk (below_step bl_ hb); clear hb ho6))
 go_loopg [4, 5, 6] k (fun kq v4 v5 v6 w' => ∃ (x4_1 : List ByteArray) (x5_1 : Int) (x6_1 : Int), v5 = .int .i64 x5_1 ∧ v6 = .int .i64 x6_1 ∧ Aside0 (spec_PartsOf.l0 kq a0 x4_1 x5_1 x6_1 = some (r1, r2)) ∧ Aside0 (kq ≤ k) ∧ Aside0 (Kd.R Kd.string 9 w' w.heap.size (fun _ => True) v4 x4_1) ∧ Aside0 (Below w.heap.size w w'))
 case atStart => exact ⟨(y124), (0), (0), (sr_), (sr_), H', ⟨Nat.le_refl _⟩, ⟨ra_ HO126.out⟩, ⟨bl_⟩⟩
 clear H'
 try clear c2
 try clear c2b0
 try clear c2b1
 obtain ⟨x4_1, x5_1, x6_1, rfl, rfl, HA, HK1, HO_4, HB⟩ := hrel
 cases gk with
 | zero => exact absurd HA.out (by simp [spec_PartsOf.l0])
 | succ k1 => ?_
 have H := HA.out
 clear HA
 simp only [spec_PartsOf.l0] at H
 by_cases c7 : x6_1 ≤ (a0.size : Int)
 rotate_left
 ·rw [if_neg c7] at H
  have c7b0 := decide_eq_false c7
  clear c7
  by_cases c28 : (x4_1.length : Int) > 10
  rotate_left
  ·rw [if_neg c28] at H
   have c28b0 := decide_eq_false c28
   have c28b1 : decide (10 < x4_1.length) = false := decide_eq_false (by omega)
   clear c28
   simp only [Option.some.injEq, Prod.mk.injEq] at H
   obtain ⟨rfl, rfl⟩ := H
   obtain ⟨Ao32, co32, eo32⟩ := Kd.R_slice HO_4.out
   subst eo32
   go_wp2
   go_ret2
   exact ⟨_, er_, ra_ HO_4.out, bl_⟩
  rw [if_pos c28] at H
  have c28b0 := decide_eq_true c28
  have c28b1 : decide (10 < x4_1.length) = true := decide_eq_true (by omega)
  clear c28
  obtain ⟨y127, hy127⟩ : ∃ y_ : List ByteArray, y_ = (([] : List ByteArray)) := ⟨_, rfl⟩
  replace H : (some (y127, false)) = some (r1, r2) := rp_ H hy127
  have Ny127 := Aside0.mk hy127
  clear hy127
  simp only [Option.some.injEq, Prod.mk.injEq] at H
  obtain ⟨rfl, rfl⟩ := H
  obtain ⟨Ao29, co29, eo29⟩ := Kd.R_slice HO_4.out
  subst eo29
  go_wp2_with (first | ((with_reducible refine gate_dst (N := 60) rfl ?_); refine Kd.R_lit Kd.string _ 9 ?hg (N := 60) ?hd (xs := ([] : List ByteArray)) (inner := []) (ok := fun _ => True) (okp := fun _ => True) ?hr ?hp (fun _ hk => hk) trivial (Below.refl _ _) (Nat.le_refl _) (by simp) ?_; (case hd => rfl); (case hg => rfl); (case hr => first | (go_simp; done) | (go_simp; rfl)); (case hp => exact (Reps.none _ _)); intro v128 w30 ho31 hb hg_ hnew_; clear hg_ hnew_; (first | rw [← Ny127.out] at ho31 | (simp only [Int.reduceToNat] at ho31; rw [← Ny127.out] at ho31)); have HO129 := Aside0.mk (Kd.R_lower (Kd.R_new' ho31 (Kd.R_lt (ra_ HO_4.out))) (below_size bl_)); replace HO_4 := Aside0.mk (Kd.R_elder' (ra_ HO_4.out) (Kd.R_base ho31) hb); replace HB := Aside0.mk (below_step bl_ hb); clear hb ho31))
  go_ret2
  exact ⟨_, er_, by (with_reducible repeat (first | apply Kd.R_alloc | apply Kd.R_drewN | apply Kd.R_drew)); exact Kd.R_mono HO129.out (fun _ hk => trivial), bl_⟩
 rw [if_pos c7] at H
 have c7b0 := decide_eq_true c7
 clear c7
 have HC8 := Aside0.mk H
 clear H
 go_upto_region 8 with (fail)
 go_cut [33] (fun v33 wc => ∃ (kq : Nat) (x33_7 : Bool), v33 = .bool x33_7 ∧ Aside0 (spec_PartsOf.j1 kq a0 x4_1 x5_1 x6_1 x33_7 = some (r1, r2)) ∧ Aside0 (kq ≤ k1) ∧ Aside0 (Kd.R Kd.string 9 wc w.heap.size (fun _ => True) u4 x4_1) ∧ Aside0 (Below w.heap.size w wc))
 case first =>
  have H := HC8.out
  clear HC8
  by_cases c9 : x6_1 < (a0.size : Int)
  rotate_left
  ·rw [if_neg c9] at H
   have c9b0 := decide_eq_false c9
   clear c9
   (first | rw [c9b0] | (simp only [i64_w, i32_w]; rw [c9b0]) | skip)
   have H' := Aside0.mk H
   clear H
   go_wp2
   go_meet
   case rel => exact ⟨_, (false), (sr_), H', ⟨by have := HK1.out; first | omega | exact Nat.le_refl _⟩, ⟨ra_ HO_4.out⟩, ⟨bl_⟩⟩
  rw [if_pos c9] at H
  have c9b0 := decide_eq_true c9
  clear c9
  (first | rw [c9b0] | (simp only [i64_w, i32_w]; rw [c9b0]) | skip)
  by_cases c10 : 0 ≤ x6_1
  rotate_left
  ·exact nn_ c10 H
  rw [if_pos c10] at H
  have c10b0 := decide_eq_true c10
  clear c10
  by_cases c12 : (bt a0 x6_1) < 32
  ·rw [if_pos c12] at H
   have c12b0 := decide_eq_true c12
   clear c12
   have H' := Aside0.mk H
   clear H
   have p11 : 0 ≤ (x6_1 : Int) := of_decide_eq_true as_
   have q11 : x6_1 < (a0.size : Int) := of_decide_eq_true as_
   have hx11 := bt_at a0 x6_1
   replace p11 := eq_true p11
   replace q11 := eq_true q11
   go_wp2
   go_meet
   case rel => exact ⟨_, (true), (sr_), H', ⟨by have := HK1.out; first | omega | exact Nat.le_refl _⟩, ⟨ra_ HO_4.out⟩, ⟨bl_⟩⟩
  rw [if_neg c12] at H
  have c12b0 := decide_eq_false c12
  clear c12
  have H' := Aside0.mk H
  clear H
  have p11 : 0 ≤ (x6_1 : Int) := of_decide_eq_true as_
  have q11 : x6_1 < (a0.size : Int) := of_decide_eq_true as_
  have hx11 := bt_at a0 x6_1
  replace p11 := eq_true p11
  replace q11 := eq_true q11
  have p13 : 0 ≤ (x6_1 : Int) := of_decide_eq_true as_
  have q13 : x6_1 < (a0.size : Int) := of_decide_eq_true as_
  have hx13 := bt_at a0 x6_1
  replace p13 := eq_true p13
  replace q13 := eq_true q13
  go_wp2
  go_meet
  case rel => exact ⟨_, (decide ((bt a0 x6_1) > 126)), (sr_), H', ⟨by have := HK1.out; first | omega | exact Nat.le_refl _⟩, ⟨ra_ HO_4.out⟩, ⟨bl_⟩⟩
 clear HC8
 try clear c2
 try clear c2b0
 try clear c2b1
 try clear c7
 try clear c7b0
 obtain ⟨kq, x33_7, rfl, HA, HJ7, HO_4, HB⟩ := hcut
 cases kq with
 | zero => exact absurd HA.out (by simp [spec_PartsOf.j1])
 | succ kj7 => ?_
 have H := HA.out
 clear HA
 simp only [spec_PartsOf.j1] at H
 by_cases c14 : x33_7 = true
 ·subst c14
  rw [if_pos rfl] at H
  obtain ⟨y130, hy130⟩ : ∃ y_ : List ByteArray, y_ = (([] : List ByteArray)) := ⟨_, rfl⟩
  replace H : (some (y130, false)) = some (r1, r2) := rp_ H hy130
  have Ny130 := Aside0.mk hy130
  clear hy130
  simp only [Option.some.injEq, Prod.mk.injEq] at H
  obtain ⟨rfl, rfl⟩ := H
  go_wp2_with (first | ((with_reducible refine gate_dst (N := 34) rfl ?_); refine Kd.R_lit Kd.string _ 9 ?hg (N := 34) ?hd (xs := ([] : List ByteArray)) (inner := []) (ok := fun _ => True) (okp := fun _ => True) ?hr ?hp (fun _ hk => hk) trivial (Below.refl _ _) (Nat.le_refl _) (by simp) ?_; (case hd => rfl); (case hg => rfl); (case hr => first | (go_simp; done) | (go_simp; rfl)); (case hp => exact (Reps.none _ _)); intro v131 w15 ho16 hb hg_ hnew_; clear hg_ hnew_; (first | rw [← Ny130.out] at ho16 | (simp only [Int.reduceToNat] at ho16; rw [← Ny130.out] at ho16)); have HO132 := Aside0.mk (Kd.R_lower (Kd.R_new' ho16 (Kd.R_lt (ra_ HO_4.out))) (below_size bl_)); replace HO_4 := Aside0.mk (Kd.R_elder' (ra_ HO_4.out) (Kd.R_base ho16) hb); replace HB := Aside0.mk (below_step bl_ hb); clear hb ho16))
  go_ret2
  exact ⟨_, er_, by (with_reducible repeat (first | apply Kd.R_alloc | apply Kd.R_drewN | apply Kd.R_drew)); exact Kd.R_mono HO132.out (fun _ hk => trivial), bl_⟩
 replace c14 := Bool.eq_false_iff.mpr c14
 subst c14
 rw [nf_] at H
 have HC17 := Aside0.mk H
 clear H
 go_upto_region 10 with (fail)
 go_cut [44] (fun v44 wc => ∃ (kq : Nat) (x44_16 : Bool), v44 = .bool x44_16 ∧ Aside0 (spec_PartsOf.j2 kq a0 x4_1 x5_1 x6_1 x44_16 = some (r1, r2)) ∧ Aside0 (kq ≤ kj7) ∧ Aside0 (Kd.R Kd.string 9 wc w.heap.size (fun _ => True) u4 x4_1) ∧ Aside0 (Below w.heap.size w wc))
 case first =>
  have H := HC17.out
  clear HC17
  by_cases c18 : x6_1 < (a0.size : Int)
  rotate_left
  ·rw [if_neg c18] at H
   have c18b0 := decide_eq_false c18
   clear c18
   (first | rw [c18b0] | (simp only [i64_w, i32_w]; rw [c18b0]) | skip)
   have H' := Aside0.mk H
   clear H
   go_wp2
   go_meet
   case rel => exact ⟨_, (false), (sr_), H', ⟨by have := HK1.out; have := HJ7.out; first | omega | exact Nat.le_refl _⟩, ⟨ra_ HO_4.out⟩, ⟨bl_⟩⟩
  rw [if_pos c18] at H
  have c18b0 := decide_eq_true c18
  clear c18
  (first | rw [c18b0] | (simp only [i64_w, i32_w]; rw [c18b0]) | skip)
  by_cases c19 : 0 ≤ x6_1
  rotate_left
  ·exact nn_ c19 H
  rw [if_pos c19] at H
  have c19b0 := decide_eq_true c19
  clear c19
  have H' := Aside0.mk H
  clear H
  have p20 : 0 ≤ (x6_1 : Int) := of_decide_eq_true as_
  have q20 : x6_1 < (a0.size : Int) := of_decide_eq_true as_
  have hx20 := bt_at a0 x6_1
  replace p20 := eq_true p20
  replace q20 := eq_true q20
  go_wp2
  go_meet
  case rel => exact ⟨_, (((bt a0 x6_1) != 32)), (sr_), H', ⟨by have := HK1.out; have := HJ7.out; first | omega | exact Nat.le_refl _⟩, ⟨ra_ HO_4.out⟩, ⟨bl_⟩⟩
 clear HC17
 try clear c2
 try clear c2b0
 try clear c2b1
 try clear c7
 try clear c7b0
 try clear c14
 obtain ⟨kq, x44_16, rfl, HA, HJ16, HO_4, HB⟩ := hcut
 cases kq with
 | zero => exact absurd HA.out (by simp [spec_PartsOf.j2])
 | succ kj16 => ?_
 have H := HA.out
 clear HA
 simp only [spec_PartsOf.j2] at H
 by_cases c21 : x44_16 = true
 ·subst c21
  rw [if_pos rfl] at H
  have H' := Aside0.mk H
  clear H
  go_wp2
  go_roundg kj16
  case measure => have := HK1.out; have := HJ7.out; have := HJ16.out; omega
  case rel => exact ⟨(x4_1), (x5_1), (wrap64 (x6_1 + 1)), (sr_), (sr_), H', ⟨by have := HK1.out; have := HJ7.out; have := HJ16.out; omega⟩, ⟨ra_ HO_4.out⟩, ⟨bl_⟩⟩
 replace c21 := Bool.eq_false_iff.mpr c21
 subst c21
 rw [nf_] at H
 by_cases c22 : x5_1 < x6_1
 rotate_left
 ·rw [if_neg c22] at H
  have c22b0 := decide_eq_false c22
  clear c22
  have H' := Aside0.mk H
  clear H
  go_wp2
  go_roundg kj16
  case measure => have := HK1.out; have := HJ7.out; have := HJ16.out; omega
  case rel => exact ⟨(x4_1), (wrap64 (x6_1 + 1)), (wrap64 (x6_1 + 1)), (sr_), (sr_), H', ⟨by have := HK1.out; have := HJ7.out; have := HJ16.out; omega⟩, ⟨ra_ HO_4.out⟩, ⟨bl_⟩⟩
 rw [if_pos c22] at H
 have c22b0 := decide_eq_true c22
 clear c22
 by_cases c23 : 0 ≤ x5_1
 rotate_left
 ·exact nn_ c23 H
 rw [if_pos c23] at H
 have c23b0 := eq_true c23
 have c23b1 : decide (0 ≤ x5_1) = true := decide_eq_true c23
 clear c23
 by_cases c24 : x5_1 ≤ x6_1
 rotate_left
 ·exact nn_ c24 H
 rw [if_pos c24] at H
 have c24b0 := eq_true c24
 have c24b1 : decide (x5_1 ≤ x6_1) = true := decide_eq_true c24
 clear c24
 by_cases c25 : x6_1 ≤ (a0.size : Int)
 rotate_left
 ·exact nn_ c25 H
 rw [if_pos c25] at H
 have c25b0 := eq_true c25
 have c25b1 : decide (x6_1 ≤ (a0.size : Int)) = true := decide_eq_true c25
 clear c25
 by_cases c26 : x4_1.length < 8796093022208
 rotate_left
 ·exact nn_ c26 H
 rw [if_pos c26] at H
 have LMc26 := Aside0.mk c26
 clear c26
 obtain ⟨y133, hy133⟩ : ∃ y_ : List ByteArray, y_ = (x4_1 ++ [a0.extract (x5_1 : Int).toNat (x6_1 : Int).toNat]) := ⟨_, rfl⟩
 replace H : (spec_PartsOf.l0 kj16 a0 y133 (wrap64 (x6_1 + 1)) (wrap64 (x6_1 + 1))) = some (r1, r2) := rp_ H hy133
 have Ny133 := Aside0.mk hy133
 clear hy133
 have H' := Aside0.mk H
 clear H
 go_wp2_with (first | ((with_reducible refine gate_builtin (b := .append) (xs := #[.tmp 48, .tmp 53]) rfl ?_); at_builtin; refine Kd.R_append Kd.string (w0 := w) w.heap.size rfl (.tmp 48) (.tmp 53) 62 9 (.string ⟨#[]⟩) 16 rfl Try.underlying62 info9 rfl (by decide) (by omega) u4 x4_1 (a0.extract (x5_1 : Int).toNat (x6_1 : Int).toNat) [.string (a0.extract (x5_1 : Int).toNat (x6_1 : Int).toNat)] (fun _ => True) (fun _ => False) rfl rfl ?aP (fun _ hk => hk.elim) ?aF ?aO ?aB ?aS ?aL ?_; (case aP => exact rfl); (case aB => exact bl_); (case aF => exact (fun _ _ => trivial)); (case aO => exact (ra_ HO_4.out)); (case aS => exact (below_size bl_)); (case aL => have := LMc26.out; omega); intro v134 w27 ho hb hg hat; rw [← Ny133.out] at ho; replace HB := Aside0.mk (hb); have HO135 := Aside0.mk (ho); clear HO_4; clear ho hb hg hat))
 go_roundg kj16
 case measure => have := HK1.out; have := HJ7.out; have := HJ16.out; omega
 case rel => exact ⟨(y133), (wrap64 (x6_1 + 1)), (wrap64 (x6_1 + 1)), (sr_), (sr_), H', ⟨by have := HK1.out; have := HJ7.out; have := HJ16.out; omega⟩, ⟨ra_ HO135.out⟩, ⟨bl_⟩⟩


def spec_l01Figure.f (a0 : Int) : Option (Int) := if a0 < 10 then (some ((wrap64 (48 + a0)) % 256)) else (some ((wrap64 ((wrap64 (97 + a0)) - 10)) % 256))
theorem spec_l01Figure.calls (a0 : Int) (r : Int) (w : World) (h : spec_l01Figure.f a0 = some r) :
 Calls Try.prog 133 #[.int .i64 a0] w fun e w' => e = .returned (.int .u8 r) ∧ Drawn0 w w' := by
 have H := h
 unfold spec_l01Figure.f at H
 clear h
 by_cases c2 : a0 < 10
 rotate_left
 ·rw [if_neg c2] at H
  have c2b0 := decide_eq_false c2
  clear c2
  obtain rfl := Option.some.inj H
  go_enter Try.func133, Try.ntmps133
  go_wp2
  go_ret
  exact ⟨sr_, by repeat (first | exact Drawn0.refl _ | apply Drawn0.step)⟩
 rw [if_pos c2] at H
 have c2b0 := decide_eq_true c2
 clear c2
 obtain rfl := Option.some.inj H
 go_enter Try.func133, Try.ntmps133
 go_wp2
 go_ret
 exact ⟨sr_, by repeat (first | exact Drawn0.refl _ | apply Drawn0.step)⟩


def spec_Decimal.l0 : Nat → Int → Bool → ByteArray → Option (ByteArray)
 | 0, _, _, _ => none
 | k + 1, x0, x3, x4 => if x0 = 0 then (if x3 = true then (if 1 + x4.size ≤ 9223372036854775807 then (some ((⟨#[45]⟩ : ByteArray) ++ x4)) else (none)) else (some x4)) else (if (Int.tmod x0 10) < 0 then ((spec_l01Figure.f (wrap64 (-(Int.tmod x0 10)))).bind fun t136 => ((some (([t136] : List Int) : List Int)).bind fun y137 => (if (strOfNums y137).size + x4.size ≤ 9223372036854775807 then (spec_Decimal.l0 k (wrap64 (Int.tdiv x0 10)) x3 ((strOfNums y137) ++ x4)) else (none)))) else ((spec_l01Figure.f (Int.tmod x0 10)).bind fun t140 => ((some (([t140] : List Int) : List Int)).bind fun y141 => (if (strOfNums y141).size + x4.size ≤ 9223372036854775807 then (spec_Decimal.l0 k (wrap64 (Int.tdiv x0 10)) x3 ((strOfNums y141) ++ x4)) else (none)))))
def spec_Decimal.f (k : Nat) (a0 : Int) : Option (ByteArray) := if a0 = 0 then (some (⟨#[48]⟩ : ByteArray)) else (spec_Decimal.l0 k a0 (decide (a0 < 0)) (⟨#[]⟩ : ByteArray))
theorem spec_Decimal.mono_l : ∀ k, (∀ y0 y1 y2, LeO (spec_Decimal.l0 k y0 y1 y2) (spec_Decimal.l0 (k + 1) y0 y1 y2))
 | 0 => fun _ _ _ r h => by simp [spec_Decimal.l0] at h
 | k + 1 => by
  have ih0 := spec_Decimal.mono_l k
  ·intro y0 y1 y2
   unfold spec_Decimal.l0
   exact mo_
theorem spec_Decimal.mono : ∀ a0 k, LeO (spec_Decimal.f k a0) (spec_Decimal.f (k + 1) a0) := by
 intro a0 k
 have ih0 := spec_Decimal.mono_l k
 unfold spec_Decimal.f
 exact mo_
theorem spec_Decimal.calls (k : Nat) (a0 : Int) (r : ByteArray) (w : World) (h : spec_Decimal.f k a0 = some r) :
 Calls Try.prog 116 #[.int .i64 a0] w fun e w' => e = .returned (.string r) ∧ Below w.heap.size w w' := by
 have HB := Aside0.mk (Below.refl w.heap.size w)
 have H := h
 unfold spec_Decimal.f at H
 clear h
 by_cases c2 : a0 = 0
 ·rw [if_pos c2] at H
  have c2b0 : (a0 == 0) = true := beq_iff_eq.mpr c2
  have c2b1 : (a0 != 0) = false := bne_eq_false_iff_eq.mpr c2
  clear c2
  obtain rfl := Option.some.inj H
  go_enter Try.func116, Try.ntmps116
  go_wp2
  go_ret
  exact ⟨er_, bl_⟩
 rw [if_neg c2] at H
 have c2b0 : (a0 == 0) = false := beq_eq_false_iff_ne.mpr c2
 have c2b1 : (a0 != 0) = true := bne_iff_ne.mpr c2
 have H' := Aside0.mk H
 clear H
 go_enter Try.func116, Try.ntmps116
 go_wp2
 go_loopg [0, 4] k (fun kq v0 v4 w' => ∃ (x0_1 : Int) (x4_1 : ByteArray), v0 = .int .i64 x0_1 ∧ v4 = .string x4_1 ∧ Aside0 (spec_Decimal.l0 kq x0_1 (decide (a0 < 0)) x4_1 = some r) ∧ Aside0 (kq ≤ k) ∧ Aside0 (Below w.heap.size w w'))
 case atStart => exact ⟨(a0), ((⟨#[]⟩ : ByteArray)), (sr_), (sr_), H', ⟨Nat.le_refl _⟩, ⟨bl_⟩⟩
 clear H'
 try clear c2
 try clear c2b0
 try clear c2b1
 obtain ⟨x0_1, x4_1, rfl, rfl, HA, HK1, HB⟩ := hrel
 cases gk with
 | zero => exact absurd HA.out (by simp [spec_Decimal.l0])
 | succ k1 => ?_
 have H := HA.out
 clear HA
 simp only [spec_Decimal.l0] at H
 by_cases c3 : x0_1 = 0
 ·rw [if_pos c3] at H
  have c3b0 : (x0_1 == 0) = true := beq_iff_eq.mpr c3
  have c3b1 : (x0_1 != 0) = false := bne_eq_false_iff_eq.mpr c3
  clear c3
  by_cases c4 : (decide (a0 < 0)) = true
  rotate_left
  ·rw [if_neg c4] at H
   have c4x := Aside0.mk (show ¬ (a0 < 0) from by simpa using c4)
   have c4b0 : (decide (a0 < 0)) = false := by simpa using c4
   clear c4
   obtain rfl := Option.some.inj H
   go_wp2
   try any_goals (exfalso; have := c4x.out; omega)
   go_ret
   exact ⟨er_, bl_⟩
  rw [if_pos c4] at H
  have c4x := Aside0.mk (of_decide_eq_true c4)
  have c4b0 : (decide (a0 < 0)) = true := c4
  clear c4
  by_cases c5 : 1 + x4_1.size ≤ 9223372036854775807
  rotate_left
  ·exact nn_ c5 H
  rw [if_pos c5] at H
  have c5b0 := eq_true c5
  have c5b1 : decide (1 + x4_1.size ≤ 9223372036854775807) = true := decide_eq_true c5
  try have c5b2 : (9223372036854775807 < 1 + x4_1.size) = False := eq_false (Nat.not_lt.2 c5)
  obtain rfl := Option.some.inj H
  go_wp2
  try any_goals (exfalso; have := c4x.out; omega)
  go_ret
  exact ⟨er_, bl_⟩
 rw [if_neg c3] at H
 have c3b0 : (x0_1 == 0) = false := beq_eq_false_iff_ne.mpr c3
 have c3b1 : (x0_1 != 0) = true := bne_iff_ne.mpr c3
 by_cases c6 : (Int.tmod x0_1 10) < 0
 rotate_left
 ·rw [if_neg c6] at H
  have c6b0 := decide_eq_false c6
  clear c6
  replace H := bs_ H
  obtain ⟨t140, A12, H⟩ := H
  try dsimp only at H
  obtain ⟨y141, hy141⟩ : ∃ y_ : List Int, y_ = (([t140] : List Int)) := ⟨_, rfl⟩
  replace H : (if (strOfNums y141).size + x4_1.size ≤ 9223372036854775807 then (spec_Decimal.l0 k1 (wrap64 (Int.tdiv x0_1 10)) (decide (a0 < 0)) ((strOfNums y141) ++ x4_1)) else (none)) = some r := rp_ H hy141
  have Ny141 := Aside0.mk hy141
  clear hy141
  by_cases c13 : (strOfNums y141).size + x4_1.size ≤ 9223372036854775807
  rotate_left
  ·exact nn_ c13 H
  rw [if_pos c13] at H
  have c13b0 := eq_true c13
  have c13b1 : decide ((strOfNums y141).size + x4_1.size ≤ 9223372036854775807) = true := decide_eq_true c13
  try have c13b2 : (9223372036854775807 < (strOfNums y141).size + x4_1.size) = False := eq_false (Nat.not_lt.2 c13)
  have H' := Aside0.mk H
  clear H
  go_wp2_with (first | ((with_reducible refine gate_callee (f := 133) rfl ?_); refine gs_ (some 19) Try.func133 #[.int .i64 (Int.tmod x0_1 10)] ?_; (with_reducible refine (spec_l01Figure.calls (Int.tmod x0_1 10) t140 _ A12.out).mono ?_); rintro e w' ⟨rfl, ⟨nd, rfl⟩⟩; refine ⟨_, rfl, ?_⟩) | ((with_reducible refine gate_dst (N := 20) rfl ?_); refine Kd.R_lit (Kd.int .u8) _ 5 ?hg (N := 20) ?hd (xs := ([t140] : List Int)) (inner := [.int .u8 t140]) (ok := fun _ => True) (okp := fun _ => True) ?hr ?hp (fun _ hk => hk) trivial (Below.refl _ _) (Nat.le_refl _) (by simp) ?_; (case hd => rfl); (case hg => rfl); (case hr => first | (go_simp; done) | (go_simp; rfl)); (case hp => exact (Reps.one (show Kd.M (Kd.int .u8) _ _ _ t140 [.int .u8 t140] from rfl) (Reps.none _ _))); intro v142 w14 ho15 hb hg_ hnew_; clear hg_ hnew_; (first | rw [← Ny141.out] at ho15 | (simp only [Int.reduceToNat] at ho15; rw [← Ny141.out] at ho15)); have HO143 := Aside0.mk (Kd.R_lower ho15 (below_size bl_)); replace HB := Aside0.mk (below_step bl_ hb); clear hb ho15; have hcv16 := own_string (P := Try.prog) Try.underlying43 Try.underlying5 Try.underlying9 (Kd.own_of_R HO143.out)))
  go_roundg k1
  case measure => have := HK1.out; omega
  case rel => exact ⟨(wrap64 (Int.tdiv x0_1 10)), ((strOfNums y141) ++ x4_1), (sr_), (sr_), H', ⟨by have := HK1.out; omega⟩, ⟨bl_⟩⟩
 rw [if_pos c6] at H
 have c6b0 := decide_eq_true c6
 clear c6
 replace H := bs_ H
 obtain ⟨t136, A7, H⟩ := H
 try dsimp only at H
 obtain ⟨y137, hy137⟩ : ∃ y_ : List Int, y_ = (([t136] : List Int)) := ⟨_, rfl⟩
 replace H : (if (strOfNums y137).size + x4_1.size ≤ 9223372036854775807 then (spec_Decimal.l0 k1 (wrap64 (Int.tdiv x0_1 10)) (decide (a0 < 0)) ((strOfNums y137) ++ x4_1)) else (none)) = some r := rp_ H hy137
 have Ny137 := Aside0.mk hy137
 clear hy137
 by_cases c8 : (strOfNums y137).size + x4_1.size ≤ 9223372036854775807
 rotate_left
 ·exact nn_ c8 H
 rw [if_pos c8] at H
 have c8b0 := eq_true c8
 have c8b1 : decide ((strOfNums y137).size + x4_1.size ≤ 9223372036854775807) = true := decide_eq_true c8
 try have c8b2 : (9223372036854775807 < (strOfNums y137).size + x4_1.size) = False := eq_false (Nat.not_lt.2 c8)
 have H' := Aside0.mk H
 clear H
 go_wp2_with (first | ((with_reducible refine gate_callee (f := 133) rfl ?_); refine gs_ (some 19) Try.func133 #[.int .i64 (wrap64 (-(Int.tmod x0_1 10)))] ?_; (with_reducible refine (spec_l01Figure.calls (wrap64 (-(Int.tmod x0_1 10))) t136 _ A7.out).mono ?_); rintro e w' ⟨rfl, ⟨nd, rfl⟩⟩; refine ⟨_, rfl, ?_⟩) | ((with_reducible refine gate_dst (N := 20) rfl ?_); refine Kd.R_lit (Kd.int .u8) _ 5 ?hg (N := 20) ?hd (xs := ([t136] : List Int)) (inner := [.int .u8 t136]) (ok := fun _ => True) (okp := fun _ => True) ?hr ?hp (fun _ hk => hk) trivial (Below.refl _ _) (Nat.le_refl _) (by simp) ?_; (case hd => rfl); (case hg => rfl); (case hr => first | (go_simp; done) | (go_simp; rfl)); (case hp => exact (Reps.one (show Kd.M (Kd.int .u8) _ _ _ t136 [.int .u8 t136] from rfl) (Reps.none _ _))); intro v138 w9 ho10 hb hg_ hnew_; clear hg_ hnew_; (first | rw [← Ny137.out] at ho10 | (simp only [Int.reduceToNat] at ho10; rw [← Ny137.out] at ho10)); have HO139 := Aside0.mk (Kd.R_lower ho10 (below_size bl_)); replace HB := Aside0.mk (below_step bl_ hb); clear hb ho10; have hcv11 := own_string (P := Try.prog) Try.underlying43 Try.underlying5 Try.underlying9 (Kd.own_of_R HO139.out)))
 go_roundg k1
 case measure => have := HK1.out; omega
 case rel => exact ⟨(wrap64 (Int.tdiv x0_1 10)), ((strOfNums y137) ++ x4_1), (sr_), (sr_), H', ⟨by have := HK1.out; omega⟩, ⟨bl_⟩⟩


def spec_ReadDecimal.l0 : Nat → ByteArray → Int → Int → Option (Int × Bool)
 | 0, _, _, _ => none
 | k + 1, x0, x4, x5 => if x5 < (x0.size : Int) then (if 0 ≤ x5 then (if (bt x0 x5) < 48 then (some (0, false)) else (if (bt x0 x5) > 57 then (some (0, false)) else (spec_ReadDecimal.l0 k x0 (wrap64 ((wrap64 ((wrap64 (10 * x4)) + (wrap64 (bt x0 x5)))) - 48)) (wrap64 (x5 + 1))))) else (none)) else (if x4 > 1000000000 then (some (0, false)) else ((spec_Decimal.f k x4).bind fun t144 => (if t144.toList = x0.toList then (some (x4, true)) else (some (0, false)))))
def spec_ReadDecimal.f (k : Nat) (a0 : ByteArray) : Option (Int × Bool) := if (a0.size : Int) > 10 then (some (0, false)) else (spec_ReadDecimal.l0 k a0 0 0)
theorem spec_ReadDecimal.mono_l : ∀ k, (∀ y0 y1 y2, LeO (spec_ReadDecimal.l0 k y0 y1 y2) (spec_ReadDecimal.l0 (k + 1) y0 y1 y2))
 | 0 => fun _ _ _ r h => by simp [spec_ReadDecimal.l0] at h
 | k + 1 => by
  have ih0 := spec_ReadDecimal.mono_l k
  ·intro y0 y1 y2
   unfold spec_ReadDecimal.l0
   have m0 := @spec_Decimal.mono
   exact mo_
theorem spec_ReadDecimal.mono : ∀ a0 k, LeO (spec_ReadDecimal.f k a0) (spec_ReadDecimal.f (k + 1) a0) := by
 intro a0 k
 have ih0 := spec_ReadDecimal.mono_l k
 unfold spec_ReadDecimal.f
 have m0 := @spec_Decimal.mono
 exact mo_
theorem spec_ReadDecimal.calls (k : Nat) (a0 : ByteArray) (r1 : Int) (r2 : Bool) (w : World) (h : spec_ReadDecimal.f k a0 = some (r1, r2)) :
 Calls Try.prog 84 #[.string a0] w fun e w' => e = .returned (.tuple #[.int .i64 r1, .bool r2]) ∧ Below w.heap.size w w' := by
 have HB := Aside0.mk (Below.refl w.heap.size w)
 have H := h
 unfold spec_ReadDecimal.f at H
 clear h
 by_cases c2 : (a0.size : Int) > 10
 ·rw [if_pos c2] at H
  have c2b0 := decide_eq_true c2
  have c2b1 : decide (10 < a0.size) = true := decide_eq_true (by omega)
  clear c2
  simp only [Option.some.injEq, Prod.mk.injEq] at H
  obtain ⟨rfl, rfl⟩ := H
  go_enter Try.func84, Try.ntmps84
  go_wp2
  go_ret2
  exact ⟨er_, bl_⟩
 rw [if_neg c2] at H
 have c2b0 := decide_eq_false c2
 have c2b1 : decide (10 < a0.size) = false := decide_eq_false (by omega)
 clear c2
 have H' := Aside0.mk H
 clear H
 go_enter Try.func84, Try.ntmps84
 go_wp2
 go_loopg [4, 5] k (fun kq v4 v5 w' => ∃ (x4_1 : Int) (x5_1 : Int), v4 = .int .i64 x4_1 ∧ v5 = .int .i64 x5_1 ∧ Aside0 (spec_ReadDecimal.l0 kq a0 x4_1 x5_1 = some (r1, r2)) ∧ Aside0 (kq ≤ k) ∧ Aside0 (Below w.heap.size w w'))
 case atStart => exact ⟨(0), (0), (sr_), (sr_), H', ⟨Nat.le_refl _⟩, ⟨bl_⟩⟩
 clear H'
 try clear c2
 try clear c2b0
 try clear c2b1
 obtain ⟨x4_1, x5_1, rfl, rfl, HA, HK1, HB⟩ := hrel
 cases gk with
 | zero => exact absurd HA.out (by simp [spec_ReadDecimal.l0])
 | succ k1 => ?_
 have H := HA.out
 clear HA
 simp only [spec_ReadDecimal.l0] at H
 by_cases c3 : x5_1 < (a0.size : Int)
 rotate_left
 ·rw [if_neg c3] at H
  have c3b0 := decide_eq_false c3
  clear c3
  by_cases c10 : x4_1 > 1000000000
  ·rw [if_pos c10] at H
   have c10b0 := decide_eq_true c10
   clear c10
   simp only [Option.some.injEq, Prod.mk.injEq] at H
   obtain ⟨rfl, rfl⟩ := H
   go_wp2
   go_ret2
   exact ⟨er_, bl_⟩
  rw [if_neg c10] at H
  have c10b0 := decide_eq_false c10
  clear c10
  replace H := bs_ H
  obtain ⟨t144, A11, H⟩ := H
  try dsimp only at H
  by_cases c12 : t144.toList = a0.toList
  rotate_left
  ·rw [if_neg c12] at H
   have c12b0 : (t144.toList == a0.toList) = false := beq_eq_false_iff_ne.mpr c12
   have c12b1 : (t144.toList != a0.toList) = true := bne_iff_ne.mpr c12
   simp only [Option.some.injEq, Prod.mk.injEq] at H
   obtain ⟨rfl, rfl⟩ := H
   go_wp2_with (first | (go_at_call 116; (with_reducible refine (spec_Decimal.calls k1 x4_1 t144 _ A11.out).mono ?_); rintro e w14 ⟨rfl, hb⟩; replace HB := Aside0.mk (below_step bl_ hb); (try clear hb)))
   go_ret2
   exact ⟨er_, bl_⟩
  rw [if_pos c12] at H
  have c12b0 : (t144.toList == a0.toList) = true := beq_iff_eq.mpr c12
  have c12b1 : (t144.toList != a0.toList) = false := bne_eq_false_iff_eq.mpr c12
  clear c12
  simp only [Option.some.injEq, Prod.mk.injEq] at H
  obtain ⟨rfl, rfl⟩ := H
  go_wp2_with (first | (go_at_call 116; (with_reducible refine (spec_Decimal.calls k1 x4_1 t144 _ A11.out).mono ?_); rintro e w13 ⟨rfl, hb⟩; replace HB := Aside0.mk (below_step bl_ hb); (try clear hb)))
  go_ret2
  exact ⟨er_, bl_⟩
 rw [if_pos c3] at H
 have c3b0 := decide_eq_true c3
 clear c3
 by_cases c4 : 0 ≤ x5_1
 rotate_left
 ·exact nn_ c4 H
 rw [if_pos c4] at H
 have c4b0 := decide_eq_true c4
 clear c4
 by_cases c6 : (bt a0 x5_1) < 48
 ·rw [if_pos c6] at H
  have c6b0 := decide_eq_true c6
  clear c6
  simp only [Option.some.injEq, Prod.mk.injEq] at H
  obtain ⟨rfl, rfl⟩ := H
  have p5 : 0 ≤ (x5_1 : Int) := of_decide_eq_true as_
  have q5 : x5_1 < (a0.size : Int) := of_decide_eq_true as_
  have hx5 := bt_at a0 x5_1
  replace p5 := eq_true p5
  replace q5 := eq_true q5
  go_wp2
  go_ret2
  exact ⟨er_, bl_⟩
 rw [if_neg c6] at H
 have c6b0 := decide_eq_false c6
 clear c6
 by_cases c8 : (bt a0 x5_1) > 57
 ·rw [if_pos c8] at H
  have c8b0 := decide_eq_true c8
  clear c8
  simp only [Option.some.injEq, Prod.mk.injEq] at H
  obtain ⟨rfl, rfl⟩ := H
  have p5 : 0 ≤ (x5_1 : Int) := of_decide_eq_true as_
  have q5 : x5_1 < (a0.size : Int) := of_decide_eq_true as_
  have hx5 := bt_at a0 x5_1
  replace p5 := eq_true p5
  replace q5 := eq_true q5
  have p7 : 0 ≤ (x5_1 : Int) := of_decide_eq_true as_
  have q7 : x5_1 < (a0.size : Int) := of_decide_eq_true as_
  have hx7 := bt_at a0 x5_1
  replace p7 := eq_true p7
  replace q7 := eq_true q7
  go_wp2
  go_ret2
  exact ⟨er_, bl_⟩
 rw [if_neg c8] at H
 have c8b0 := decide_eq_false c8
 clear c8
 have H' := Aside0.mk H
 clear H
 have p5 : 0 ≤ (x5_1 : Int) := of_decide_eq_true as_
 have q5 : x5_1 < (a0.size : Int) := of_decide_eq_true as_
 have hx5 := bt_at a0 x5_1
 replace p5 := eq_true p5
 replace q5 := eq_true q5
 have p7 : 0 ≤ (x5_1 : Int) := of_decide_eq_true as_
 have q7 : x5_1 < (a0.size : Int) := of_decide_eq_true as_
 have hx7 := bt_at a0 x5_1
 replace p7 := eq_true p7
 replace q7 := eq_true q7
 have p9 : 0 ≤ (x5_1 : Int) := of_decide_eq_true as_
 have q9 : x5_1 < (a0.size : Int) := of_decide_eq_true as_
 have hx9 := bt_at a0 x5_1
 replace p9 := eq_true p9
 replace q9 := eq_true q9
 go_wp2
 go_roundg k1
 case measure => have := HK1.out; omega
 case rel => exact ⟨(wrap64 ((wrap64 ((wrap64 (10 * x4_1)) + (wrap64 (bt a0 x5_1)))) - 48)), (wrap64 (x5_1 + 1)), (sr_), (sr_), H', ⟨by have := HK1.out; omega⟩, ⟨bl_⟩⟩


def spec_l30Nums.l0 : Nat → List ByteArray → List Int → Int → Option (List Int × Bool)
 | 0, _, _, _ => none
 | k + 1, x0, x4, x5 => if x5 < (x0.length : Int) then (if 0 ≤ x5 then ((spec_ReadDecimal.f k (rdOf ByteArray.empty x0 x5)).bind fun bt149 => (if bt149.2 = true then (if x4.length < 17592186044416 then (spec_l30Nums.l0 k x0 (x4 ++ [bt149.1]) (wrap64 (x5 + 1))) else (none)) else (some (x4, false)))) else (none)) else (some (x4, true))
def spec_l30Nums.f (k : Nat) (l0 : List ByteArray) : Option (List Int × Bool) := spec_l30Nums.l0 k l0 (([] : List Int)) 0
theorem spec_l30Nums.mono_l : ∀ k, (∀ y0 y1 y2, LeO (spec_l30Nums.l0 k y0 y1 y2) (spec_l30Nums.l0 (k + 1) y0 y1 y2))
 | 0 => fun _ _ _ r h => by simp [spec_l30Nums.l0] at h
 | k + 1 => by
  have ih0 := spec_l30Nums.mono_l k
  ·intro y0 y1 y2
   unfold spec_l30Nums.l0
   have m0 := @spec_ReadDecimal.mono
   exact mo_
theorem spec_l30Nums.mono : ∀ a0 k, LeO (spec_l30Nums.f k a0) (spec_l30Nums.f (k + 1) a0) := by
 intro a0 k
 have ih0 := spec_l30Nums.mono_l k
 unfold spec_l30Nums.f
 have m0 := @spec_ReadDecimal.mono
 exact mo_
theorem spec_l30Nums.calls (k : Nat) (A0 : Option Addr) (c0 : Nat) (l0 : List ByteArray) (r1 : List Int) (r2 : Bool) (w : World) (hr0 : Kd.C Kd.string w A0 l0.length l0) (hc0 : l0.length ≤ c0) (h : spec_l30Nums.f k l0 = some (r1, r2)) :
 Calls Try.prog 41 #[.slice A0 l0.length c0] w fun e w' => ∃ v0_ : Value, e = .returned (.tuple #[v0_, .bool r2]) ∧ Kd.R (Kd.int .i64) 3 w' w.heap.size (fun _ => True) v0_ r1 ∧ Below w.heap.size w w' := by
 have HR0 := Aside0.mk hr0
 have HC0 := Aside0.mk hc0
 clear hr0 hc0
 have HB := Aside0.mk (Below.refl w.heap.size w)
 have H := h
 unfold spec_l30Nums.f at H
 clear h
 obtain ⟨y145, hy145⟩ : ∃ y_ : List Int, y_ = (([] : List Int)) := ⟨_, rfl⟩
 replace H : (spec_l30Nums.l0 k l0 y145 0) = some (r1, r2) := rp_ H hy145
 have Ny145 := Aside0.mk hy145
 clear hy145
 have H' := Aside0.mk H
 clear H
 go_enter Try.func41, Try.ntmps41
 go_wp2_with (first | ((with_reducible refine gate_dst (N := 8) rfl ?_); refine Kd.R_lit (Kd.int .i64) _ 3 ?hg (N := 8) ?hd (xs := ([] : List Int)) (inner := []) (ok := fun _ => True) (okp := fun _ => True) ?hr ?hp (fun _ hk => hk) trivial (Below.refl _ _) (Nat.le_refl _) (by simp) ?_; (case hd => rfl); (case hg => rfl); (case hr => first | (go_simp; done) | (go_simp; rfl)); (case hp => exact (Reps.none _ _)); intro v146 w2 ho3 hb hg_ hnew_; clear hg_ hnew_; (first | rw [← Ny145.out] at ho3 | (simp only [Int.reduceToNat] at ho3; rw [← Ny145.out] at ho3)); have HO147 := Aside0.mk (Kd.R_lower ho3 (below_size bl_)); replace HB := Aside0.mk (below_step bl_ hb); clear hb ho3))
 go_loopg [4, 5] k (fun kq v4 v5 w' => ∃ (x4_1 : List Int) (x5_1 : Int), v5 = .int .i64 x5_1 ∧ Aside0 (spec_l30Nums.l0 kq l0 x4_1 x5_1 = some (r1, r2)) ∧ Aside0 (kq ≤ k) ∧ Aside0 (Kd.R (Kd.int .i64) 3 w' w.heap.size (fun _ => True) v4 x4_1) ∧ Aside0 (Below w.heap.size w w'))
 case atStart => exact ⟨(y145), (0), (sr_), H', ⟨Nat.le_refl _⟩, ⟨ra_ HO147.out⟩, ⟨bl_⟩⟩
 clear H'
 obtain ⟨x4_1, x5_1, rfl, HA, HK1, HO_4, HB⟩ := hrel
 cases gk with
 | zero => exact absurd HA.out (by simp [spec_l30Nums.l0])
 | succ k1 => ?_
 have H := HA.out
 clear HA
 simp only [spec_l30Nums.l0] at H
 by_cases c4 : x5_1 < (l0.length : Int)
 rotate_left
 ·rw [if_neg c4] at H
  have c4b0 := decide_eq_false c4
  clear c4
  simp only [Option.some.injEq, Prod.mk.injEq] at H
  obtain ⟨rfl, rfl⟩ := H
  go_wp2
  go_ret2
  exact ⟨_, er_, ra_ HO_4.out, bl_⟩
 rw [if_pos c4] at H
 have c4b0 := decide_eq_true c4
 clear c4
 by_cases c5 : 0 ≤ x5_1
 rotate_left
 ·exact nn_ c5 H
 rw [if_pos c5] at H
 have c5b0 := decide_eq_true c5
 clear c5
 replace H := bs_ H
 obtain ⟨⟨t149, t150⟩, A6, H⟩ := H
 try dsimp only at H
 by_cases c7 : t150 = true
 rotate_left
 ·replace c7 := Bool.eq_false_iff.mpr c7
  subst c7
  rw [nf_] at H
  simp only [Option.some.injEq, Prod.mk.injEq] at H
  obtain ⟨rfl, rfl⟩ := H
  have p148 : 0 ≤ (x5_1 : Int) := of_decide_eq_true as_
  have q148 : x5_1 < (l0.length : Int) := of_decide_eq_true as_
  obtain ⟨ad148, e148, hx148_0⟩ := Kd.at_string HR0.out x5_1 p148 q148
  cases e148
  replace hx148_0 := (HB.out.cell (World.block_lt_of_cell? w _ hx148_0)).trans hx148_0
  replace p148 := eq_true p148
  replace q148 := eq_true q148
  go_wp2_with (first | ((with_reducible refine gate_callee (f := 84) rfl ?_); refine gs_ (some 20) Try.func84 #[.string (rdOf ByteArray.empty l0 x5_1)] ?_; (with_reducible refine (spec_ReadDecimal.calls k1 (rdOf ByteArray.empty l0 x5_1) t149 false _ A6.out).mono ?_); rintro e w11 ⟨rfl, hb⟩; refine ⟨_, rfl, ?_⟩; replace HO_4 := Aside0.mk (Kd.R_below (ra_ HO_4.out) hb); replace HB := Aside0.mk (below_step bl_ hb); (try clear hb)))
  go_ret2
  exact ⟨_, er_, ra_ HO_4.out, bl_⟩
 subst c7
 rw [if_pos rfl] at H
 by_cases c8 : x4_1.length < 17592186044416
 rotate_left
 ·exact nn_ c8 H
 rw [if_pos c8] at H
 have LMc8 := Aside0.mk c8
 clear c8
 obtain ⟨y151, hy151⟩ : ∃ y_ : List Int, y_ = (x4_1 ++ [t149]) := ⟨_, rfl⟩
 replace H : (spec_l30Nums.l0 k1 l0 y151 (wrap64 (x5_1 + 1))) = some (r1, r2) := rp_ H hy151
 have Ny151 := Aside0.mk hy151
 clear hy151
 have H' := Aside0.mk H
 clear H
 have p148 : 0 ≤ (x5_1 : Int) := of_decide_eq_true as_
 have q148 : x5_1 < (l0.length : Int) := of_decide_eq_true as_
 obtain ⟨ad148, e148, hx148_0⟩ := Kd.at_string HR0.out x5_1 p148 q148
 cases e148
 replace hx148_0 := (HB.out.cell (World.block_lt_of_cell? w _ hx148_0)).trans hx148_0
 replace p148 := eq_true p148
 replace q148 := eq_true q148
 go_wp2_with (first | ((with_reducible refine gate_callee (f := 84) rfl ?_); refine gs_ (some 20) Try.func84 #[.string (rdOf ByteArray.empty l0 x5_1)] ?_; (with_reducible refine (spec_ReadDecimal.calls k1 (rdOf ByteArray.empty l0 x5_1) t149 true _ A6.out).mono ?_); rintro e w9 ⟨rfl, hb⟩; refine ⟨_, rfl, ?_⟩; replace HO_4 := Aside0.mk (Kd.R_below (ra_ HO_4.out) hb); replace HB := Aside0.mk (below_step bl_ hb); (try clear hb)) | ((with_reducible refine gate_builtin (b := .append) (xs := #[.tmp 26, .tmp 28]) rfl ?_); at_builtin; refine Kd.R_append (Kd.int .i64) (w0 := w) w.heap.size rfl (.tmp 26) (.tmp 28) 32 3 (.int .i64 0) 8 rfl Try.underlying32 info3 rfl (by decide) (by omega) u4 x4_1 t149 [.int .i64 t149] (fun _ => True) (fun _ => False) rfl rfl ?aP (fun _ hk => hk.elim) ?aF ?aO ?aB ?aS ?aL ?_; (case aP => exact rfl); (case aB => exact bl_); (case aF => exact (fun _ _ => trivial)); (case aO => exact (ra_ HO_4.out)); (case aS => exact (below_size bl_)); (case aL => have := LMc8.out; omega); intro v152 w10 ho hb hg hat; rw [← Ny151.out] at ho; replace HB := Aside0.mk (hb); have HO153 := Aside0.mk (ho); clear HO_4; clear ho hb hg hat))
 go_roundg k1
 case measure => have := HK1.out; omega
 case rel => exact ⟨(y151), (wrap64 (x5_1 + 1)), (sr_), H', ⟨by have := HK1.out; omega⟩, ⟨ra_ HO153.out⟩, ⟨bl_⟩⟩

end Go.Proofs.Ytjfmpodeenidnaa.PA

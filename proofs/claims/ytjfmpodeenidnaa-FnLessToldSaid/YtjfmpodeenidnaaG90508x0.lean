/- Contracts of functions of the program and of the reference, and plain lemmas on what they compute. No condition. -/
import Derived.Test.YtjfmpodeenidnaaProg
import Derived.Below
import Derived.Deep.Draws
import Derived.Deep.AppendLies
import Derived.Maps.AppendAt
import Derived.OwnWalk
import Derived.Laws.BytesArg
import Derived.Laws.MakeOwn
import Derived.Laws.OwnMore
import Derived.Deep.OwnRows
import Derived.Tactics
import Derived.Lib.ConvBytes
import Derived.Laws.Slices
import Derived.WalkKit
import Derived.KernelRfl
import Derived.RowKit3
import Derived.Deep.LoopGhost
import Derived.Deep.QuietTactic
import Derived.BigQuiet
import Derived.WideLaws
import Derived.Deep.DeepCutAuto
import Derived.Deep.CutBlock
import Derived.Deep.RegionHeld3
import Derived.Laws.Rows
import Derived.Lib.AppendStr
import Derived.ArgAppend
import Derived.Laws.IdiomCopy
import Derived.OrdersHeld
import Derived.Laws.BitsLemmas
import Derived.RowKit
import Derived.Test.YtjfmpodeenidnaaV0
import Derived.Test.YtjfmpodeenidnaaShortV
set_option maxHeartbeats 8000000
set_option maxRecDepth 100000
namespace Go.Proofs.Ytjfmpodeenidnaa.PC
open Go.RowKit Go.Proofs.YtjfmpodeenidnaaW.PrintWords Go.Proofs.YtjfmpodeenidnaaW.PrintLast Go.Proofs.YtjfmpodeenidnaaW.PrintMore
attribute [local go_sem] max2_int min2_int max_two min_two max_three min_three max_four min_four   -- for this text's walks alone
set_option linter.unusedVariables false
set_option linter.unusedSimpArgs false



def errW : Option Int → Value
 | none => .nilIface
 | some c => .iface 0 (.int .i64 c)
theorem errW_none : errW none = .nilIface := rfl
theorem errW_some (c : Int) : errW (some c) = .iface 0 (.int .i64 c) := rfl

theorem info3 : (Try.prog.info? 3).map (fun i => (i.zero, i.size, i.bytes)) = some (some (.int .i64 0), 1, 8) := by kernel_rfl
theorem info53 : (Try.prog.info? 53).map (fun i => (i.zero, i.size, i.bytes)) = some (some (.agg #[(.slice none 0 0), (.slice none 0 0), (.int .i64 0), (.int .i64 0)]), 4, 64) := by kernel_rfl
theorem info98 : (Try.prog.info? 98).map (fun i => (i.zero, i.size, i.bytes)) = some (some (.agg #[(.int .i64 0), (.int .i64 0)]), 2, 16) := by kernel_rfl
theorem info100 : (Try.prog.info? 100).map (fun i => (i.zero, i.size, i.bytes)) = some (some (.agg #[(.int .i64 0), (.int .i64 0), (.int .i64 0), (.int .i64 0), (.int .i64 0), (.int .i64 0)]), 6, 48) := by kernel_rfl
-- the values' own types
structure S98 where
 f0 : Int
 f1 : Int
def z98 : S98 := ⟨(0 : Int), (0 : Int)⟩
def k98 : Kd S98 := Kd.iso (Kd.pair (Kd.int .i64) (Kd.int .i64)) (fun x : S98 => (x.f0, x.f1))
theorem k98_open {w : World} {x : S98} {cs : List Value} (h : k98.K w x cs) : cs = [.int .i64 x.f0, .int .i64 x.f1] := by
 obtain ⟨_, _, rfl, rfl, rfl⟩ := h
 exact rfl
theorem k98_openM {w : World} {base : Nat} {ok : Nat → Prop} {x : S98} {cs : List Value} (h : k98.M w base ok x cs) : cs = [.int .i64 x.f0, .int .i64 x.f1] := by
 obtain ⟨_, _, rfl, rfl, rfl⟩ := h
 exact rfl
theorem k98_mk (w : World) (x : S98)  : k98.K w x [.int .i64 x.f0, .int .i64 x.f1] := ⟨[.int .i64 x.f0], [.int .i64 x.f1], rfl, rfl, rfl⟩
theorem k98_mkM (w : World) (base : Nat) (ok : Nat → Prop) (x : S98)  : k98.M w base ok x [.int .i64 x.f0, .int .i64 x.f1] := ⟨[.int .i64 x.f0], [.int .i64 x.f1], rfl, rfl, rfl⟩
theorem k98_mkF (W : World) (ok : Nat → Prop) (x : S98) : Kd.FK k98 W ok x [.int .i64 x.f0, .int .i64 x.f1] := fun W2 _ => k98_mk W2 x
def rd_T98 (xs : List S98) (i : Int) : S98 := xs.getD i.toNat z98
theorem at_T98 {w : World} {A : Option Addr} {n : Nat} {xs : List S98} (h : Kd.C k98 w A n xs) (i : Int) (h0 : 0 ≤ i) (h1 : i < n) : ∃ ad , A = some ad ∧ w.cell? (ad.add (i.toNat * 2)) = some (.int .i64 (rd_T98 xs i).f0) ∧ w.cell? ⟨(ad.add (i.toNat * 2)).block, (ad.add (i.toNat * 2)).off + 1, none⟩ = some (.int .i64 (rd_T98 xs i).f1) := by
 obtain ⟨ad, c, e, _, hK, hc0⟩ := Kd.C_get h z98 i h0 h1
 have hc : ∀ j u, c[j]? = some u → w.cell? (ad.add (i.toNat * 2 + j)) = some u := hc0
 obtain rfl := k98_open hK
 exact ⟨ad, e, hc 0 _ rfl, by rw [← add_field _ _ 1 (by omega)]; exact hc 1 _ rfl⟩

structure S100 where
 f0 : Int
 f1 : S98
 f2 : Int
 f3 : S98
def z100 : S100 := ⟨(0 : Int), z98, (0 : Int), z98⟩
def k100 : Kd S100 := Kd.iso (Kd.pair (Kd.int .i64) (Kd.pair k98 (Kd.pair (Kd.int .i64) k98))) (fun x : S100 => (x.f0, x.f1, x.f2, x.f3))
theorem k100_open {w : World} {x : S100} {cs : List Value} (h : k100.K w x cs) : cs = [.int .i64 x.f0, .int .i64 x.f1.f0, .int .i64 x.f1.f1, .int .i64 x.f2, .int .i64 x.f3.f0, .int .i64 x.f3.f1] := by
 obtain ⟨_, _, rfl, rfl, ⟨_, _, rfl, s1, ⟨_, _, rfl, rfl, s4⟩⟩⟩ := h
 obtain rfl := k98_open s1
 obtain rfl := k98_open s4
 exact rfl
theorem k100_openM {w : World} {base : Nat} {ok : Nat → Prop} {x : S100} {cs : List Value} (h : k100.M w base ok x cs) : cs = [.int .i64 x.f0, .int .i64 x.f1.f0, .int .i64 x.f1.f1, .int .i64 x.f2, .int .i64 x.f3.f0, .int .i64 x.f3.f1] := by
 obtain ⟨_, _, rfl, rfl, ⟨_, _, rfl, s1, ⟨_, _, rfl, rfl, s4⟩⟩⟩ := h
 obtain rfl := k98_openM s1
 obtain rfl := k98_openM s4
 exact rfl
theorem k100_mk (w : World) (x : S100)  : k100.K w x [.int .i64 x.f0, .int .i64 x.f1.f0, .int .i64 x.f1.f1, .int .i64 x.f2, .int .i64 x.f3.f0, .int .i64 x.f3.f1] := ⟨[.int .i64 x.f0], [.int .i64 x.f1.f0, .int .i64 x.f1.f1, .int .i64 x.f2, .int .i64 x.f3.f0, .int .i64 x.f3.f1], rfl, rfl, ⟨[.int .i64 x.f1.f0, .int .i64 x.f1.f1], [.int .i64 x.f2, .int .i64 x.f3.f0, .int .i64 x.f3.f1], rfl, (k98_mk w x.f1 ), ⟨[.int .i64 x.f2], [.int .i64 x.f3.f0, .int .i64 x.f3.f1], rfl, rfl, (k98_mk w x.f3 )⟩⟩⟩
theorem k100_mkM (w : World) (base : Nat) (ok : Nat → Prop) (x : S100)  : k100.M w base ok x [.int .i64 x.f0, .int .i64 x.f1.f0, .int .i64 x.f1.f1, .int .i64 x.f2, .int .i64 x.f3.f0, .int .i64 x.f3.f1] := ⟨[.int .i64 x.f0], [.int .i64 x.f1.f0, .int .i64 x.f1.f1, .int .i64 x.f2, .int .i64 x.f3.f0, .int .i64 x.f3.f1], rfl, rfl, ⟨[.int .i64 x.f1.f0, .int .i64 x.f1.f1], [.int .i64 x.f2, .int .i64 x.f3.f0, .int .i64 x.f3.f1], rfl, (k98_mkM w base ok x.f1 ), ⟨[.int .i64 x.f2], [.int .i64 x.f3.f0, .int .i64 x.f3.f1], rfl, rfl, (k98_mkM w base ok x.f3 )⟩⟩⟩
theorem k100_mkF (W : World) (ok : Nat → Prop) (x : S100) : Kd.FK k100 W ok x [.int .i64 x.f0, .int .i64 x.f1.f0, .int .i64 x.f1.f1, .int .i64 x.f2, .int .i64 x.f3.f0, .int .i64 x.f3.f1] := fun W2 _ => k100_mk W2 x
def rd_T100 (xs : List S100) (i : Int) : S100 := xs.getD i.toNat z100
theorem at_T100 {w : World} {A : Option Addr} {n : Nat} {xs : List S100} (h : Kd.C k100 w A n xs) (i : Int) (h0 : 0 ≤ i) (h1 : i < n) : ∃ ad , A = some ad ∧ w.cell? (ad.add (i.toNat * 6)) = some (.int .i64 (rd_T100 xs i).f0) ∧ w.cell? ⟨(ad.add (i.toNat * 6)).block, (ad.add (i.toNat * 6)).off + 1, none⟩ = some (.int .i64 (rd_T100 xs i).f1.f0) ∧ w.cell? ⟨(ad.add (i.toNat * 6)).block, (ad.add (i.toNat * 6)).off + 2, none⟩ = some (.int .i64 (rd_T100 xs i).f1.f1) ∧ w.cell? ⟨(ad.add (i.toNat * 6)).block, (ad.add (i.toNat * 6)).off + 3, none⟩ = some (.int .i64 (rd_T100 xs i).f2) ∧ w.cell? ⟨(ad.add (i.toNat * 6)).block, (ad.add (i.toNat * 6)).off + 4, none⟩ = some (.int .i64 (rd_T100 xs i).f3.f0) ∧ w.cell? ⟨(ad.add (i.toNat * 6)).block, (ad.add (i.toNat * 6)).off + 5, none⟩ = some (.int .i64 (rd_T100 xs i).f3.f1) := by
 obtain ⟨ad, c, e, _, hK, hc0⟩ := Kd.C_get h z100 i h0 h1
 have hc : ∀ j u, c[j]? = some u → w.cell? (ad.add (i.toNat * 6 + j)) = some u := hc0
 obtain rfl := k100_open hK
 exact ⟨ad, e, hc 0 _ rfl, by rw [← add_field _ _ 1 (by omega)]; exact hc 1 _ rfl, by rw [← add_field _ _ 2 (by omega)]; exact hc 2 _ rfl, by rw [← add_field _ _ 3 (by omega)]; exact hc 3 _ rfl, by rw [← add_field _ _ 4 (by omega)]; exact hc 4 _ rfl, by rw [← add_field _ _ 5 (by omega)]; exact hc 5 _ rfl⟩

def rd_L3 (xs : List (List Int)) (i : Int) : (List Int) := xs.getD i.toNat ([] : List Int)
theorem at_L3 {w : World} {A : Option Addr} {n : Nat} {xs : List (List Int)} (h : Kd.C (Kd.slice 3 (Kd.int .i64)) w A n xs) (i : Int) (h0 : 0 ≤ i) (h1 : i < n) : ∃ ad A0 c0, A = some ad ∧ w.cell? (ad.add i.toNat) = some (.slice A0 (rd_L3 xs i).length c0) ∧ (rd_L3 xs i).length ≤ c0 ∧ (Kd.int .i64).C w A0 (rd_L3 xs i).length (rd_L3 xs i) := by
 obtain ⟨ad, c, e, _, hK, hc0⟩ := Kd.C_get h ([] : List Int) i h0 h1
 have hc : ∀ j u, c[j]? = some u → w.cell? (ad.add (i.toNat * 1 + j)) = some u := hc0
 obtain ⟨A0, c0, rfl, l0, g0⟩ := hK
 exact ⟨ad, A0, c0, e, by have hq := hc 0 _ rfl; rwa [Nat.mul_one, Nat.add_zero] at hq, l0, g0⟩

def rd_L4 (xs : List (List S100)) (i : Int) : (List S100) := xs.getD i.toNat ([] : List S100)
theorem at_L4 {w : World} {A : Option Addr} {n : Nat} {xs : List (List S100)} (h : Kd.C (Kd.slice 100 k100) w A n xs) (i : Int) (h0 : 0 ≤ i) (h1 : i < n) : ∃ ad A0 c0, A = some ad ∧ w.cell? (ad.add i.toNat) = some (.slice A0 (rd_L4 xs i).length c0) ∧ (rd_L4 xs i).length ≤ c0 ∧ k100.C w A0 (rd_L4 xs i).length (rd_L4 xs i) := by
 obtain ⟨ad, c, e, _, hK, hc0⟩ := Kd.C_get h ([] : List S100) i h0 h1
 have hc : ∀ j u, c[j]? = some u → w.cell? (ad.add (i.toNat * 1 + j)) = some u := hc0
 obtain ⟨A0, c0, rfl, l0, g0⟩ := hK
 exact ⟨ad, A0, c0, e, by have hq := hc 0 _ rfl; rwa [Nat.mul_one, Nat.add_zero] at hq, l0, g0⟩

structure S53 where
 f0 : (List Int)
 f1 : (List S100)
 f2 : Int
 f3 : Int
def z53 : S53 := ⟨([] : List Int), ([] : List S100), (0 : Int), (0 : Int)⟩
def k53 : Kd S53 := Kd.iso (Kd.pair (Kd.slice 3 (Kd.int .i64)) (Kd.pair (Kd.slice 100 k100) (Kd.pair (Kd.int .i64) (Kd.int .i64)))) (fun x : S53 => (x.f0, x.f1, x.f2, x.f3))
theorem k53_open {w : World} {x : S53} {cs : List Value} (h : k53.K w x cs) : ∃ A0 c0 A1 c1, cs = [.slice A0 x.f0.length c0, .slice A1 x.f1.length c1, .int .i64 x.f2, .int .i64 x.f3] ∧ x.f0.length ≤ c0 ∧ (Kd.int .i64).C w A0 x.f0.length x.f0 ∧ x.f1.length ≤ c1 ∧ k100.C w A1 x.f1.length x.f1 := by
 obtain ⟨_, _, rfl, ⟨A0, c0, rfl, l0, g0⟩, ⟨_, _, rfl, ⟨A1, c1, rfl, l1, g1⟩, ⟨_, _, rfl, rfl, rfl⟩⟩⟩ := h
 exact ⟨A0, c0, A1, c1, rfl, l0, g0, l1, g1⟩
theorem k53_openM {w : World} {base : Nat} {ok : Nat → Prop} {x : S53} {cs : List Value} (h : k53.M w base ok x cs) : ∃ v0 v1, cs = [v0, v1, .int .i64 x.f2, .int .i64 x.f3] ∧ (Kd.int .i64).R 3 w base ok v0 x.f0 ∧ k100.R 100 w base ok v1 x.f1 := by
 obtain ⟨_, _, rfl, ⟨v0, rfl, g0⟩, ⟨_, _, rfl, ⟨v1, rfl, g1⟩, ⟨_, _, rfl, rfl, rfl⟩⟩⟩ := h
 exact ⟨v0, v1, rfl, g0, g1⟩
theorem k53_mk (w : World) (x : S53) {A0 : Option Addr} {c0 : Nat} (l0 : x.f0.length ≤ c0) (g0 : (Kd.int .i64).C w A0 x.f0.length x.f0) {A1 : Option Addr} {c1 : Nat} (l1 : x.f1.length ≤ c1) (g1 : k100.C w A1 x.f1.length x.f1) : k53.K w x [.slice A0 x.f0.length c0, .slice A1 x.f1.length c1, .int .i64 x.f2, .int .i64 x.f3] := ⟨[.slice A0 x.f0.length c0], [.slice A1 x.f1.length c1, .int .i64 x.f2, .int .i64 x.f3], rfl, ⟨A0, c0, rfl, l0, g0⟩, ⟨[.slice A1 x.f1.length c1], [.int .i64 x.f2, .int .i64 x.f3], rfl, ⟨A1, c1, rfl, l1, g1⟩, ⟨[.int .i64 x.f2], [.int .i64 x.f3], rfl, rfl, rfl⟩⟩⟩
theorem k53_mkM (w : World) (base : Nat) (ok : Nat → Prop) (x : S53) {v0 : Value} (g0 : (Kd.int .i64).R 3 w base ok v0 x.f0) {v1 : Value} (g1 : k100.R 100 w base ok v1 x.f1) : k53.M w base ok x [v0, v1, .int .i64 x.f2, .int .i64 x.f3] := ⟨[v0], [v1, .int .i64 x.f2, .int .i64 x.f3], rfl, ⟨v0, rfl, g0⟩, ⟨[v1], [.int .i64 x.f2, .int .i64 x.f3], rfl, ⟨v1, rfl, g1⟩, ⟨[.int .i64 x.f2], [.int .i64 x.f3], rfl, rfl, rfl⟩⟩⟩
theorem k53_openF {W : World} {ok : Nat → Prop} {x : S53} {cs : List Value} (h : Kd.FK k53 W ok x cs) : ∃ A0 c0 A1 c1, cs = [.slice A0 x.f0.length c0, .slice A1 x.f1.length c1, .int .i64 x.f2, .int .i64 x.f3] ∧ x.f0.length ≤ c0 ∧ Kd.F (Kd.int .i64) W ok A0 x.f0.length x.f0 ∧ x.f1.length ≤ c1 ∧ Kd.F k100 W ok A1 x.f1.length x.f1 := by
 obtain ⟨A0, c0, A1, c1, rfl, l0, _, l1, _⟩ := k53_open (Kd.FK_now h)
 exact ⟨A0, c0, A1, c1, rfl, l0, (fun W' hW => by obtain ⟨A0_, c0_, A1_, c1_, he, l0_, g0_, l1_, g1_⟩ := k53_open (h W' hW); injection (Option.some.inj (show some (Value.slice A0 x.f0.length c0) = some (Value.slice A0_ x.f0.length c0_) from congrArg (fun l => l[0]?) he)) with ha_ _ _; rw [ha_]; exact g0_), l1, (fun W' hW => by obtain ⟨A0_, c0_, A1_, c1_, he, l0_, g0_, l1_, g1_⟩ := k53_open (h W' hW); injection (Option.some.inj (show some (Value.slice A1 x.f1.length c1) = some (Value.slice A1_ x.f1.length c1_) from congrArg (fun l => l[1]?) he)) with ha_ _ _; rw [ha_]; exact g1_)⟩
theorem k53_mkF (W : World) (ok : Nat → Prop) (x : S53) {A0 : Option Addr} {c0 : Nat} (l0 : x.f0.length ≤ c0) (g0 : Kd.F (Kd.int .i64) W ok A0 x.f0.length x.f0) {A1 : Option Addr} {c1 : Nat} (l1 : x.f1.length ≤ c1) (g1 : Kd.F k100 W ok A1 x.f1.length x.f1) : Kd.FK k53 W ok x [.slice A0 x.f0.length c0, .slice A1 x.f1.length c1, .int .i64 x.f2, .int .i64 x.f3] := fun W2 hW => k53_mk W2 x l0 (g0 W2 hW) l1 (g1 W2 hW)
def rd_T53 (xs : List S53) (i : Int) : S53 := xs.getD i.toNat z53
theorem at_T53 {w : World} {A : Option Addr} {n : Nat} {xs : List S53} (h : Kd.C k53 w A n xs) (i : Int) (h0 : 0 ≤ i) (h1 : i < n) : ∃ ad A0 c0 A1 c1, A = some ad ∧ w.cell? (ad.add (i.toNat * 4)) = some (.slice A0 (rd_T53 xs i).f0.length c0) ∧ w.cell? ⟨(ad.add (i.toNat * 4)).block, (ad.add (i.toNat * 4)).off + 1, none⟩ = some (.slice A1 (rd_T53 xs i).f1.length c1) ∧ w.cell? ⟨(ad.add (i.toNat * 4)).block, (ad.add (i.toNat * 4)).off + 2, none⟩ = some (.int .i64 (rd_T53 xs i).f2) ∧ w.cell? ⟨(ad.add (i.toNat * 4)).block, (ad.add (i.toNat * 4)).off + 3, none⟩ = some (.int .i64 (rd_T53 xs i).f3) ∧ (rd_T53 xs i).f0.length ≤ c0 ∧ (Kd.int .i64).C w A0 (rd_T53 xs i).f0.length (rd_T53 xs i).f0 ∧ (rd_T53 xs i).f1.length ≤ c1 ∧ k100.C w A1 (rd_T53 xs i).f1.length (rd_T53 xs i).f1 := by
 obtain ⟨ad, c, e, _, hK, hc0⟩ := Kd.C_get h z53 i h0 h1
 have hc : ∀ j u, c[j]? = some u → w.cell? (ad.add (i.toNat * 4 + j)) = some u := hc0
 obtain ⟨A0, c0, A1, c1, rfl, l0, g0, l1, g1⟩ := k53_open hK
 exact ⟨ad, A0, c0, A1, c1, e, hc 0 _ rfl, by rw [← add_field _ _ 1 (by omega)]; exact hc 1 _ rfl, by rw [← add_field _ _ 2 (by omega)]; exact hc 2 _ rfl, by rw [← add_field _ _ 3 (by omega)]; exact hc 3 _ rfl, l0, g0, l1, g1⟩

end Go.Proofs.Ytjfmpodeenidnaa.PC

namespace Go.Proofs.Ytjfmpodeenidnaa.PC
open Go.RowKit Go.Proofs.Ytjfmpodeenidnaa.Short Go.Proofs.YtjfmpodeenidnaaW.PrintWords Go.Proofs.YtjfmpodeenidnaaW.PrintLast Go.Proofs.YtjfmpodeenidnaaW.PrintMore
attribute [local go_sem] max2_int min2_int max_two min_two max_three min_three max_four min_four   -- for this text's walks alone
set_option linter.unusedVariables false
set_option linter.unusedSimpArgs false

def spec_l01In.f (a0 : Int) (a1 : Int) (a2 : Int) : Option (Bool) := if a0 ≥ a1 then (some (decide (a0 ≤ a2))) else (some false)
theorem spec_l01In.calls (a0 : Int) (a1 : Int) (a2 : Int) (r : Bool) (w : World) (h : spec_l01In.f a0 a1 a2 = some r) :
 Calls Try.prog 87 #[.int .i64 a0, .int .i64 a1, .int .i64 a2] w fun e w' => e = .returned (.bool r) ∧ Drawn0 w w' := by
 have H := h
 unfold spec_l01In.f at H
 clear h
 by_cases c4 : a0 ≥ a1
 rotate_left
 ·rw [if_neg c4] at H
  have c4b0 := decide_eq_false c4
  clear c4
  obtain rfl := Option.some.inj H
  go_enter Try.func87, Try.ntmps87
  go_wp2
  go_ret
  exact ⟨sr_, by repeat (first | exact Drawn0.refl _ | apply Drawn0.step)⟩
 rw [if_pos c4] at H
 have c4b0 := decide_eq_true c4
 clear c4
 obtain rfl := Option.some.inj H
 go_enter Try.func87, Try.ntmps87
 go_wp2
 go_ret
 exact ⟨sr_, by repeat (first | exact Drawn0.refl _ | apply Drawn0.step)⟩


def spec_HalfOk.f (a0 : Int) : Option (Bool) := (spec_l01In.f a0 0 4294967295).bind fun t101 => (some t101)
theorem spec_HalfOk.calls (a0 : Int) (r : Bool) (w : World) (h : spec_HalfOk.f a0 = some r) :
 Calls Try.prog 75 #[.int .i64 a0] w fun e w' => e = .returned (.bool r) ∧ Drawn0 w w' := by
 have H := h
 unfold spec_HalfOk.f at H
 clear h
 replace H := bs_ H
 obtain ⟨t101, A2, H⟩ := H
 try dsimp only at H
 obtain rfl := Option.some.inj H
 go_enter Try.func75, Try.ntmps75
 go_wp2_with (first | ((with_reducible refine gate_callee (f := 87) rfl ?_); refine gs_ (some 4) Try.func87 #[.int .i64 a0, .int .i64 0, .int .i64 4294967295] ?_; (with_reducible refine (spec_l01In.calls a0 0 4294967295 t101 _ A2.out).mono ?_); rintro e w' ⟨rfl, ⟨nd, rfl⟩⟩; refine ⟨_, rfl, ?_⟩))
 go_ret
 exact ⟨sr_, by repeat (first | exact Drawn0.refl _ | apply Drawn0.step)⟩


def spec_l09Act.f (a0 : Int) (a1 : Int) : Option (Bool) := (spec_l01In.f a0 0 5).bind fun t102 => (if t102 = true then ((spec_l01In.f a1 0 65535).bind fun t103 => (some t103)) else (some false))
theorem spec_l09Act.calls (a0 : Int) (a1 : Int) (r : Bool) (w : World) (h : spec_l09Act.f a0 a1 = some r) :
 Calls Try.prog 76 #[.int .i64 a0, .int .i64 a1] w fun e w' => e = .returned (.bool r) ∧ Drawn0 w w' := by
 have H := h
 unfold spec_l09Act.f at H
 clear h
 replace H := bs_ H
 obtain ⟨t102, A3, H⟩ := H
 try dsimp only at H
 by_cases c4 : t102 = true
 rotate_left
 ·replace c4 := Bool.eq_false_iff.mpr c4
  subst c4
  rw [nf_] at H
  obtain rfl := Option.some.inj H
  go_enter Try.func76, Try.ntmps76
  go_wp2_with (first | ((with_reducible refine gate_callee (f := 87) rfl ?_); refine gs_ (some 6) Try.func87 #[.int .i64 a0, .int .i64 0, .int .i64 5] ?_; (with_reducible refine (spec_l01In.calls a0 0 5 false _ A3.out).mono ?_); rintro e w' ⟨rfl, ⟨nd, rfl⟩⟩; refine ⟨_, rfl, ?_⟩))
  go_ret
  exact ⟨sr_, by repeat (first | exact Drawn0.refl _ | apply Drawn0.step)⟩
 subst c4
 rw [if_pos rfl] at H
 replace H := bs_ H
 obtain ⟨t103, A5, H⟩ := H
 try dsimp only at H
 obtain rfl := Option.some.inj H
 go_enter Try.func76, Try.ntmps76
 go_wp2_with (first | ((with_reducible refine gate_callee (f := 87) rfl ?_); refine gs_ (some 6) Try.func87 #[.int .i64 a0, .int .i64 0, .int .i64 5] ?_; (with_reducible refine (spec_l01In.calls a0 0 5 true _ A3.out).mono ?_); rintro e w' ⟨rfl, ⟨nd, rfl⟩⟩; refine ⟨_, rfl, ?_⟩) | (go_at_call 87; (with_reducible refine (spec_l01In.calls a1 0 65535 t103 _ A5.out).mono ?_); rintro e w' ⟨rfl, ⟨nd, rfl⟩⟩))
 go_ret
 exact ⟨sr_, by repeat (first | exact Drawn0.refl _ | apply Drawn0.step)⟩


def spec_WideOk.f (a0_0 : Int) (a0_1 : Int) : Option (Bool) := (spec_HalfOk.f a0_0).bind fun t105 => (if t105 = true then ((spec_HalfOk.f a0_1).bind fun t106 => (some t106)) else (some false))
theorem spec_WideOk.calls (a0_0 : Int) (a0_1 : Int) (r : Bool) (w : World) (h : spec_WideOk.f a0_0 a0_1 = some r) :
 Calls Try.prog 110 #[.agg #[.int .i64 a0_0, .int .i64 a0_1]] w fun e w' => e = .returned (.bool r) ∧ Below w.heap.size w w' := by
 have hu98 := Try.underlying98
 have HB := Aside0.mk (Below.refl w.heap.size w)
 have H := h
 unfold spec_WideOk.f at H
 clear h
 replace H := bs_ H
 obtain ⟨t105, A2, H⟩ := H
 try dsimp only at H
 by_cases c3 : t105 = true
 rotate_left
 ·replace c3 := Bool.eq_false_iff.mpr c3
  subst c3
  rw [nf_] at H
  obtain rfl := Option.some.inj H
  go_enter Try.func110, Try.ntmps110
  go_wp2_with (first | ((with_reducible refine gate_dst (N := 1) rfl ?_); refine bx_ 1 98 #[.int .i64 a0_0, .int .i64 a0_1] ?_; intro gb104 hg w7 hbox hb; have BK104 := Aside0.mk (hbox); have GW104 := Aside0.mk ((hz_ : w.heap.size ≤ gb104)); have GE104 := GW104; replace HB := Aside0.mk (below_step bl_ hb); clear hb hbox hg; obtain ⟨hcz8_0, hcz8_1, hfz8_0, hfz8_1⟩ := cf2_ BK104.out) | ((with_reducible refine gate_callee (f := 75) rfl ?_); refine gs_ (some 5) Try.func75 #[.int .i64 a0_0] ?_; (with_reducible refine (spec_HalfOk.calls a0_0 false _ A2.out).mono ?_); rintro e w' ⟨rfl, ⟨nd, rfl⟩⟩; refine ⟨_, rfl, ?_⟩))
  go_ret
  exact ⟨er_, bl_⟩
 subst c3
 rw [if_pos rfl] at H
 replace H := bs_ H
 obtain ⟨t106, A4, H⟩ := H
 try dsimp only at H
 obtain rfl := Option.some.inj H
 go_enter Try.func110, Try.ntmps110
 go_wp2_with (first | ((with_reducible refine gate_dst (N := 1) rfl ?_); refine bx_ 1 98 #[.int .i64 a0_0, .int .i64 a0_1] ?_; intro gb104 hg w5 hbox hb; have BK104 := Aside0.mk (hbox); have GW104 := Aside0.mk ((hz_ : w.heap.size ≤ gb104)); have GE104 := GW104; replace HB := Aside0.mk (below_step bl_ hb); clear hb hbox hg; obtain ⟨hcz6_0, hcz6_1, hfz6_0, hfz6_1⟩ := cf2_ BK104.out) | ((with_reducible refine gate_callee (f := 75) rfl ?_); refine gs_ (some 5) Try.func75 #[.int .i64 a0_0] ?_; (with_reducible refine (spec_HalfOk.calls a0_0 true _ A2.out).mono ?_); rintro e w' ⟨rfl, ⟨nd, rfl⟩⟩; refine ⟨_, rfl, ?_⟩) | (go_at_call 75; (with_reducible refine (spec_HalfOk.calls a0_1 t106 _ A4.out).mono ?_); rintro e w' ⟨rfl, ⟨nd, rfl⟩⟩))
 go_ret
 exact ⟨er_, bl_⟩


def spec_CondOk.f (a0_0 : Int) (a0_1 : Int) (a0_2 : Int) (a0_3 : Int) (a0_4 : Int) (a0_5 : Int) : Option (Bool) := (spec_l01In.f a0_0 0 2).bind fun t108 => (if t108 = true then ((spec_WideOk.f a0_1 a0_2).bind fun t109 => (if t109 = true then ((spec_WideOk.f a0_4 a0_5).bind fun t110 => (if t110 = true then ((spec_l01In.f a0_3 1 6).bind fun t111 => (some t111)) else (some false))) else (some false))) else (some false))
theorem spec_CondOk.calls (a0_0 : Int) (a0_1 : Int) (a0_2 : Int) (a0_3 : Int) (a0_4 : Int) (a0_5 : Int) (r : Bool) (w : World) (h : spec_CondOk.f a0_0 a0_1 a0_2 a0_3 a0_4 a0_5 = some r) :
 Calls Try.prog 112 #[.agg #[.int .i64 a0_0, .int .i64 a0_1, .int .i64 a0_2, .int .i64 a0_3, .int .i64 a0_4, .int .i64 a0_5]] w fun e w' => e = .returned (.bool r) ∧ Below w.heap.size w w' := by
 have hu100 := Try.underlying100
 have hu98 := Try.underlying98
 have HB := Aside0.mk (Below.refl w.heap.size w)
 have H := h
 unfold spec_CondOk.f at H
 clear h
 replace H := bs_ H
 obtain ⟨t108, A2, H⟩ := H
 try dsimp only at H
 by_cases c3 : t108 = true
 rotate_left
 ·replace c3 := Bool.eq_false_iff.mpr c3
  subst c3
  rw [nf_] at H
  obtain rfl := Option.some.inj H
  go_enter Try.func112, Try.ntmps112
  go_wp2_with (first | ((with_reducible refine gate_dst (N := 1) rfl ?_); refine bx_ 1 100 #[.int .i64 a0_0, .int .i64 a0_1, .int .i64 a0_2, .int .i64 a0_3, .int .i64 a0_4, .int .i64 a0_5] ?_; intro gb107 hg w23 hbox hb; have BK107 := Aside0.mk (hbox); have GW107 := Aside0.mk ((hz_ : w.heap.size ≤ gb107)); have GE107 := GW107; replace HB := Aside0.mk (below_step bl_ hb); clear hb hbox hg; obtain ⟨hcz24_0, hcz24_1, hcz24_2, hcz24_3, hcz24_4, hcz24_5, hfz24_0, hfz24_1, hfz24_2, hfz24_3, hfz24_4, hfz24_5⟩ := cf6_ BK107.out) | ((with_reducible refine gate_callee (f := 87) rfl ?_); refine gs_ (some 5) Try.func87 #[.int .i64 a0_0, .int .i64 0, .int .i64 2] ?_; (with_reducible refine (spec_l01In.calls a0_0 0 2 false _ A2.out).mono ?_); rintro e w' ⟨rfl, ⟨nd, rfl⟩⟩; refine ⟨_, rfl, ?_⟩))
  go_ret
  exact ⟨er_, bl_⟩
 subst c3
 rw [if_pos rfl] at H
 replace H := bs_ H
 obtain ⟨t109, A4, H⟩ := H
 try dsimp only at H
 by_cases c5 : t109 = true
 rotate_left
 ·replace c5 := Bool.eq_false_iff.mpr c5
  subst c5
  rw [nf_] at H
  obtain rfl := Option.some.inj H
  go_enter Try.func112, Try.ntmps112
  go_wp2_with (first | ((with_reducible refine gate_dst (N := 1) rfl ?_); refine bx_ 1 100 #[.int .i64 a0_0, .int .i64 a0_1, .int .i64 a0_2, .int .i64 a0_3, .int .i64 a0_4, .int .i64 a0_5] ?_; intro gb107 hg w20 hbox hb; have BK107 := Aside0.mk (hbox); have GW107 := Aside0.mk ((hz_ : w.heap.size ≤ gb107)); have GE107 := GW107; replace HB := Aside0.mk (below_step bl_ hb); clear hb hbox hg; obtain ⟨hcz21_0, hcz21_1, hcz21_2, hcz21_3, hcz21_4, hcz21_5, hfz21_0, hfz21_1, hfz21_2, hfz21_3, hfz21_4, hfz21_5⟩ := cf6_ BK107.out) | ((with_reducible refine gate_callee (f := 87) rfl ?_); refine gs_ (some 5) Try.func87 #[.int .i64 a0_0, .int .i64 0, .int .i64 2] ?_; (with_reducible refine (spec_l01In.calls a0_0 0 2 true _ A2.out).mono ?_); rintro e w' ⟨rfl, ⟨nd, rfl⟩⟩; refine ⟨_, rfl, ?_⟩) | (go_at_call 110; (with_reducible refine (spec_WideOk.calls a0_1 a0_2 false _ A4.out).mono ?_); rintro e w22 ⟨rfl, hb⟩; replace BK107 := bb0_ BK107.out hb; replace HB := Aside0.mk (below_step bl_ hb); (try clear hb)))
  go_ret
  exact ⟨er_, bl_⟩
 subst c5
 rw [if_pos rfl] at H
 replace H := bs_ H
 obtain ⟨t110, A6, H⟩ := H
 try dsimp only at H
 by_cases c7 : t110 = true
 rotate_left
 ·replace c7 := Bool.eq_false_iff.mpr c7
  subst c7
  rw [nf_] at H
  obtain rfl := Option.some.inj H
  go_enter Try.func112, Try.ntmps112
  go_wp2_with (first | ((with_reducible refine gate_dst (N := 1) rfl ?_); refine bx_ 1 100 #[.int .i64 a0_0, .int .i64 a0_1, .int .i64 a0_2, .int .i64 a0_3, .int .i64 a0_4, .int .i64 a0_5] ?_; intro gb107 hg w15 hbox hb; have BK107 := Aside0.mk (hbox); have GW107 := Aside0.mk ((hz_ : w.heap.size ≤ gb107)); have GE107 := GW107; replace HB := Aside0.mk (below_step bl_ hb); clear hb hbox hg; obtain ⟨hcz16_0, hcz16_1, hcz16_2, hcz16_3, hcz16_4, hcz16_5, hfz16_0, hfz16_1, hfz16_2, hfz16_3, hfz16_4, hfz16_5⟩ := cf6_ BK107.out) | ((with_reducible refine gate_callee (f := 87) rfl ?_); refine gs_ (some 5) Try.func87 #[.int .i64 a0_0, .int .i64 0, .int .i64 2] ?_; (with_reducible refine (spec_l01In.calls a0_0 0 2 true _ A2.out).mono ?_); rintro e w' ⟨rfl, ⟨nd, rfl⟩⟩; refine ⟨_, rfl, ?_⟩) | (go_at_call 110; (with_reducible refine (spec_WideOk.calls a0_1 a0_2 true _ A4.out).mono ?_); rintro e w17 ⟨rfl, hb⟩; replace BK107 := bb0_ BK107.out hb; replace HB := Aside0.mk (below_step bl_ hb); obtain ⟨hcz18_0, hcz18_1, hcz18_2, hcz18_3, hcz18_4, hcz18_5, hfz18_0, hfz18_1, hfz18_2, hfz18_3, hfz18_4, hfz18_5⟩ := cf6_ BK107.out) | (go_at_call 110; (with_reducible refine (spec_WideOk.calls a0_4 a0_5 false _ A6.out).mono ?_); rintro e w19 ⟨rfl, hb⟩; replace BK107 := bb0_ BK107.out hb; replace HB := Aside0.mk (below_step bl_ hb); (try clear hb)))
  go_ret
  exact ⟨er_, bl_⟩
 subst c7
 rw [if_pos rfl] at H
 replace H := bs_ H
 obtain ⟨t111, A8, H⟩ := H
 try dsimp only at H
 obtain rfl := Option.some.inj H
 go_enter Try.func112, Try.ntmps112
 go_wp2_with (first | ((with_reducible refine gate_dst (N := 1) rfl ?_); refine bx_ 1 100 #[.int .i64 a0_0, .int .i64 a0_1, .int .i64 a0_2, .int .i64 a0_3, .int .i64 a0_4, .int .i64 a0_5] ?_; intro gb107 hg w9 hbox hb; have BK107 := Aside0.mk (hbox); have GW107 := Aside0.mk ((hz_ : w.heap.size ≤ gb107)); have GE107 := GW107; replace HB := Aside0.mk (below_step bl_ hb); clear hb hbox hg; obtain ⟨hcz10_0, hcz10_1, hcz10_2, hcz10_3, hcz10_4, hcz10_5, hfz10_0, hfz10_1, hfz10_2, hfz10_3, hfz10_4, hfz10_5⟩ := cf6_ BK107.out) | ((with_reducible refine gate_callee (f := 87) rfl ?_); refine gs_ (some 5) Try.func87 #[.int .i64 a0_0, .int .i64 0, .int .i64 2] ?_; (with_reducible refine (spec_l01In.calls a0_0 0 2 true _ A2.out).mono ?_); rintro e w' ⟨rfl, ⟨nd, rfl⟩⟩; refine ⟨_, rfl, ?_⟩) | (go_at_call 110; (with_reducible refine (spec_WideOk.calls a0_1 a0_2 true _ A4.out).mono ?_); rintro e w11 ⟨rfl, hb⟩; replace BK107 := bb0_ BK107.out hb; replace HB := Aside0.mk (below_step bl_ hb); obtain ⟨hcz12_0, hcz12_1, hcz12_2, hcz12_3, hcz12_4, hcz12_5, hfz12_0, hfz12_1, hfz12_2, hfz12_3, hfz12_4, hfz12_5⟩ := cf6_ BK107.out) | (go_at_call 110; (with_reducible refine (spec_WideOk.calls a0_4 a0_5 true _ A6.out).mono ?_); rintro e w13 ⟨rfl, hb⟩; replace BK107 := bb0_ BK107.out hb; replace HB := Aside0.mk (below_step bl_ hb); obtain ⟨hcz14_0, hcz14_1, hcz14_2, hcz14_3, hcz14_4, hcz14_5, hfz14_0, hfz14_1, hfz14_2, hfz14_3, hfz14_4, hfz14_5⟩ := cf6_ BK107.out) | (go_at_call 87; (with_reducible refine (spec_l01In.calls a0_3 1 6 t111 _ A8.out).mono ?_); rintro e w' ⟨rfl, ⟨nd, rfl⟩⟩))
 go_ret
 exact ⟨er_, bl_⟩


mutual
def spec_l09Rule.l0 : Nat → Int → List Int → List (S100) → Int → Int → Option (Bool)
 | 0, _, _, _, _, _ => none
 | k + 1, x3, x113000, x113001, x113002, x113003 => if x3 < (x113000.length : Int) then (if 0 ≤ x3 then ((spec_HalfOk.f (rd x113000 x3)).bind fun t114 => (if t114 = true then (if x3 > 0 then (if 0 ≤ (wrap64 (x3 - 1)) then (if (wrap64 (x3 - 1)) < (x113000.length : Int) then (if (rd x113000 (wrap64 (x3 - 1))) ≥ (rd x113000 x3) then (some false) else (spec_l09Rule.l0 k (wrap64 (x3 + 1)) x113000 x113001 x113002 x113003)) else (none)) else (none)) else (spec_l09Rule.l0 k (wrap64 (x3 + 1)) x113000 x113001 x113002 x113003)) else (some false))) else (none)) else (spec_l09Rule.l1 k 0 x113000 x113001 x113002 x113003)
def spec_l09Rule.l1 : Nat → Int → List Int → List (S100) → Int → Int → Option (Bool)
 | 0, _, _, _, _, _ => none
 | k + 1, x4, x113000, x113001, x113002, x113003 => if x4 < (x113001.length : Int) then (if 0 ≤ x4 then ((spec_CondOk.f ((rd_T100 x113001 x4).f0) ((rd_T100 x113001 x4).f1.f0) ((rd_T100 x113001 x4).f1.f1) ((rd_T100 x113001 x4).f2) ((rd_T100 x113001 x4).f3.f0) ((rd_T100 x113001 x4).f3.f1)).bind fun t118 => (if t118 = true then (spec_l09Rule.l1 k (wrap64 (x4 + 1)) x113000 x113001 x113002 x113003) else (some false))) else (none)) else (if (x113000.length : Int) ≤ 4 then (if (x113001.length : Int) ≤ 3 then ((spec_l09Act.f x113002 x113003).bind fun t119 => (some t119)) else (some false)) else (some false))
end
def spec_l09Rule.f (k : Nat) (l0_0 : List Int) (l0_1 : List (S100)) (a0_2 : Int) (a0_3 : Int) : Option (Bool) := spec_l09Rule.l0 k 0 l0_0 l0_1 a0_2 a0_3
theorem spec_l09Rule.mono_l : ∀ k, (∀ y0 y1 y2 y3 y4, LeO (spec_l09Rule.l0 k y0 y1 y2 y3 y4) (spec_l09Rule.l0 (k + 1) y0 y1 y2 y3 y4)) ∧ (∀ y0 y1 y2 y3 y4, LeO (spec_l09Rule.l1 k y0 y1 y2 y3 y4) (spec_l09Rule.l1 (k + 1) y0 y1 y2 y3 y4))
 | 0 => ⟨fun _ _ _ _ _ r h => by simp [spec_l09Rule.l0] at h, fun _ _ _ _ _ r h => by simp [spec_l09Rule.l1] at h⟩
 | k + 1 => by
  obtain ⟨ih0, ih1⟩ := spec_l09Rule.mono_l k
  refine ⟨?_, ?_⟩
  ·intro y0 y1 y2 y3 y4
   unfold spec_l09Rule.l0
   exact mo_
  ·intro y0 y1 y2 y3 y4
   unfold spec_l09Rule.l1
   exact mo_
theorem spec_l09Rule.mono : ∀ a0 a1 a2 a3 k, LeO (spec_l09Rule.f k a0 a1 a2 a3) (spec_l09Rule.f (k + 1) a0 a1 a2 a3) := by
 intro a0 a1 a2 a3 k
 obtain ⟨ih0, ih1⟩ := spec_l09Rule.mono_l k
 unfold spec_l09Rule.f
 exact mo_
theorem spec_l09Rule.calls (k : Nat) (A0_0 : Option Addr) (c0_0 : Nat) (l0_0 : List Int) (A0_1 : Option Addr) (c0_1 : Nat) (l0_1 : List (S100)) (a0_2 : Int) (a0_3 : Int) (r : Bool) (w : World) (hr0_0 : Kd.C (Kd.int .i64) w A0_0 l0_0.length l0_0) (hc0_0 : l0_0.length ≤ c0_0) (hr0_1 : Kd.C k100 w A0_1 l0_1.length l0_1) (hc0_1 : l0_1.length ≤ c0_1) (h : spec_l09Rule.f k l0_0 l0_1 a0_2 a0_3 = some r) :
 Calls Try.prog 74 #[.agg #[.slice A0_0 l0_0.length c0_0, .slice A0_1 l0_1.length c0_1, .int .i64 a0_2, .int .i64 a0_3]] w fun e w' => e = .returned (.bool r) ∧ Below w.heap.size w w' := by
 have hu53 := Try.underlying53
 have hu100 := Try.underlying100
 have HR0_0 := Aside0.mk hr0_0
 have HC0_0 := Aside0.mk hc0_0
 clear hr0_0 hc0_0
 have HR0_1 := Aside0.mk hr0_1
 have HC0_1 := Aside0.mk hc0_1
 clear hr0_1 hc0_1
 have HB := Aside0.mk (Below.refl w.heap.size w)
 have H := h
 unfold spec_l09Rule.f at H
 clear h
 have H' := Aside0.mk H
 clear H
 go_enter Try.func74, Try.ntmps74
 go_wp2_with (((with_reducible refine gate_dst (N := 1) rfl ?_); (try (refine gate_guard (by rfl) ?_; dsimp only)); refine bx_ 1 53 #[.slice A0_0 l0_0.length c0_0, .slice A0_1 l0_1.length c0_1, .int .i64 a0_2, .int .i64 a0_3] ?_; intro gb112 hg w2 hbox hb; have BK112 := Aside0.mk (hbox); have GW112 := Aside0.mk ((hz_ : w.heap.size ≤ gb112)); have GE112 := GW112; replace HB := Aside0.mk (below_step bl_ hb); clear hb hbox hg))
 repeat (go_quiet (fail); try go_wp2_with (fail))
 go_loopg [3] k (fun kq v3 w' => ∃ (x3_1 : Int), v3 = .int .i64 x3_1 ∧ Aside0 (spec_l09Rule.l0 kq x3_1 l0_0 l0_1 a0_2 a0_3 = some r) ∧ Aside0 (kq ≤ k) ∧ Aside0 (w'.heap[gb112]? = some (.cells #[(.slice A0_0 l0_0.length c0_0), (.slice A0_1 l0_1.length c0_1), .int .i64 a0_2, .int .i64 a0_3] 53 (0, 0))) ∧ Aside0 (Below w.heap.size w w'))
 case atStart => exact ⟨(0), (sr_), H', ⟨Nat.le_refl _⟩, ⟨bk_ BK112.out⟩, ⟨bl_⟩⟩
 clear H'
 obtain ⟨x3_1, rfl, HA, HK1, BK112, HB⟩ := hrel
 cases gk with
 | zero => exact absurd HA.out (by simp [spec_l09Rule.l0])
 | succ k1 => ?_
 have H := HA.out
 clear HA
 simp only [spec_l09Rule.l0] at H
 by_cases c3 : x3_1 < (l0_0.length : Int)
 ·rw [if_pos c3] at H
  have c3b0 := decide_eq_true c3
  clear c3
  by_cases c4 : 0 ≤ x3_1
  rotate_left
  ·exact nn_ c4 H
  rw [if_pos c4] at H
  have c4b0 := decide_eq_true c4
  clear c4
  replace H := bs_ H
  obtain ⟨t114, A5, H⟩ := H
  try dsimp only at H
  by_cases c6 : t114 = true
  rotate_left
  ·replace c6 := Bool.eq_false_iff.mpr c6
   subst c6
   rw [nf_] at H
   obtain rfl := Option.some.inj H
   obtain ⟨hcz15_0, hcz15_1, hcz15_2, hcz15_3, hfz15_0, hfz15_1, hfz15_2, hfz15_3⟩ := cf4_ BK112.out
   have p113 : 0 ≤ (x3_1 : Int) := of_decide_eq_true as_
   have q113 : x3_1 < (l0_0.length : Int) := of_decide_eq_true as_
   obtain ⟨ad113, e113, hx113_0⟩ := Kd.at_int HR0_0.out x3_1 p113 q113
   cases e113
   replace hx113_0 := (HB.out.cell (World.block_lt_of_cell? w _ hx113_0)).trans hx113_0
   replace p113 := eq_true p113
   replace q113 := eq_true q113
   go_wp2_with (fail)
   repeat (go_quiet ((go_at_call 75; (with_reducible refine (spec_HalfOk.calls (rd l0_0 x3_1) false _ A5.out).mono ?_); rintro e w' ⟨rfl, ⟨nd, rfl⟩⟩; (try first | exact ⟨rfl, _, World.drewN_drewN _ _ _⟩ | exact ⟨rfl, _, Eq.trans (World.drewN_drewN _ _ _) (congrArg (World.drewN _) (Nat.add_assoc _ _ _))⟩))); try go_wp2_with (fail))
   go_ret
   exact ⟨er_, bl_⟩
  subst c6
  rw [if_pos rfl] at H
  by_cases c7 : x3_1 > 0
  rotate_left
  ·rw [if_neg c7] at H
   have c7b0 := decide_eq_false c7
   clear c7
   have H' := Aside0.mk H
   clear H
   obtain ⟨hcz14_0, hcz14_1, hcz14_2, hcz14_3, hfz14_0, hfz14_1, hfz14_2, hfz14_3⟩ := cf4_ BK112.out
   have p113 : 0 ≤ (x3_1 : Int) := of_decide_eq_true as_
   have q113 : x3_1 < (l0_0.length : Int) := of_decide_eq_true as_
   obtain ⟨ad113, e113, hx113_0⟩ := Kd.at_int HR0_0.out x3_1 p113 q113
   cases e113
   replace hx113_0 := (HB.out.cell (World.block_lt_of_cell? w _ hx113_0)).trans hx113_0
   replace p113 := eq_true p113
   replace q113 := eq_true q113
   go_wp2_with (fail)
   repeat (go_quiet ((go_at_call 75; (with_reducible refine (spec_HalfOk.calls (rd l0_0 x3_1) true _ A5.out).mono ?_); rintro e w' ⟨rfl, ⟨nd, rfl⟩⟩; (try first | exact ⟨rfl, _, World.drewN_drewN _ _ _⟩ | exact ⟨rfl, _, Eq.trans (World.drewN_drewN _ _ _) (congrArg (World.drewN _) (Nat.add_assoc _ _ _))⟩))); try go_wp2_with (fail))
   go_roundg k1
   case measure => have := HK1.out; omega
   case rel => exact ⟨(wrap64 (x3_1 + 1)), (sr_), H', ⟨by have := HK1.out; omega⟩, ⟨bk_ BK112.out⟩, ⟨bl_⟩⟩
  rw [if_pos c7] at H
  have c7b0 := decide_eq_true c7
  clear c7
  obtain ⟨ji8, hji8⟩ : ∃ j_ : Int, (wrap64 (x3_1 - 1)) = j_ := ⟨_, rfl⟩
  replace H : (if 0 ≤ (ji8) then (if (ji8) < (l0_0.length : Int) then (if (rd l0_0 (ji8)) ≥ (rd l0_0 x3_1) then (some false) else (spec_l09Rule.l0 k1 (wrap64 (x3_1 + 1)) l0_0 l0_1 a0_2 a0_3)) else (none)) else (none)) = some r := by first | (rw [hji8] at H; exact H) | (simp only [hji8] at H ⊢; exact H)
  (try rw [hji8] at A5)
  have hji8w : (IntKind.i64.wrap (x3_1 - 1)) = ji8 := (i64_w _).trans hji8
  by_cases c9 : 0 ≤ (ji8)
  rotate_left
  ·exact nn_ c9 H
  rw [if_pos c9] at H
  have c9b0 := decide_eq_true c9
  clear c9
  by_cases c10 : (ji8) < (l0_0.length : Int)
  rotate_left
  ·exact nn_ c10 H
  rw [if_pos c10] at H
  have c10b0 := decide_eq_true c10
  clear c10
  by_cases c11 : (rd l0_0 (ji8)) ≥ (rd l0_0 x3_1)
  ·rw [if_pos c11] at H
   have c11b0 := decide_eq_true c11
   clear c11
   obtain rfl := Option.some.inj H
   obtain ⟨hcz12_0, hcz12_1, hcz12_2, hcz12_3, hfz12_0, hfz12_1, hfz12_2, hfz12_3⟩ := cf4_ BK112.out
   have p113 : 0 ≤ (x3_1 : Int) := of_decide_eq_true as_
   have q113 : x3_1 < (l0_0.length : Int) := of_decide_eq_true as_
   obtain ⟨ad113, e113, hx113_0⟩ := Kd.at_int HR0_0.out x3_1 p113 q113
   cases e113
   replace hx113_0 := (HB.out.cell (World.block_lt_of_cell? w _ hx113_0)).trans hx113_0
   replace p113 := eq_true p113
   replace q113 := eq_true q113
   go_wp2_with (fail)
   repeat (go_quiet ((go_at_call 75; (with_reducible refine (spec_HalfOk.calls (rd l0_0 x3_1) true _ A5.out).mono ?_); rintro e w' ⟨rfl, ⟨nd, rfl⟩⟩; (try first | exact ⟨rfl, _, World.drewN_drewN _ _ _⟩ | exact ⟨rfl, _, Eq.trans (World.drewN_drewN _ _ _) (congrArg (World.drewN _) (Nat.add_assoc _ _ _))⟩); have p115 : 0 ≤ ((ji8) : Int) := of_decide_eq_true as_; have q115 : (ji8) < (l0_0.length : Int) := of_decide_eq_true as_; obtain ⟨ad115, e115, hx115_0⟩ := Kd.at_int HR0_0.out (ji8) p115 q115; obtain rfl : ad113 = ad115 := (by injection e115); replace hx115_0 := (HB.out.cell (World.block_lt_of_cell? w _ hx115_0)).trans hx115_0; replace p115 := eq_true p115; replace q115 := eq_true q115; have p116 : 0 ≤ (x3_1 : Int) := of_decide_eq_true as_; have q116 : x3_1 < (l0_0.length : Int) := of_decide_eq_true as_; obtain ⟨ad116, e116, hx116_0⟩ := Kd.at_int HR0_0.out x3_1 p116 q116; obtain rfl : ad113 = ad116 := (by injection e116); replace hx116_0 := (HB.out.cell (World.block_lt_of_cell? w _ hx116_0)).trans hx116_0; replace p116 := eq_true p116; replace q116 := eq_true q116)); try go_wp2_with (fail))
   go_ret
   exact ⟨by first | rfl | (simp [errW_none, errW_some] <;> rfl) | (simp only [← hji8]; first | rfl | (simp [errW_none, errW_some] <;> rfl)) | (simp [*, errW_none, errW_some] <;> rfl) | exact False.elim (Bool.noConfusion ((decide_eq_true (of_eq_true (by assumption))).symm.trans (by assumption))), bl_⟩
  rw [if_neg c11] at H
  have c11b0 := decide_eq_false c11
  clear c11
  have H' := Aside0.mk H
  clear H
  obtain ⟨hcz13_0, hcz13_1, hcz13_2, hcz13_3, hfz13_0, hfz13_1, hfz13_2, hfz13_3⟩ := cf4_ BK112.out
  have p113 : 0 ≤ (x3_1 : Int) := of_decide_eq_true as_
  have q113 : x3_1 < (l0_0.length : Int) := of_decide_eq_true as_
  obtain ⟨ad113, e113, hx113_0⟩ := Kd.at_int HR0_0.out x3_1 p113 q113
  cases e113
  replace hx113_0 := (HB.out.cell (World.block_lt_of_cell? w _ hx113_0)).trans hx113_0
  replace p113 := eq_true p113
  replace q113 := eq_true q113
  go_wp2_with (fail)
  repeat (go_quiet ((go_at_call 75; (with_reducible refine (spec_HalfOk.calls (rd l0_0 x3_1) true _ A5.out).mono ?_); rintro e w' ⟨rfl, ⟨nd, rfl⟩⟩; (try first | exact ⟨rfl, _, World.drewN_drewN _ _ _⟩ | exact ⟨rfl, _, Eq.trans (World.drewN_drewN _ _ _) (congrArg (World.drewN _) (Nat.add_assoc _ _ _))⟩); have p115 : 0 ≤ ((ji8) : Int) := of_decide_eq_true as_; have q115 : (ji8) < (l0_0.length : Int) := of_decide_eq_true as_; obtain ⟨ad115, e115, hx115_0⟩ := Kd.at_int HR0_0.out (ji8) p115 q115; obtain rfl : ad113 = ad115 := (by injection e115); replace hx115_0 := (HB.out.cell (World.block_lt_of_cell? w _ hx115_0)).trans hx115_0; replace p115 := eq_true p115; replace q115 := eq_true q115; have p116 : 0 ≤ (x3_1 : Int) := of_decide_eq_true as_; have q116 : x3_1 < (l0_0.length : Int) := of_decide_eq_true as_; obtain ⟨ad116, e116, hx116_0⟩ := Kd.at_int HR0_0.out x3_1 p116 q116; obtain rfl : ad113 = ad116 := (by injection e116); replace hx116_0 := (HB.out.cell (World.block_lt_of_cell? w _ hx116_0)).trans hx116_0; replace p116 := eq_true p116; replace q116 := eq_true q116)); try go_wp2_with (fail))
  go_roundg k1
  case measure => have := HK1.out; omega
  case rel => exact ⟨(wrap64 (x3_1 + 1)), (sr_), H', ⟨by have := HK1.out; omega⟩, ⟨bk_ BK112.out⟩, ⟨bl_⟩⟩
 rw [if_neg c3] at H
 have c3b0 := decide_eq_false c3
 clear c3
 have H' := Aside0.mk H
 clear H
 obtain ⟨hcz16_0, hcz16_1, hcz16_2, hcz16_3, hfz16_0, hfz16_1, hfz16_2, hfz16_3⟩ := cf4_ BK112.out
 go_wp2
 repeat (go_quiet (fail); try go_wp2)
 go_loopg [4] k1 (fun kq v4 w' => ∃ (x4_2 : Int), v4 = .int .i64 x4_2 ∧ Aside0 (spec_l09Rule.l1 kq x4_2 l0_0 l0_1 a0_2 a0_3 = some r) ∧ Aside0 (kq ≤ k1) ∧ Aside0 (w'.heap[gb112]? = some (.cells #[(.slice A0_0 l0_0.length c0_0), (.slice A0_1 l0_1.length c0_1), .int .i64 a0_2, .int .i64 a0_3] 53 (0, 0))) ∧ Aside0 (Below w.heap.size w w'))
 case atStart => exact ⟨(0), (sr_), H', ⟨Nat.le_refl _⟩, ⟨bk_ BK112.out⟩, ⟨bl_⟩⟩
 clear H'
 try clear c3
 try clear c3b0
 try clear hcz16_0
 try clear hcz16_1
 try clear hcz16_2
 try clear hcz16_3
 try clear hfz16_0
 try clear hfz16_1
 try clear hfz16_2
 try clear hfz16_3
 obtain ⟨x4_2, rfl, HA, HK2, BK112, HB⟩ := hrel
 cases gk with
 | zero => exact absurd HA.out (by simp [spec_l09Rule.l1])
 | succ k2 => ?_
 have H := HA.out
 clear HA
 simp only [spec_l09Rule.l1] at H
 by_cases c17 : x4_2 < (l0_1.length : Int)
 rotate_left
 ·rw [if_neg c17] at H
  have c17b0 := decide_eq_false c17
  clear c17
  by_cases c25 : (l0_0.length : Int) ≤ 4
  rotate_left
  ·rw [if_neg c25] at H
   have c25b0 := decide_eq_false c25
   have c25b1 : decide (l0_0.length ≤ 4) = false := decide_eq_false (by omega)
   clear c25
   obtain rfl := Option.some.inj H
   obtain ⟨hcz30_0, hcz30_1, hcz30_2, hcz30_3, hfz30_0, hfz30_1, hfz30_2, hfz30_3⟩ := cf4_ BK112.out
   go_wp2
   repeat (go_quiet (fail); try go_wp2)
   go_ret
   exact ⟨er_, bl_⟩
  rw [if_pos c25] at H
  have c25b0 := decide_eq_true c25
  have c25b1 : decide (l0_0.length ≤ 4) = true := decide_eq_true (by omega)
  clear c25
  by_cases c26 : (l0_1.length : Int) ≤ 3
  rotate_left
  ·rw [if_neg c26] at H
   have c26b0 := decide_eq_false c26
   have c26b1 : decide (l0_1.length ≤ 3) = false := decide_eq_false (by omega)
   clear c26
   obtain rfl := Option.some.inj H
   obtain ⟨hcz29_0, hcz29_1, hcz29_2, hcz29_3, hfz29_0, hfz29_1, hfz29_2, hfz29_3⟩ := cf4_ BK112.out
   go_wp2
   repeat (go_quiet (fail); try go_wp2)
   go_ret
   exact ⟨er_, bl_⟩
  rw [if_pos c26] at H
  have c26b0 := decide_eq_true c26
  have c26b1 : decide (l0_1.length ≤ 3) = true := decide_eq_true (by omega)
  clear c26
  replace H := bs_ H
  obtain ⟨t119, A27, H⟩ := H
  try dsimp only at H
  obtain rfl := Option.some.inj H
  obtain ⟨hcz28_0, hcz28_1, hcz28_2, hcz28_3, hfz28_0, hfz28_1, hfz28_2, hfz28_3⟩ := cf4_ BK112.out
  go_wp2_with ((go_at_call 76; (with_reducible refine (spec_l09Act.calls a0_2 a0_3 t119 _ A27.out).mono ?_); rintro e w' ⟨rfl, ⟨nd, rfl⟩⟩; (try first | exact ⟨rfl, _, World.drewN_drewN _ _ _⟩ | exact ⟨rfl, _, Eq.trans (World.drewN_drewN _ _ _) (congrArg (World.drewN _) (Nat.add_assoc _ _ _))⟩)))
  repeat (go_quiet (fail); try go_wp2_with (fail))
  go_ret
  exact ⟨er_, bl_⟩
 rw [if_pos c17] at H
 have c17b0 := decide_eq_true c17
 clear c17
 by_cases c18 : 0 ≤ x4_2
 rotate_left
 ·exact nn_ c18 H
 rw [if_pos c18] at H
 have c18b0 := decide_eq_true c18
 clear c18
 replace H := bs_ H
 obtain ⟨t118, A19, H⟩ := H
 try dsimp only at H
 by_cases c20 : t118 = true
 rotate_left
 ·replace c20 := Bool.eq_false_iff.mpr c20
  subst c20
  rw [nf_] at H
  obtain rfl := Option.some.inj H
  obtain ⟨hcz23_0, hcz23_1, hcz23_2, hcz23_3, hfz23_0, hfz23_1, hfz23_2, hfz23_3⟩ := cf4_ BK112.out
  have p117 : 0 ≤ (x4_2 : Int) := of_decide_eq_true as_
  have q117 : x4_2 < (l0_1.length : Int) := of_decide_eq_true as_
  obtain ⟨ad117, e117, hx117_0, hx117_1, hx117_2, hx117_3, hx117_4, hx117_5⟩ := at_T100 HR0_1.out x4_2 p117 q117
  cases e117
  replace hx117_0 := (HB.out.cell (World.block_lt_of_cell? w _ hx117_0)).trans hx117_0
  replace hx117_1 := (HB.out.cell (World.block_lt_of_cell? w _ hx117_1)).trans hx117_1
  replace hx117_2 := (HB.out.cell (World.block_lt_of_cell? w _ hx117_2)).trans hx117_2
  replace hx117_3 := (HB.out.cell (World.block_lt_of_cell? w _ hx117_3)).trans hx117_3
  replace hx117_4 := (HB.out.cell (World.block_lt_of_cell? w _ hx117_4)).trans hx117_4
  replace hx117_5 := (HB.out.cell (World.block_lt_of_cell? w _ hx117_5)).trans hx117_5
  replace p117 := eq_true p117
  replace q117 := eq_true q117
  go_wp2_with ((go_at_call 112; (with_reducible refine (spec_CondOk.calls ((rd_T100 l0_1 x4_2).f0) ((rd_T100 l0_1 x4_2).f1.f0) ((rd_T100 l0_1 x4_2).f1.f1) ((rd_T100 l0_1 x4_2).f2) ((rd_T100 l0_1 x4_2).f3.f0) ((rd_T100 l0_1 x4_2).f3.f1) false _ A19.out).mono ?_); rintro e w24 ⟨rfl, hb⟩; replace BK112 := bb0_ BK112.out hb; replace HB := Aside0.mk (below_step bl_ hb); (try clear hb)))
  repeat (go_quiet (fail); try go_wp2_with (fail))
  go_ret
  exact ⟨er_, bl_⟩
 subst c20
 rw [if_pos rfl] at H
 have H' := Aside0.mk H
 clear H
 obtain ⟨hcz21_0, hcz21_1, hcz21_2, hcz21_3, hfz21_0, hfz21_1, hfz21_2, hfz21_3⟩ := cf4_ BK112.out
 have p117 : 0 ≤ (x4_2 : Int) := of_decide_eq_true as_
 have q117 : x4_2 < (l0_1.length : Int) := of_decide_eq_true as_
 obtain ⟨ad117, e117, hx117_0, hx117_1, hx117_2, hx117_3, hx117_4, hx117_5⟩ := at_T100 HR0_1.out x4_2 p117 q117
 cases e117
 replace hx117_0 := (HB.out.cell (World.block_lt_of_cell? w _ hx117_0)).trans hx117_0
 replace hx117_1 := (HB.out.cell (World.block_lt_of_cell? w _ hx117_1)).trans hx117_1
 replace hx117_2 := (HB.out.cell (World.block_lt_of_cell? w _ hx117_2)).trans hx117_2
 replace hx117_3 := (HB.out.cell (World.block_lt_of_cell? w _ hx117_3)).trans hx117_3
 replace hx117_4 := (HB.out.cell (World.block_lt_of_cell? w _ hx117_4)).trans hx117_4
 replace hx117_5 := (HB.out.cell (World.block_lt_of_cell? w _ hx117_5)).trans hx117_5
 replace p117 := eq_true p117
 replace q117 := eq_true q117
 go_wp2_with ((go_at_call 112; (with_reducible refine (spec_CondOk.calls ((rd_T100 l0_1 x4_2).f0) ((rd_T100 l0_1 x4_2).f1.f0) ((rd_T100 l0_1 x4_2).f1.f1) ((rd_T100 l0_1 x4_2).f2) ((rd_T100 l0_1 x4_2).f3.f0) ((rd_T100 l0_1 x4_2).f3.f1) true _ A19.out).mono ?_); rintro e w22 ⟨rfl, hb⟩; replace BK112 := bb0_ BK112.out hb; replace HB := Aside0.mk (below_step bl_ hb); (try clear hb)))
 repeat (go_quiet (fail); try go_wp2_with (fail))
 go_roundg k2
 case measure => have := HK1.out; have := HK2.out; omega
 case rel => exact ⟨(wrap64 (x4_2 + 1)), (sr_), H', ⟨by have := HK1.out; have := HK2.out; omega⟩, ⟨bk_ BK112.out⟩, ⟨bl_⟩⟩


def spec_PolicyOk.l0 : Nat → Int → Int → Int → Int → List (S53) → Option (Bool)
 | 0, _, _, _, _, _ => none
 | k + 1, x3, x121000, x121001, x121002, x121003 => if x3 < (x121003.length : Int) then (if 0 ≤ x3 then ((spec_l09Rule.f k ((rd_T53 x121003 x3).f0) ((rd_T53 x121003 x3).f1) ((rd_T53 x121003 x3).f2) ((rd_T53 x121003 x3).f3)).bind fun t122 => (if t122 = true then (spec_PolicyOk.l0 k (wrap64 (x3 + 1)) x121000 x121001 x121002 x121003) else (some false))) else (none)) else ((spec_HalfOk.f x121000).bind fun t123 => (if t123 = true then ((spec_l09Act.f x121001 x121002).bind fun t124 => (if t124 = true then (some (decide ((x121003.length : Int) ≤ 10))) else (some false))) else (some false)))
def spec_PolicyOk.f (k : Nat) (a0_0 : Int) (a0_1 : Int) (a0_2 : Int) (l0_3 : List (S53)) : Option (Bool) := spec_PolicyOk.l0 k 0 a0_0 a0_1 a0_2 l0_3
theorem spec_PolicyOk.mono_l : ∀ k, (∀ y0 y1 y2 y3 y4, LeO (spec_PolicyOk.l0 k y0 y1 y2 y3 y4) (spec_PolicyOk.l0 (k + 1) y0 y1 y2 y3 y4))
 | 0 => fun _ _ _ _ _ r h => by simp [spec_PolicyOk.l0] at h
 | k + 1 => by
  have ih0 := spec_PolicyOk.mono_l k
  ·intro y0 y1 y2 y3 y4
   unfold spec_PolicyOk.l0
   have m0 := @spec_l09Rule.mono
   exact mo_
theorem spec_PolicyOk.mono : ∀ a0 a1 a2 a3 k, LeO (spec_PolicyOk.f k a0 a1 a2 a3) (spec_PolicyOk.f (k + 1) a0 a1 a2 a3) := by
 intro a0 a1 a2 a3 k
 have ih0 := spec_PolicyOk.mono_l k
 unfold spec_PolicyOk.f
 have m0 := @spec_l09Rule.mono
 exact mo_
theorem spec_PolicyOk.calls (k : Nat) (a0_0 : Int) (a0_1 : Int) (a0_2 : Int) (A0_3 : Option Addr) (c0_3 : Nat) (l0_3 : List (S53)) (r : Bool) (w : World) (hr0_3 : Kd.C k53 w A0_3 l0_3.length l0_3) (hc0_3 : l0_3.length ≤ c0_3) (h : spec_PolicyOk.f k a0_0 a0_1 a0_2 l0_3 = some r) :
 Calls Try.prog 27 #[.agg #[.int .i64 a0_0, .int .i64 a0_1, .int .i64 a0_2, .slice A0_3 l0_3.length c0_3]] w fun e w' => e = .returned (.bool r) ∧ Below w.heap.size w w' := by
 have hu36 := Try.underlying36
 have hu53 := Try.underlying53
 have HR0_3 := Aside0.mk hr0_3
 have HC0_3 := Aside0.mk hc0_3
 clear hr0_3 hc0_3
 have HB := Aside0.mk (Below.refl w.heap.size w)
 have H := h
 unfold spec_PolicyOk.f at H
 clear h
 have H' := Aside0.mk H
 clear H
 go_enter Try.func27, Try.ntmps27
 go_wp2_with (first | ((with_reducible refine gate_dst (N := 1) rfl ?_); (try (refine gate_guard (by rfl) ?_; dsimp only)); refine bx_ 1 36 #[.int .i64 a0_0, .int .i64 a0_1, .int .i64 a0_2, .slice A0_3 l0_3.length c0_3] ?_; intro gb120 hg w2 hbox hb; have BK120 := Aside0.mk (hbox); have GW120 := Aside0.mk ((hz_ : w.heap.size ≤ gb120)); have GE120 := GW120; replace HB := Aside0.mk (below_step bl_ hb); clear hb hbox hg))
 go_loopg [3] k (fun kq v3 w' => ∃ (x3_1 : Int), v3 = .int .i64 x3_1 ∧ Aside0 (spec_PolicyOk.l0 kq x3_1 a0_0 a0_1 a0_2 l0_3 = some r) ∧ Aside0 (kq ≤ k) ∧ Aside0 (w'.heap[gb120]? = some (.cells #[.int .i64 a0_0, .int .i64 a0_1, .int .i64 a0_2, (.slice A0_3 l0_3.length c0_3)] 36 (0, 0))) ∧ Aside0 (Below w.heap.size w w'))
 case atStart => exact ⟨(0), (sr_), H', ⟨Nat.le_refl _⟩, ⟨bk_ BK120.out⟩, ⟨bl_⟩⟩
 clear H'
 obtain ⟨x3_1, rfl, HA, HK1, BK120, HB⟩ := hrel
 cases gk with
 | zero => exact absurd HA.out (by simp [spec_PolicyOk.l0])
 | succ k1 => ?_
 have H := HA.out
 clear HA
 simp only [spec_PolicyOk.l0] at H
 by_cases c3 : x3_1 < (l0_3.length : Int)
 rotate_left
 ·rw [if_neg c3] at H
  have c3b0 := decide_eq_false c3
  clear c3
  replace H := bs_ H
  obtain ⟨t123, A11, H⟩ := H
  try dsimp only at H
  by_cases c12 : t123 = true
  rotate_left
  ·replace c12 := Bool.eq_false_iff.mpr c12
   subst c12
   rw [nf_] at H
   obtain rfl := Option.some.inj H
   obtain ⟨hcz17_0, hcz17_1, hcz17_2, hcz17_3, hfz17_0, hfz17_1, hfz17_2, hfz17_3⟩ := cf4_ BK120.out
   go_wp2_with (first | ((with_reducible refine gate_callee (f := 75) rfl ?_); refine gs_ (some 20) Try.func75 #[.int .i64 a0_0] ?_; (with_reducible refine (spec_HalfOk.calls a0_0 false _ A11.out).mono ?_); rintro e w' ⟨rfl, ⟨nd, rfl⟩⟩; refine ⟨_, rfl, ?_⟩))
   go_ret
   exact ⟨er_, bl_⟩
  subst c12
  rw [if_pos rfl] at H
  replace H := bs_ H
  obtain ⟨t124, A13, H⟩ := H
  try dsimp only at H
  by_cases c14 : t124 = true
  ·subst c14
   rw [if_pos rfl] at H
   obtain rfl := Option.some.inj H
   obtain ⟨hcz15_0, hcz15_1, hcz15_2, hcz15_3, hfz15_0, hfz15_1, hfz15_2, hfz15_3⟩ := cf4_ BK120.out
   go_wp2_with (first | ((with_reducible refine gate_callee (f := 75) rfl ?_); refine gs_ (some 20) Try.func75 #[.int .i64 a0_0] ?_; (with_reducible refine (spec_HalfOk.calls a0_0 true _ A11.out).mono ?_); rintro e w' ⟨rfl, ⟨nd, rfl⟩⟩; refine ⟨_, rfl, ?_⟩) | (go_at_call 76; (with_reducible refine (spec_l09Act.calls a0_1 a0_2 true _ A13.out).mono ?_); rintro e w' ⟨rfl, ⟨nd, rfl⟩⟩))
   go_ret
   exact ⟨er_, bl_⟩
  replace c14 := Bool.eq_false_iff.mpr c14
  subst c14
  rw [nf_] at H
  obtain rfl := Option.some.inj H
  obtain ⟨hcz16_0, hcz16_1, hcz16_2, hcz16_3, hfz16_0, hfz16_1, hfz16_2, hfz16_3⟩ := cf4_ BK120.out
  go_wp2_with (first | ((with_reducible refine gate_callee (f := 75) rfl ?_); refine gs_ (some 20) Try.func75 #[.int .i64 a0_0] ?_; (with_reducible refine (spec_HalfOk.calls a0_0 true _ A11.out).mono ?_); rintro e w' ⟨rfl, ⟨nd, rfl⟩⟩; refine ⟨_, rfl, ?_⟩) | (go_at_call 76; (with_reducible refine (spec_l09Act.calls a0_1 a0_2 false _ A13.out).mono ?_); rintro e w' ⟨rfl, ⟨nd, rfl⟩⟩))
  go_ret
  exact ⟨er_, bl_⟩
 rw [if_pos c3] at H
 have c3b0 := decide_eq_true c3
 clear c3
 by_cases c4 : 0 ≤ x3_1
 rotate_left
 ·exact nn_ c4 H
 rw [if_pos c4] at H
 have c4b0 := decide_eq_true c4
 clear c4
 replace H := bs_ H
 obtain ⟨t122, A5, H⟩ := H
 try dsimp only at H
 by_cases c6 : t122 = true
 rotate_left
 ·replace c6 := Bool.eq_false_iff.mpr c6
  subst c6
  rw [nf_] at H
  obtain rfl := Option.some.inj H
  obtain ⟨hcz9_0, hcz9_1, hcz9_2, hcz9_3, hfz9_0, hfz9_1, hfz9_2, hfz9_3⟩ := cf4_ BK120.out
  have p121 : 0 ≤ (x3_1 : Int) := of_decide_eq_true as_
  have q121 : x3_1 < (l0_3.length : Int) := of_decide_eq_true as_
  obtain ⟨ad121, A121_0, c121_0, A121_1, c121_1, e121, hx121_0, hx121_1, hx121_2, hx121_3, hl121_0, hi121_0, hl121_1, hi121_1⟩ := at_T53 HR0_3.out x3_1 p121 q121
  cases e121
  replace hx121_0 := (HB.out.cell (World.block_lt_of_cell? w _ hx121_0)).trans hx121_0
  replace hx121_1 := (HB.out.cell (World.block_lt_of_cell? w _ hx121_1)).trans hx121_1
  replace hx121_2 := (HB.out.cell (World.block_lt_of_cell? w _ hx121_2)).trans hx121_2
  replace hx121_3 := (HB.out.cell (World.block_lt_of_cell? w _ hx121_3)).trans hx121_3
  have HR121_0 := Aside0.mk hi121_0
  have HC121_0 := Aside0.mk hl121_0
  clear hi121_0 hl121_0
  have HR121_1 := Aside0.mk hi121_1
  have HC121_1 := Aside0.mk hl121_1
  clear hi121_1 hl121_1
  replace p121 := eq_true p121
  replace q121 := eq_true q121
  go_wp2_with (first | ((with_reducible refine gate_callee (f := 74) rfl ?_); refine gs_ (some 16) Try.func74 #[.agg #[.slice A121_0 ((rd_T53 l0_3 x3_1).f0).length c121_0, .slice A121_1 ((rd_T53 l0_3 x3_1).f1).length c121_1, .int .i64 ((rd_T53 l0_3 x3_1).f2), .int .i64 ((rd_T53 l0_3 x3_1).f3)]] ?_; (with_reducible refine (spec_l09Rule.calls k1 _ _ ((rd_T53 l0_3 x3_1).f0) _ _ ((rd_T53 l0_3 x3_1).f1) ((rd_T53 l0_3 x3_1).f2) ((rd_T53 l0_3 x3_1).f3) false _ ?side1 ?side2 ?side3 ?side4 A5.out).mono ?_); (case side1 => exact cb_ HR121_0.out HB.out); (case side2 => exact HC121_0.out); (case side3 => exact cb_ HR121_1.out HB.out); (case side4 => exact HC121_1.out); rintro e w10 ⟨rfl, hb⟩; refine ⟨_, rfl, ?_⟩; replace BK120 := bb0_ BK120.out hb; replace HB := Aside0.mk (below_step bl_ hb); (try clear hb)))
  go_ret
  exact ⟨er_, bl_⟩
 subst c6
 rw [if_pos rfl] at H
 have H' := Aside0.mk H
 clear H
 obtain ⟨hcz7_0, hcz7_1, hcz7_2, hcz7_3, hfz7_0, hfz7_1, hfz7_2, hfz7_3⟩ := cf4_ BK120.out
 have p121 : 0 ≤ (x3_1 : Int) := of_decide_eq_true as_
 have q121 : x3_1 < (l0_3.length : Int) := of_decide_eq_true as_
 obtain ⟨ad121, A121_0, c121_0, A121_1, c121_1, e121, hx121_0, hx121_1, hx121_2, hx121_3, hl121_0, hi121_0, hl121_1, hi121_1⟩ := at_T53 HR0_3.out x3_1 p121 q121
 cases e121
 replace hx121_0 := (HB.out.cell (World.block_lt_of_cell? w _ hx121_0)).trans hx121_0
 replace hx121_1 := (HB.out.cell (World.block_lt_of_cell? w _ hx121_1)).trans hx121_1
 replace hx121_2 := (HB.out.cell (World.block_lt_of_cell? w _ hx121_2)).trans hx121_2
 replace hx121_3 := (HB.out.cell (World.block_lt_of_cell? w _ hx121_3)).trans hx121_3
 have HR121_0 := Aside0.mk hi121_0
 have HC121_0 := Aside0.mk hl121_0
 clear hi121_0 hl121_0
 have HR121_1 := Aside0.mk hi121_1
 have HC121_1 := Aside0.mk hl121_1
 clear hi121_1 hl121_1
 replace p121 := eq_true p121
 replace q121 := eq_true q121
 go_wp2_with (first | ((with_reducible refine gate_callee (f := 74) rfl ?_); refine gs_ (some 16) Try.func74 #[.agg #[.slice A121_0 ((rd_T53 l0_3 x3_1).f0).length c121_0, .slice A121_1 ((rd_T53 l0_3 x3_1).f1).length c121_1, .int .i64 ((rd_T53 l0_3 x3_1).f2), .int .i64 ((rd_T53 l0_3 x3_1).f3)]] ?_; (with_reducible refine (spec_l09Rule.calls k1 _ _ ((rd_T53 l0_3 x3_1).f0) _ _ ((rd_T53 l0_3 x3_1).f1) ((rd_T53 l0_3 x3_1).f2) ((rd_T53 l0_3 x3_1).f3) true _ ?side1 ?side2 ?side3 ?side4 A5.out).mono ?_); (case side1 => exact cb_ HR121_0.out HB.out); (case side2 => exact HC121_0.out); (case side3 => exact cb_ HR121_1.out HB.out); (case side4 => exact HC121_1.out); rintro e w8 ⟨rfl, hb⟩; refine ⟨_, rfl, ?_⟩; replace BK120 := bb0_ BK120.out hb; replace HB := Aside0.mk (below_step bl_ hb); (try clear hb)))
 go_roundg k1
 case measure => have := HK1.out; omega
 case rel => exact ⟨(wrap64 (x3_1 + 1)), (sr_), H', ⟨by have := HK1.out; omega⟩, ⟨bk_ BK120.out⟩, ⟨bl_⟩⟩


def spec_l09In.l0 : Nat → List Int → Int → Int → Option (Bool)
 | 0, _, _, _ => none
 | k + 1, x0, x1, x5 => if x5 < (x0.length : Int) then (if 0 ≤ x5 then (if (rd x0 x5) = x1 then (some true) else (spec_l09In.l0 k x0 x1 (wrap64 (x5 + 1)))) else (none)) else (some false)
def spec_l09In.f (k : Nat) (l0 : List Int) (a1 : Int) : Option (Bool) := spec_l09In.l0 k l0 a1 0
theorem spec_l09In.mono_l : ∀ k, (∀ y0 y1 y2, LeO (spec_l09In.l0 k y0 y1 y2) (spec_l09In.l0 (k + 1) y0 y1 y2))
 | 0 => fun _ _ _ r h => by simp [spec_l09In.l0] at h
 | k + 1 => by
  have ih0 := spec_l09In.mono_l k
  ·intro y0 y1 y2
   unfold spec_l09In.l0
   exact mo_
theorem spec_l09In.mono : ∀ a0 a1 k, LeO (spec_l09In.f k a0 a1) (spec_l09In.f (k + 1) a0 a1) := by
 intro a0 a1 k
 have ih0 := spec_l09In.mono_l k
 unfold spec_l09In.f
 exact mo_
theorem spec_l09In.calls (k : Nat) (A0 : Option Addr) (c0 : Nat) (l0 : List Int) (a1 : Int) (r : Bool) (w : World) (hr0 : Kd.C (Kd.int .i64) w A0 l0.length l0) (hc0 : l0.length ≤ c0) (h : spec_l09In.f k l0 a1 = some r) :
 Calls Try.prog 53 #[.slice A0 l0.length c0, .int .i64 a1] w fun e w' => e = .returned (.bool r) ∧ Drawn0 w w' := by
 have HR0 := Aside0.mk hr0
 have HC0 := Aside0.mk hc0
 clear hr0 hc0
 have H := h
 unfold spec_l09In.f at H
 clear h
 have H' := Aside0.mk H
 clear H
 go_enter Try.func53, Try.ntmps53
 go_wp2
 go_loopg [5] k (fun kq v5 w' => ∃ (x5_1 : Int), v5 = .int .i64 x5_1 ∧ Aside0 (spec_l09In.l0 kq l0 a1 x5_1 = some r) ∧ Aside0 (kq ≤ k) ∧ Drawn0 w w')
 case atStart => exact ⟨(0), (sr_), H', ⟨Nat.le_refl _⟩, by repeat (first | exact Drawn0.refl _ | apply Drawn0.step)⟩
 clear H'
 obtain ⟨x5_1, rfl, HA, HK1, ⟨m1, rfl⟩⟩ := hrel
 cases gk with
 | zero => exact absurd HA.out (by simp [spec_l09In.l0])
 | succ k1 => ?_
 have H := HA.out
 clear HA
 simp only [spec_l09In.l0] at H
 by_cases c3 : x5_1 < (l0.length : Int)
 rotate_left
 ·rw [if_neg c3] at H
  have c3b0 := decide_eq_false c3
  clear c3
  obtain rfl := Option.some.inj H
  go_wp2
  go_ret
  exact ⟨sr_, by repeat (first | exact Drawn0.refl _ | apply Drawn0.step)⟩
 rw [if_pos c3] at H
 have c3b0 := decide_eq_true c3
 clear c3
 by_cases c4 : 0 ≤ x5_1
 rotate_left
 ·exact nn_ c4 H
 rw [if_pos c4] at H
 have c4b0 := decide_eq_true c4
 clear c4
 by_cases c5 : (rd l0 x5_1) = a1
 ·rw [if_pos c5] at H
  have c5b0 : ((rd l0 x5_1) == a1) = true := beq_iff_eq.mpr c5
  have c5b1 : ((rd l0 x5_1) != a1) = false := bne_eq_false_iff_eq.mpr c5
  clear c5
  obtain rfl := Option.some.inj H
  have p125 : 0 ≤ (x5_1 : Int) := of_decide_eq_true as_
  have q125 : x5_1 < (l0.length : Int) := of_decide_eq_true as_
  obtain ⟨ad125, e125, hx125_0⟩ := Kd.at_int HR0.out x5_1 p125 q125
  cases e125
  replace p125 := eq_true p125
  replace q125 := eq_true q125
  go_wp2
  go_ret
  exact ⟨sr_, by repeat (first | exact Drawn0.refl _ | apply Drawn0.step)⟩
 rw [if_neg c5] at H
 have c5b0 : ((rd l0 x5_1) == a1) = false := beq_eq_false_iff_ne.mpr c5
 have c5b1 : ((rd l0 x5_1) != a1) = true := bne_iff_ne.mpr c5
 have H' := Aside0.mk H
 clear H
 have p125 : 0 ≤ (x5_1 : Int) := of_decide_eq_true as_
 have q125 : x5_1 < (l0.length : Int) := of_decide_eq_true as_
 obtain ⟨ad125, e125, hx125_0⟩ := Kd.at_int HR0.out x5_1 p125 q125
 cases e125
 replace p125 := eq_true p125
 replace q125 := eq_true q125
 go_wp2
 go_roundg k1
 case measure => have := HK1.out; omega
 case rel => exact ⟨(wrap64 (x5_1 + 1)), (sr_), H', ⟨by have := HK1.out; omega⟩, by repeat (first | exact Drawn0.refl _ | apply Drawn0.step)⟩


def spec_l23Put.l0 : Nat → List Int → Int → List Int → Bool → Int → Option (List Int)
 | 0, _, _, _, _, _ => none
 | k + 1, x0, x1, x5, x6, x7 => if x7 < (x0.length : Int) then (if x6 = true then (if 0 ≤ x7 then (if x5.length < 17592186044416 then (spec_l23Put.l0 k x0 x1 (x5 ++ [rd x0 x7]) x6 (wrap64 (x7 + 1))) else (none)) else (none)) else (if 0 ≤ x7 then (if x1 < (rd x0 x7) then (if x5.length < 17592186044416 then ((some (x5 ++ [x1] : List Int)).bind fun y134 => (if y134.length < 17592186044416 then (spec_l23Put.l0 k x0 x1 (y134 ++ [rd x0 x7]) true (wrap64 (x7 + 1))) else (none))) else (none)) else (if x5.length < 17592186044416 then (spec_l23Put.l0 k x0 x1 (x5 ++ [rd x0 x7]) x6 (wrap64 (x7 + 1))) else (none))) else (none))) else (if x6 = true then (some x5) else (if x5.length < 17592186044416 then (some (x5 ++ [x1])) else (none)))
def spec_l23Put.f (k : Nat) (l0 : List Int) (a1 : Int) : Option (List Int) := spec_l23Put.l0 k l0 a1 (([] : List Int)) false 0
theorem spec_l23Put.mono_l : ∀ k, (∀ y0 y1 y2 y3 y4, LeO (spec_l23Put.l0 k y0 y1 y2 y3 y4) (spec_l23Put.l0 (k + 1) y0 y1 y2 y3 y4))
 | 0 => fun _ _ _ _ _ r h => by simp [spec_l23Put.l0] at h
 | k + 1 => by
  have ih0 := spec_l23Put.mono_l k
  ·intro y0 y1 y2 y3 y4
   unfold spec_l23Put.l0
   exact mo_
theorem spec_l23Put.mono : ∀ a0 a1 k, LeO (spec_l23Put.f k a0 a1) (spec_l23Put.f (k + 1) a0 a1) := by
 intro a0 a1 k
 have ih0 := spec_l23Put.mono_l k
 unfold spec_l23Put.f
 exact mo_
theorem spec_l23Put.calls (k : Nat) (A0 : Option Addr) (c0 : Nat) (l0 : List Int) (a1 : Int) (r : List Int) (w : World) (hr0 : Kd.C (Kd.int .i64) w A0 l0.length l0) (hc0 : l0.length ≤ c0) (h : spec_l23Put.f k l0 a1 = some r) :
 Calls Try.prog 54 #[.slice A0 l0.length c0, .int .i64 a1] w fun e w' => ∃ v0_ : Value, e = .returned (v0_) ∧ Kd.R (Kd.int .i64) 3 w' w.heap.size (fun _ => True) v0_ r ∧ Below w.heap.size w w' := by
 have HR0 := Aside0.mk hr0
 have HC0 := Aside0.mk hc0
 clear hr0 hc0
 have HB := Aside0.mk (Below.refl w.heap.size w)
 have H := h
 unfold spec_l23Put.f at H
 clear h
 obtain ⟨y126, hy126⟩ : ∃ y_ : List Int, y_ = (([] : List Int)) := ⟨_, rfl⟩
 replace H : (spec_l23Put.l0 k l0 a1 y126 false 0) = some r := rp_ H hy126
 have Ny126 := Aside0.mk hy126
 clear hy126
 have H' := Aside0.mk H
 clear H
 go_enter Try.func54, Try.ntmps54
 go_wp2_with (first | ((with_reducible refine gate_dst (N := 8) rfl ?_); refine Kd.R_lit (Kd.int .i64) _ 3 ?hg (N := 8) ?hd (xs := ([] : List Int)) (inner := []) (ok := fun _ => True) (okp := fun _ => True) ?hr ?hp (fun _ hk => hk) trivial (Below.refl _ _) (Nat.le_refl _) (by simp) ?_; (case hd => rfl); (case hg => rfl); (case hr => first | (go_simp; done) | (go_simp; rfl)); (case hp => exact (Reps.none _ _)); intro v127 w3 ho4 hb hg_ hnew_; clear hg_ hnew_; (first | rw [← Ny126.out] at ho4 | (simp only [Int.reduceToNat] at ho4; rw [← Ny126.out] at ho4)); have HO128 := Aside0.mk (Kd.R_lower ho4 (below_size bl_)); replace HB := Aside0.mk (below_step bl_ hb); clear hb ho4))
 go_loopg [5, 6, 7] k (fun kq v5 v6 v7 w' => ∃ (x5_1 : List Int) (x6_1 : Bool) (x7_1 : Int), v6 = .bool x6_1 ∧ v7 = .int .i64 x7_1 ∧ Aside0 (spec_l23Put.l0 kq l0 a1 x5_1 x6_1 x7_1 = some r) ∧ Aside0 (kq ≤ k) ∧ Aside0 (Kd.R (Kd.int .i64) 3 w' w.heap.size (fun _ => True) v5 x5_1) ∧ Aside0 (Below w.heap.size w w'))
 case atStart => exact ⟨(y126), (false), (0), (sr_), (sr_), H', ⟨Nat.le_refl _⟩, ⟨ra_ HO128.out⟩, ⟨bl_⟩⟩
 clear H'
 obtain ⟨x5_1, x6_1, x7_1, rfl, rfl, HA, HK1, HO_5, HB⟩ := hrel
 cases gk with
 | zero => exact absurd HA.out (by simp [spec_l23Put.l0])
 | succ k1 => ?_
 have H := HA.out
 clear HA
 simp only [spec_l23Put.l0] at H
 by_cases c5 : x7_1 < (l0.length : Int)
 rotate_left
 ·rw [if_neg c5] at H
  have c5b0 := decide_eq_false c5
  clear c5
  by_cases c18 : x6_1 = true
  ·subst c18
   rw [if_pos rfl] at H
   obtain rfl := Option.some.inj H
   go_wp2
   go_ret
   exact ⟨_, er_, ra_ HO_5.out, bl_⟩
  replace c18 := Bool.eq_false_iff.mpr c18
  subst c18
  rw [nf_] at H
  by_cases c19 : x5_1.length < 17592186044416
  rotate_left
  ·exact nn_ c19 H
  rw [if_pos c19] at H
  have LMc19 := Aside0.mk c19
  clear c19
  obtain ⟨y145, hy145⟩ : ∃ y_ : List Int, y_ = (x5_1 ++ [a1]) := ⟨_, rfl⟩
  replace H : (some y145) = some r := rp_ H hy145
  have Ny145 := Aside0.mk hy145
  clear hy145
  obtain rfl := Option.some.inj H
  go_wp2_with (first | ((with_reducible refine gate_builtin (b := .append) (xs := #[.tmp 38, .tmp 40]) rfl ?_); at_builtin; refine Kd.R_append (Kd.int .i64) (w0 := w) w.heap.size rfl (.tmp 38) (.tmp 40) 32 3 (.int .i64 0) 8 rfl Try.underlying32 info3 rfl (by decide) (by omega) u5 x5_1 a1 [.int .i64 a1] (fun _ => True) (fun _ => False) rfl rfl ?aP (fun _ hk => hk.elim) ?aF ?aO ?aB ?aS ?aL ?_; (case aP => exact rfl); (case aB => exact bl_); (case aF => exact (fun _ _ => trivial)); (case aO => exact (ra_ HO_5.out)); (case aS => exact (below_size bl_)); (case aL => have := LMc19.out; omega); intro v146 w20 ho hb hg hat; rw [← Ny145.out] at ho; replace HB := Aside0.mk (hb); have HO147 := Aside0.mk (ho); clear HO_5; clear ho hb hg hat))
  go_ret
  exact ⟨_, er_, ra_ HO147.out, bl_⟩
 rw [if_pos c5] at H
 have c5b0 := decide_eq_true c5
 clear c5
 by_cases c6 : x6_1 = true
 ·subst c6
  rw [if_pos rfl] at H
  by_cases c7 : 0 ≤ x7_1
  rotate_left
  ·exact nn_ c7 H
  rw [if_pos c7] at H
  have c7b0 := decide_eq_true c7
  clear c7
  by_cases c8 : x5_1.length < 17592186044416
  rotate_left
  ·exact nn_ c8 H
  rw [if_pos c8] at H
  have LMc8 := Aside0.mk c8
  clear c8
  obtain ⟨y130, hy130⟩ : ∃ y_ : List Int, y_ = (x5_1 ++ [rd l0 x7_1]) := ⟨_, rfl⟩
  replace H : (spec_l23Put.l0 k1 l0 a1 y130 true (wrap64 (x7_1 + 1))) = some r := rp_ H hy130
  have Ny130 := Aside0.mk hy130
  clear hy130
  have H' := Aside0.mk H
  clear H
  have p129 : 0 ≤ (x7_1 : Int) := of_decide_eq_true as_
  have q129 : x7_1 < (l0.length : Int) := of_decide_eq_true as_
  obtain ⟨ad129, e129, hx129_0⟩ := Kd.at_int HR0.out x7_1 p129 q129
  cases e129
  replace hx129_0 := (HB.out.cell (World.block_lt_of_cell? w _ hx129_0)).trans hx129_0
  replace p129 := eq_true p129
  replace q129 := eq_true q129
  go_wp2_with (first | ((with_reducible refine gate_builtin (b := .append) (xs := #[.tmp 29, .tmp 34]) rfl ?_); at_builtin; refine Kd.R_append (Kd.int .i64) (w0 := w) w.heap.size rfl (.tmp 29) (.tmp 34) 32 3 (.int .i64 0) 8 rfl Try.underlying32 info3 rfl (by decide) (by omega) u5 x5_1 (rd l0 x7_1) [.int .i64 (rd l0 x7_1)] (fun _ => True) (fun _ => False) rfl rfl ?aP (fun _ hk => hk.elim) ?aF ?aO ?aB ?aS ?aL ?_; (case aP => exact rfl); (case aB => exact bl_); (case aF => exact (fun _ _ => trivial)); (case aO => exact (ra_ HO_5.out)); (case aS => exact (below_size bl_)); (case aL => have := LMc8.out; omega); intro v131 w9 ho hb hg hat; rw [← Ny130.out] at ho; replace HB := Aside0.mk (hb); have HO132 := Aside0.mk (ho); clear HO_5; clear ho hb hg hat))
  go_roundg k1
  case measure => have := HK1.out; omega
  case rel => exact ⟨(y130), (true), (wrap64 (x7_1 + 1)), (sr_), (sr_), H', ⟨by have := HK1.out; omega⟩, ⟨ra_ HO132.out⟩, ⟨bl_⟩⟩
 replace c6 := Bool.eq_false_iff.mpr c6
 subst c6
 rw [nf_] at H
 by_cases c10 : 0 ≤ x7_1
 rotate_left
 ·exact nn_ c10 H
 rw [if_pos c10] at H
 have c10b0 := decide_eq_true c10
 clear c10
 by_cases c11 : a1 < (rd l0 x7_1)
 rotate_left
 ·rw [if_neg c11] at H
  have c11b0 := decide_eq_false c11
  clear c11
  by_cases c16 : x5_1.length < 17592186044416
  rotate_left
  ·exact nn_ c16 H
  rw [if_pos c16] at H
  have LMc16 := Aside0.mk c16
  clear c16
  obtain ⟨y142, hy142⟩ : ∃ y_ : List Int, y_ = (x5_1 ++ [rd l0 x7_1]) := ⟨_, rfl⟩
  replace H : (spec_l23Put.l0 k1 l0 a1 y142 false (wrap64 (x7_1 + 1))) = some r := rp_ H hy142
  have Ny142 := Aside0.mk hy142
  clear hy142
  have H' := Aside0.mk H
  clear H
  have p133 : 0 ≤ (x7_1 : Int) := of_decide_eq_true as_
  have q133 : x7_1 < (l0.length : Int) := of_decide_eq_true as_
  obtain ⟨ad133, e133, hx133_0⟩ := Kd.at_int HR0.out x7_1 p133 q133
  cases e133
  replace hx133_0 := (HB.out.cell (World.block_lt_of_cell? w _ hx133_0)).trans hx133_0
  replace p133 := eq_true p133
  replace q133 := eq_true q133
  have p141 : 0 ≤ (x7_1 : Int) := of_decide_eq_true as_
  have q141 : x7_1 < (l0.length : Int) := of_decide_eq_true as_
  obtain ⟨ad141, e141, hx141_0⟩ := Kd.at_int HR0.out x7_1 p141 q141
  obtain rfl : ad133 = ad141 := (by injection e141)
  replace hx141_0 := (HB.out.cell (World.block_lt_of_cell? w _ hx141_0)).trans hx141_0
  replace p141 := eq_true p141
  replace q141 := eq_true q141
  go_wp2_with (first | ((with_reducible refine gate_builtin (b := .append) (xs := #[.tmp 29, .tmp 34]) rfl ?_); at_builtin; refine Kd.R_append (Kd.int .i64) (w0 := w) w.heap.size rfl (.tmp 29) (.tmp 34) 32 3 (.int .i64 0) 8 rfl Try.underlying32 info3 rfl (by decide) (by omega) u5 x5_1 (rd l0 x7_1) [.int .i64 (rd l0 x7_1)] (fun _ => True) (fun _ => False) rfl rfl ?aP (fun _ hk => hk.elim) ?aF ?aO ?aB ?aS ?aL ?_; (case aP => exact rfl); (case aB => exact bl_); (case aF => exact (fun _ _ => trivial)); (case aO => exact (ra_ HO_5.out)); (case aS => exact (below_size bl_)); (case aL => have := LMc16.out; omega); intro v143 w17 ho hb hg hat; rw [← Ny142.out] at ho; replace HB := Aside0.mk (hb); have HO144 := Aside0.mk (ho); clear HO_5; clear ho hb hg hat))
  go_roundg k1
  case measure => have := HK1.out; omega
  case rel => exact ⟨(y142), (false), (wrap64 (x7_1 + 1)), (sr_), (sr_), H', ⟨by have := HK1.out; omega⟩, ⟨ra_ HO144.out⟩, ⟨bl_⟩⟩
 rw [if_pos c11] at H
 have c11b0 := decide_eq_true c11
 clear c11
 by_cases c12 : x5_1.length < 17592186044416
 rotate_left
 ·exact nn_ c12 H
 rw [if_pos c12] at H
 have LMc12 := Aside0.mk c12
 clear c12
 obtain ⟨y134, hy134⟩ : ∃ y_ : List Int, y_ = (x5_1 ++ [a1]) := ⟨_, rfl⟩
 replace H : (if y134.length < 17592186044416 then (spec_l23Put.l0 k1 l0 a1 (y134 ++ [rd l0 x7_1]) true (wrap64 (x7_1 + 1))) else (none)) = some r := rp_ H hy134
 have Ny134 := Aside0.mk hy134
 clear hy134
 by_cases c13 : y134.length < 17592186044416
 rotate_left
 ·exact nn_ c13 H
 rw [if_pos c13] at H
 have LMc13 := Aside0.mk c13
 clear c13
 obtain ⟨y138, hy138⟩ : ∃ y_ : List Int, y_ = (y134 ++ [rd l0 x7_1]) := ⟨_, rfl⟩
 replace H : (spec_l23Put.l0 k1 l0 a1 y138 true (wrap64 (x7_1 + 1))) = some r := rp_ H hy138
 have Ny138 := Aside0.mk hy138
 clear hy138
 have H' := Aside0.mk H
 clear H
 have p133 : 0 ≤ (x7_1 : Int) := of_decide_eq_true as_
 have q133 : x7_1 < (l0.length : Int) := of_decide_eq_true as_
 obtain ⟨ad133, e133, hx133_0⟩ := Kd.at_int HR0.out x7_1 p133 q133
 cases e133
 replace hx133_0 := (HB.out.cell (World.block_lt_of_cell? w _ hx133_0)).trans hx133_0
 replace p133 := eq_true p133
 replace q133 := eq_true q133
 go_wp2_with (first | ((with_reducible refine gate_builtin (b := .append) (xs := #[.tmp 25, .tmp 27]) rfl ?_); at_builtin; refine Kd.R_append (Kd.int .i64) (w0 := w) w.heap.size rfl (.tmp 25) (.tmp 27) 32 3 (.int .i64 0) 8 rfl Try.underlying32 info3 rfl (by decide) (by omega) u5 x5_1 a1 [.int .i64 a1] (fun _ => True) (fun _ => False) rfl rfl ?aP (fun _ hk => hk.elim) ?aF ?aO ?aB ?aS ?aL ?_; (case aP => exact rfl); (case aB => exact bl_); (case aF => exact (fun _ _ => trivial)); (case aO => exact (ra_ HO_5.out)); (case aS => exact (below_size bl_)); (case aL => have := LMc12.out; omega); intro v135 w14 ho hb hg hat; rw [← Ny134.out] at ho; replace HB := Aside0.mk (hb); have HO136 := Aside0.mk (ho); clear HO_5; clear ho hb hg hat; have p137 : 0 ≤ (x7_1 : Int) := of_decide_eq_true as_; have q137 : x7_1 < (l0.length : Int) := of_decide_eq_true as_; obtain ⟨ad137, e137, hx137_0⟩ := Kd.at_int HR0.out x7_1 p137 q137; obtain rfl : ad133 = ad137 := (by injection e137); replace hx137_0 := (HB.out.cell (World.block_lt_of_cell? w _ hx137_0)).trans hx137_0; replace p137 := eq_true p137; replace q137 := eq_true q137) | ((with_reducible refine gate_builtin (b := .append) (xs := #[.tmp 29, .tmp 34]) rfl ?_); at_builtin; refine Kd.R_append (Kd.int .i64) (w0 := w) w.heap.size rfl (.tmp 29) (.tmp 34) 32 3 (.int .i64 0) 8 rfl Try.underlying32 info3 rfl (by decide) (by omega) v135 y134 (rd l0 x7_1) [.int .i64 (rd l0 x7_1)] (fun _ => True) (fun _ => False) rfl rfl ?aP (fun _ hk => hk.elim) ?aF ?aO ?aB ?aS ?aL ?_; (case aP => exact rfl); (case aB => exact bl_); (case aF => exact (fun _ _ => trivial)); (case aO => exact (ra_ HO136.out)); (case aS => exact (below_size bl_)); (case aL => have := LMc13.out; omega); intro v139 w15 ho hb hg hat; rw [← Ny138.out] at ho; replace HB := Aside0.mk (hb); have HO140 := Aside0.mk (ho); clear HO136; clear ho hb hg hat))
 go_roundg k1
 case measure => have := HK1.out; omega
 case rel => exact ⟨(y138), (true), (wrap64 (x7_1 + 1)), (sr_), (sr_), H', ⟨by have := HK1.out; omega⟩, ⟨ra_ HO140.out⟩, ⟨bl_⟩⟩


mutual
def spec_NumsSaid.l0 : Nat → List Int → Int → Int → Int → Int → List (S53) → Option (List Int)
 | 0, _, _, _, _, _, _ => none
 | k + 1, x3, x4, x149000, x149001, x149002, x149003 => if x4 < (x149003.length : Int) then (spec_NumsSaid.l1 k x3 x4 0 x149000 x149001 x149002 x149003) else (some x3)
def spec_NumsSaid.l1 : Nat → List Int → Int → Int → Int → Int → Int → List (S53) → Option (List Int)
 | 0, _, _, _, _, _, _, _ => none
 | k + 1, x3, x4, x5, x149000, x149001, x149002, x149003 => if 0 ≤ x4 then (if x4 < (x149003.length : Int) then (if x5 < (((rd_T53 x149003 x4).f0).length : Int) then (if 0 ≤ x5 then ((spec_l09In.f k x3 (rd ((rd_T53 x149003 x4).f0) x5)).bind fun t156 => (if t156 = true then (spec_NumsSaid.l1 k x3 x4 (wrap64 (x5 + 1)) x149000 x149001 x149002 x149003) else ((spec_l23Put.f k x3 (rd ((rd_T53 x149003 x4).f0) x5)).bind fun t159 => (spec_NumsSaid.l1 k t159 x4 (wrap64 (x5 + 1)) x149000 x149001 x149002 x149003)))) else (none)) else (spec_NumsSaid.l0 k x3 (wrap64 (x4 + 1)) x149000 x149001 x149002 x149003)) else (none)) else (none)
end
def spec_NumsSaid.f (k : Nat) (a0_0 : Int) (a0_1 : Int) (a0_2 : Int) (l0_3 : List (S53)) : Option (List Int) := (some (([] : List Int) : List Int)).bind fun y149 => ((spec_PolicyOk.f k a0_0 a0_1 a0_2 l0_3).bind fun t152 => (if t152 = true then (spec_NumsSaid.l0 k y149 0 a0_0 a0_1 a0_2 l0_3) else (some y149)))
theorem spec_NumsSaid.mono_l : ∀ k, (∀ y0 y1 y2 y3 y4 y5, LeO (spec_NumsSaid.l0 k y0 y1 y2 y3 y4 y5) (spec_NumsSaid.l0 (k + 1) y0 y1 y2 y3 y4 y5)) ∧ (∀ y0 y1 y2 y3 y4 y5 y6, LeO (spec_NumsSaid.l1 k y0 y1 y2 y3 y4 y5 y6) (spec_NumsSaid.l1 (k + 1) y0 y1 y2 y3 y4 y5 y6))
 | 0 => ⟨fun _ _ _ _ _ _ r h => by simp [spec_NumsSaid.l0] at h, fun _ _ _ _ _ _ _ r h => by simp [spec_NumsSaid.l1] at h⟩
 | k + 1 => by
  obtain ⟨ih0, ih1⟩ := spec_NumsSaid.mono_l k
  refine ⟨?_, ?_⟩
  ·intro y0 y1 y2 y3 y4 y5
   unfold spec_NumsSaid.l0
   have m0 := @spec_PolicyOk.mono
   have m1 := @spec_l09In.mono
   have m2 := @spec_l23Put.mono
   exact mo_
  ·intro y0 y1 y2 y3 y4 y5 y6
   unfold spec_NumsSaid.l1
   have m0 := @spec_PolicyOk.mono
   have m1 := @spec_l09In.mono
   have m2 := @spec_l23Put.mono
   exact mo_
theorem spec_NumsSaid.mono : ∀ a0 a1 a2 a3 k, LeO (spec_NumsSaid.f k a0 a1 a2 a3) (spec_NumsSaid.f (k + 1) a0 a1 a2 a3) := by
 intro a0 a1 a2 a3 k
 obtain ⟨ih0, ih1⟩ := spec_NumsSaid.mono_l k
 unfold spec_NumsSaid.f
 have m0 := @spec_PolicyOk.mono
 have m1 := @spec_l09In.mono
 have m2 := @spec_l23Put.mono
 exact mo_
theorem spec_NumsSaid.calls (k : Nat) (a0_0 : Int) (a0_1 : Int) (a0_2 : Int) (A0_3 : Option Addr) (c0_3 : Nat) (l0_3 : List (S53)) (r : List Int) (w : World) (hr0_3 : Kd.C k53 w A0_3 l0_3.length l0_3) (hc0_3 : l0_3.length ≤ c0_3) (h : spec_NumsSaid.f k a0_0 a0_1 a0_2 l0_3 = some r) :
 Calls Try.prog 13 #[.agg #[.int .i64 a0_0, .int .i64 a0_1, .int .i64 a0_2, .slice A0_3 l0_3.length c0_3]] w fun e w' => ∃ v0_ : Value, e = .returned (v0_) ∧ Kd.R (Kd.int .i64) 3 w' w.heap.size (fun _ => True) v0_ r ∧ Below w.heap.size w w' := by
 have hu36 := Try.underlying36
 have HR0_3 := Aside0.mk hr0_3
 have HC0_3 := Aside0.mk hc0_3
 clear hr0_3 hc0_3
 have HB := Aside0.mk (Below.refl w.heap.size w)
 have H := h
 unfold spec_NumsSaid.f at H
 clear h
 obtain ⟨y149, hy149⟩ : ∃ y_ : List Int, y_ = (([] : List Int)) := ⟨_, rfl⟩
 replace H : ((spec_PolicyOk.f k a0_0 a0_1 a0_2 l0_3).bind fun t152 => (if t152 = true then (spec_NumsSaid.l0 k y149 0 a0_0 a0_1 a0_2 l0_3) else (some y149))) = some r := rp_ H hy149
 have Ny149 := Aside0.mk hy149
 clear hy149
 replace H := bs_ H
 obtain ⟨t152, A2, H⟩ := H
 try dsimp only at H
 by_cases c3 : t152 = true
 rotate_left
 ·replace c3 := Bool.eq_false_iff.mpr c3
  subst c3
  rw [nf_] at H
  obtain rfl := Option.some.inj H
  go_enter Try.func13, Try.ntmps13
  go_wp2_with (first | ((with_reducible refine gate_dst (N := 1) rfl ?_); refine bx_ 1 36 #[.int .i64 a0_0, .int .i64 a0_1, .int .i64 a0_2, .slice A0_3 l0_3.length c0_3] ?_; intro gb148 hg w25 hbox hb; have BK148 := Aside0.mk (hbox); have GW148 := Aside0.mk ((hz_ : w.heap.size ≤ gb148)); have GE148 := GW148; replace HB := Aside0.mk (below_step bl_ hb); clear hb hbox hg) | ((with_reducible refine gate_dst (N := 6) rfl ?_); refine Kd.R_lit (Kd.int .i64) _ 3 ?hg (N := 6) ?hd (xs := ([] : List Int)) (inner := []) (ok := fun _ => True) (okp := fun _ => True) ?hr ?hp (fun _ hk => hk) trivial (Below.refl _ _) (Nat.le_refl _) (by simp) ?_; (case hd => rfl); (case hg => rfl); (case hr => first | (go_simp; done) | (go_simp; rfl)); (case hp => exact (Reps.none _ _)); intro v150 w26 ho27 hb hg_ hnew_; clear hg_ hnew_; (first | rw [← Ny149.out] at ho27 | (simp only [Int.reduceToNat] at ho27; rw [← Ny149.out] at ho27)); have HO151 := Aside0.mk (Kd.R_lower ho27 (below_size bl_)); replace BK148 := bb0_ BK148.out hb; replace HB := Aside0.mk (below_step bl_ hb); clear hb ho27; obtain ⟨hcz28_0, hcz28_1, hcz28_2, hcz28_3, hfz28_0, hfz28_1, hfz28_2, hfz28_3⟩ := cf4_ BK148.out) | ((with_reducible refine gate_callee (f := 27) rfl ?_); refine gs_ (some 8) Try.func27 #[.agg #[.int .i64 a0_0, .int .i64 a0_1, .int .i64 a0_2, .slice A0_3 l0_3.length c0_3]] ?_; (with_reducible refine (spec_PolicyOk.calls k a0_0 a0_1 a0_2 _ _ l0_3 false _ ?side1 ?side2 A2.out).mono ?_); (case side1 => exact cb_ HR0_3.out HB.out); (case side2 => exact HC0_3.out); rintro e w29 ⟨rfl, hb⟩; refine ⟨_, rfl, ?_⟩; replace HO151 := Aside0.mk (Kd.R_below (ra_ HO151.out) hb); replace BK148 := bb0_ BK148.out hb; replace HB := Aside0.mk (below_step bl_ hb); (try clear hb)))
  go_ret
  exact ⟨_, er_, ra_ HO151.out, bl_⟩
 subst c3
 rw [if_pos rfl] at H
 have H' := Aside0.mk H
 clear H
 go_enter Try.func13, Try.ntmps13
 go_wp2_with (first | ((with_reducible refine gate_dst (N := 1) rfl ?_); refine bx_ 1 36 #[.int .i64 a0_0, .int .i64 a0_1, .int .i64 a0_2, .slice A0_3 l0_3.length c0_3] ?_; intro gb148 hg w4 hbox hb; have BK148 := Aside0.mk (hbox); have GW148 := Aside0.mk ((hz_ : w.heap.size ≤ gb148)); have GE148 := GW148; replace HB := Aside0.mk (below_step bl_ hb); clear hb hbox hg) | ((with_reducible refine gate_dst (N := 6) rfl ?_); refine Kd.R_lit (Kd.int .i64) _ 3 ?hg (N := 6) ?hd (xs := ([] : List Int)) (inner := []) (ok := fun _ => True) (okp := fun _ => True) ?hr ?hp (fun _ hk => hk) trivial (Below.refl _ _) (Nat.le_refl _) (by simp) ?_; (case hd => rfl); (case hg => rfl); (case hr => first | (go_simp; done) | (go_simp; rfl)); (case hp => exact (Reps.none _ _)); intro v150 w5 ho6 hb hg_ hnew_; clear hg_ hnew_; (first | rw [← Ny149.out] at ho6 | (simp only [Int.reduceToNat] at ho6; rw [← Ny149.out] at ho6)); have HO151 := Aside0.mk (Kd.R_lower ho6 (below_size bl_)); replace BK148 := bb0_ BK148.out hb; replace HB := Aside0.mk (below_step bl_ hb); clear hb ho6; obtain ⟨hcz7_0, hcz7_1, hcz7_2, hcz7_3, hfz7_0, hfz7_1, hfz7_2, hfz7_3⟩ := cf4_ BK148.out) | ((with_reducible refine gate_callee (f := 27) rfl ?_); refine gs_ (some 8) Try.func27 #[.agg #[.int .i64 a0_0, .int .i64 a0_1, .int .i64 a0_2, .slice A0_3 l0_3.length c0_3]] ?_; (with_reducible refine (spec_PolicyOk.calls k a0_0 a0_1 a0_2 _ _ l0_3 true _ ?side1 ?side2 A2.out).mono ?_); (case side1 => exact cb_ HR0_3.out HB.out); (case side2 => exact HC0_3.out); rintro e w8 ⟨rfl, hb⟩; refine ⟨_, rfl, ?_⟩; replace HO151 := Aside0.mk (Kd.R_below (ra_ HO151.out) hb); replace BK148 := bb0_ BK148.out hb; replace HB := Aside0.mk (below_step bl_ hb); (try clear hb)))
 go_loopg [3, 4] k (fun kq v3 v4 w' => ∃ (x3_1 : List Int) (x4_1 : Int), v4 = .int .i64 x4_1 ∧ Aside0 (spec_NumsSaid.l0 kq x3_1 x4_1 a0_0 a0_1 a0_2 l0_3 = some r) ∧ Aside0 (kq ≤ k) ∧ Aside0 (Kd.R (Kd.int .i64) 3 w' w.heap.size (fun _ => True) v3 x3_1) ∧ Aside0 (w'.heap[gb148]? = some (.cells #[.int .i64 a0_0, .int .i64 a0_1, .int .i64 a0_2, (.slice A0_3 l0_3.length c0_3)] 36 (0, 0))) ∧ Aside0 (Below w.heap.size w w'))
 case atStart => exact ⟨(y149), (0), (sr_), H', ⟨Nat.le_refl _⟩, ⟨ra_ HO151.out⟩, ⟨bk_ BK148.out⟩, ⟨bl_⟩⟩
 clear H'
 try clear c3
 try clear hcz7_0
 try clear hcz7_1
 try clear hcz7_2
 try clear hcz7_3
 try clear hfz7_0
 try clear hfz7_1
 try clear hfz7_2
 try clear hfz7_3
 obtain ⟨x3_1, x4_1, rfl, HA, HK1, HO_3, BK148, HB⟩ := hrel
 cases gk with
 | zero => exact absurd HA.out (by simp [spec_NumsSaid.l0])
 | succ k1 => ?_
 have H := HA.out
 clear HA
 simp only [spec_NumsSaid.l0] at H
 by_cases c9 : x4_1 < (l0_3.length : Int)
 rotate_left
 ·rw [if_neg c9] at H
  have c9b0 := decide_eq_false c9
  clear c9
  obtain rfl := Option.some.inj H
  obtain ⟨hcz24_0, hcz24_1, hcz24_2, hcz24_3, hfz24_0, hfz24_1, hfz24_2, hfz24_3⟩ := cf4_ BK148.out
  go_wp2
  go_ret
  exact ⟨_, er_, ra_ HO_3.out, bl_⟩
 rw [if_pos c9] at H
 have c9b0 := decide_eq_true c9
 clear c9
 have H' := Aside0.mk H
 clear H
 obtain ⟨hcz10_0, hcz10_1, hcz10_2, hcz10_3, hfz10_0, hfz10_1, hfz10_2, hfz10_3⟩ := cf4_ BK148.out
 go_wp2
 go_loopg [3, 5] k1 (fun kq v3 v5 w' => ∃ (x3_2 : List Int) (x5_2 : Int), v5 = .int .i64 x5_2 ∧ Aside0 (spec_NumsSaid.l1 kq x3_2 x4_1 x5_2 a0_0 a0_1 a0_2 l0_3 = some r) ∧ Aside0 (kq ≤ k1) ∧ Aside0 (Kd.R (Kd.int .i64) 3 w' w.heap.size (fun _ => True) v3 x3_2) ∧ Aside0 (w'.heap[gb148]? = some (.cells #[.int .i64 a0_0, .int .i64 a0_1, .int .i64 a0_2, (.slice A0_3 l0_3.length c0_3)] 36 (0, 0))) ∧ Aside0 (Below w.heap.size w w'))
 case atStart => exact ⟨(x3_1), (0), (sr_), H', ⟨Nat.le_refl _⟩, ⟨ra_ HO_3.out⟩, ⟨bk_ BK148.out⟩, ⟨bl_⟩⟩
 clear H'
 try clear c3
 try clear c9
 try clear c9b0
 try clear hcz10_0
 try clear hcz10_1
 try clear hcz10_2
 try clear hcz10_3
 try clear hcz7_0
 try clear hcz7_1
 try clear hcz7_2
 try clear hcz7_3
 try clear hfz10_0
 try clear hfz10_1
 try clear hfz10_2
 try clear hfz10_3
 try clear hfz7_0
 try clear hfz7_1
 try clear hfz7_2
 try clear hfz7_3
 obtain ⟨x3_2, x5_2, rfl, HA, HK2, HO_3, BK148, HB⟩ := hrel
 cases gk with
 | zero => exact absurd HA.out (by simp [spec_NumsSaid.l1])
 | succ k2 => ?_
 have H := HA.out
 clear HA
 simp only [spec_NumsSaid.l1] at H
 by_cases c11 : 0 ≤ x4_1
 rotate_left
 ·exact nn_ c11 H
 rw [if_pos c11] at H
 have c11b0 := decide_eq_true c11
 clear c11
 by_cases c12 : x4_1 < (l0_3.length : Int)
 rotate_left
 ·exact nn_ c12 H
 rw [if_pos c12] at H
 have c12b0 := decide_eq_true c12
 clear c12
 by_cases c13 : x5_2 < (((rd_T53 l0_3 x4_1).f0).length : Int)
 rotate_left
 ·rw [if_neg c13] at H
  have c13b0 := decide_eq_false c13
  clear c13
  have H' := Aside0.mk H
  clear H
  obtain ⟨hcz23_0, hcz23_1, hcz23_2, hcz23_3, hfz23_0, hfz23_1, hfz23_2, hfz23_3⟩ := cf4_ BK148.out
  have p153 : 0 ≤ (x4_1 : Int) := of_decide_eq_true as_
  have q153 : x4_1 < (l0_3.length : Int) := of_decide_eq_true as_
  obtain ⟨ad153, A153_0, c153_0, A153_1, c153_1, e153, hx153_0, hx153_1, hx153_2, hx153_3, hl153_0, hi153_0, hl153_1, hi153_1⟩ := at_T53 HR0_3.out x4_1 p153 q153
  cases e153
  replace hx153_0 := (HB.out.cell (World.block_lt_of_cell? w _ hx153_0)).trans hx153_0
  replace hx153_1 := (HB.out.cell (World.block_lt_of_cell? w _ hx153_1)).trans hx153_1
  replace hx153_2 := (HB.out.cell (World.block_lt_of_cell? w _ hx153_2)).trans hx153_2
  replace hx153_3 := (HB.out.cell (World.block_lt_of_cell? w _ hx153_3)).trans hx153_3
  have HR153_0 := Aside0.mk hi153_0
  have HC153_0 := Aside0.mk hl153_0
  clear hi153_0 hl153_0
  have HR153_1 := Aside0.mk hi153_1
  have HC153_1 := Aside0.mk hl153_1
  clear hi153_1 hl153_1
  replace p153 := eq_true p153
  replace q153 := eq_true q153
  go_wp2
  go_roundg k2
  case measure => have := HK1.out; have := HK2.out; omega
  case rel => exact ⟨(x3_2), (wrap64 (x4_1 + 1)), (sr_), H', ⟨by have := HK1.out; have := HK2.out; omega⟩, ⟨ra_ HO_3.out⟩, ⟨bk_ BK148.out⟩, ⟨bl_⟩⟩
 rw [if_pos c13] at H
 have c13b0 := decide_eq_true c13
 clear c13
 by_cases c14 : 0 ≤ x5_2
 rotate_left
 ·exact nn_ c14 H
 rw [if_pos c14] at H
 have c14b0 := decide_eq_true c14
 clear c14
 replace H := bs_ H
 obtain ⟨t156, A15, H⟩ := H
 try dsimp only at H
 by_cases c16 : t156 = true
 ·subst c16
  rw [if_pos rfl] at H
  have H' := Aside0.mk H
  clear H
  obtain ⟨hcz17_0, hcz17_1, hcz17_2, hcz17_3, hfz17_0, hfz17_1, hfz17_2, hfz17_3⟩ := cf4_ BK148.out
  have p153 : 0 ≤ (x4_1 : Int) := of_decide_eq_true as_
  have q153 : x4_1 < (l0_3.length : Int) := of_decide_eq_true as_
  obtain ⟨ad153, A153_0, c153_0, A153_1, c153_1, e153, hx153_0, hx153_1, hx153_2, hx153_3, hl153_0, hi153_0, hl153_1, hi153_1⟩ := at_T53 HR0_3.out x4_1 p153 q153
  cases e153
  replace hx153_0 := (HB.out.cell (World.block_lt_of_cell? w _ hx153_0)).trans hx153_0
  replace hx153_1 := (HB.out.cell (World.block_lt_of_cell? w _ hx153_1)).trans hx153_1
  replace hx153_2 := (HB.out.cell (World.block_lt_of_cell? w _ hx153_2)).trans hx153_2
  replace hx153_3 := (HB.out.cell (World.block_lt_of_cell? w _ hx153_3)).trans hx153_3
  have HR153_0 := Aside0.mk hi153_0
  have HC153_0 := Aside0.mk hl153_0
  clear hi153_0 hl153_0
  have HR153_1 := Aside0.mk hi153_1
  have HC153_1 := Aside0.mk hl153_1
  clear hi153_1 hl153_1
  replace p153 := eq_true p153
  replace q153 := eq_true q153
  have p154 : 0 ≤ (x4_1 : Int) := of_decide_eq_true as_
  have q154 : x4_1 < (l0_3.length : Int) := of_decide_eq_true as_
  obtain ⟨ad154, A154_0, c154_0, A154_1, c154_1, e154, hx154_0, hx154_1, hx154_2, hx154_3, hl154_0, hi154_0, hl154_1, hi154_1⟩ := at_T53 HR0_3.out x4_1 p154 q154
  obtain rfl : ad153 = ad154 := (by injection e154)
  replace hx154_0 := (HB.out.cell (World.block_lt_of_cell? w _ hx154_0)).trans hx154_0
  replace hx154_1 := (HB.out.cell (World.block_lt_of_cell? w _ hx154_1)).trans hx154_1
  replace hx154_2 := (HB.out.cell (World.block_lt_of_cell? w _ hx154_2)).trans hx154_2
  replace hx154_3 := (HB.out.cell (World.block_lt_of_cell? w _ hx154_3)).trans hx154_3
  have HR154_0 := Aside0.mk hi154_0
  have HC154_0 := Aside0.mk hl154_0
  clear hi154_0 hl154_0
  have HR154_1 := Aside0.mk hi154_1
  have HC154_1 := Aside0.mk hl154_1
  clear hi154_1 hl154_1
  replace p154 := eq_true p154
  replace q154 := eq_true q154
  have ea_ := Option.some.inj (hx153_0.symm.trans hx154_0)
  injection ea_ with ea_ en_ ec_
  subst ea_
  subst ec_
  clear en_
  have ea_ := Option.some.inj (hx153_1.symm.trans hx154_1)
  injection ea_ with ea_ en_ ec_
  subst ea_
  subst ec_
  clear en_
  have p155 : 0 ≤ (x5_2 : Int) := of_decide_eq_true as_
  have q155 : x5_2 < (((rd_T53 l0_3 x4_1).f0).length : Int) := of_decide_eq_true as_
  obtain ⟨ad155, e155, hx155_0⟩ := Kd.at_int HR154_0.out x5_2 p155 q155
  cases e155
  replace hx155_0 := (HB.out.cell (World.block_lt_of_cell? w _ hx155_0)).trans hx155_0
  replace p155 := eq_true p155
  replace q155 := eq_true q155
  obtain ⟨Ao18, co18, eo18⟩ := Kd.R_slice HO_3.out
  subst eo18
  go_wp2_with (first | ((with_reducible refine gate_callee (f := 53) rfl ?_); refine gs_ (some 39) Try.func53 #[.slice Ao18 x3_2.length co18, .int .i64 (rd ((rd_T53 l0_3 x4_1).f0) x5_2)] ?_; (with_reducible refine (spec_l09In.calls k2 _ _ x3_2 (rd ((rd_T53 l0_3 x4_1).f0) x5_2) true _ ?side1 ?side2 A15.out).mono ?_); (case side1 => exact cs_ ((Kd.R_reads' HO_3.out).2.2)); (case side2 => exact (Kd.R_reads' HO_3.out).2.1); rintro e w' ⟨rfl, ⟨nd, rfl⟩⟩; refine ⟨_, rfl, ?_⟩))
  go_roundg k2
  case measure => have := HK1.out; have := HK2.out; omega
  case rel => exact ⟨(x3_2), (wrap64 (x5_2 + 1)), (sr_), H', ⟨by have := HK1.out; have := HK2.out; omega⟩, ⟨ra_ HO_3.out⟩, ⟨bk_ BK148.out⟩, ⟨bl_⟩⟩
 replace c16 := Bool.eq_false_iff.mpr c16
 subst c16
 rw [nf_] at H
 replace H := bs_ H
 obtain ⟨t159, A19, H⟩ := H
 try dsimp only at H
 have H' := Aside0.mk H
 clear H
 obtain ⟨hcz20_0, hcz20_1, hcz20_2, hcz20_3, hfz20_0, hfz20_1, hfz20_2, hfz20_3⟩ := cf4_ BK148.out
 have p153 : 0 ≤ (x4_1 : Int) := of_decide_eq_true as_
 have q153 : x4_1 < (l0_3.length : Int) := of_decide_eq_true as_
 obtain ⟨ad153, A153_0, c153_0, A153_1, c153_1, e153, hx153_0, hx153_1, hx153_2, hx153_3, hl153_0, hi153_0, hl153_1, hi153_1⟩ := at_T53 HR0_3.out x4_1 p153 q153
 cases e153
 replace hx153_0 := (HB.out.cell (World.block_lt_of_cell? w _ hx153_0)).trans hx153_0
 replace hx153_1 := (HB.out.cell (World.block_lt_of_cell? w _ hx153_1)).trans hx153_1
 replace hx153_2 := (HB.out.cell (World.block_lt_of_cell? w _ hx153_2)).trans hx153_2
 replace hx153_3 := (HB.out.cell (World.block_lt_of_cell? w _ hx153_3)).trans hx153_3
 have HR153_0 := Aside0.mk hi153_0
 have HC153_0 := Aside0.mk hl153_0
 clear hi153_0 hl153_0
 have HR153_1 := Aside0.mk hi153_1
 have HC153_1 := Aside0.mk hl153_1
 clear hi153_1 hl153_1
 replace p153 := eq_true p153
 replace q153 := eq_true q153
 have p154 : 0 ≤ (x4_1 : Int) := of_decide_eq_true as_
 have q154 : x4_1 < (l0_3.length : Int) := of_decide_eq_true as_
 obtain ⟨ad154, A154_0, c154_0, A154_1, c154_1, e154, hx154_0, hx154_1, hx154_2, hx154_3, hl154_0, hi154_0, hl154_1, hi154_1⟩ := at_T53 HR0_3.out x4_1 p154 q154
 obtain rfl : ad153 = ad154 := (by injection e154)
 replace hx154_0 := (HB.out.cell (World.block_lt_of_cell? w _ hx154_0)).trans hx154_0
 replace hx154_1 := (HB.out.cell (World.block_lt_of_cell? w _ hx154_1)).trans hx154_1
 replace hx154_2 := (HB.out.cell (World.block_lt_of_cell? w _ hx154_2)).trans hx154_2
 replace hx154_3 := (HB.out.cell (World.block_lt_of_cell? w _ hx154_3)).trans hx154_3
 have HR154_0 := Aside0.mk hi154_0
 have HC154_0 := Aside0.mk hl154_0
 clear hi154_0 hl154_0
 have HR154_1 := Aside0.mk hi154_1
 have HC154_1 := Aside0.mk hl154_1
 clear hi154_1 hl154_1
 replace p154 := eq_true p154
 replace q154 := eq_true q154
 have ea_ := Option.some.inj (hx153_0.symm.trans hx154_0)
 injection ea_ with ea_ en_ ec_
 subst ea_
 subst ec_
 clear en_
 have ea_ := Option.some.inj (hx153_1.symm.trans hx154_1)
 injection ea_ with ea_ en_ ec_
 subst ea_
 subst ec_
 clear en_
 have p155 : 0 ≤ (x5_2 : Int) := of_decide_eq_true as_
 have q155 : x5_2 < (((rd_T53 l0_3 x4_1).f0).length : Int) := of_decide_eq_true as_
 obtain ⟨ad155, e155, hx155_0⟩ := Kd.at_int HR154_0.out x5_2 p155 q155
 cases e155
 replace hx155_0 := (HB.out.cell (World.block_lt_of_cell? w _ hx155_0)).trans hx155_0
 replace p155 := eq_true p155
 replace q155 := eq_true q155
 obtain ⟨Ao21, co21, eo21⟩ := Kd.R_slice HO_3.out
 subst eo21
 go_wp2_with (first | ((with_reducible refine gate_callee (f := 53) rfl ?_); refine gs_ (some 39) Try.func53 #[.slice Ao21 x3_2.length co21, .int .i64 (rd ((rd_T53 l0_3 x4_1).f0) x5_2)] ?_; (with_reducible refine (spec_l09In.calls k2 _ _ x3_2 (rd ((rd_T53 l0_3 x4_1).f0) x5_2) false _ ?side1 ?side2 A15.out).mono ?_); (case side1 => exact cs_ ((Kd.R_reads' HO_3.out).2.2)); (case side2 => exact (Kd.R_reads' HO_3.out).2.1); rintro e w' ⟨rfl, ⟨nd, rfl⟩⟩; refine ⟨_, rfl, ?_⟩; have p157 : 0 ≤ (x4_1 : Int) := of_decide_eq_true as_; have q157 : x4_1 < (l0_3.length : Int) := of_decide_eq_true as_; obtain ⟨ad157, A157_0, c157_0, A157_1, c157_1, e157, hx157_0, hx157_1, hx157_2, hx157_3, hl157_0, hi157_0, hl157_1, hi157_1⟩ := at_T53 HR0_3.out x4_1 p157 q157; obtain rfl : ad153 = ad157 := (by injection e157); replace hx157_0 := (HB.out.cell (World.block_lt_of_cell? w _ hx157_0)).trans hx157_0; replace hx157_1 := (HB.out.cell (World.block_lt_of_cell? w _ hx157_1)).trans hx157_1; replace hx157_2 := (HB.out.cell (World.block_lt_of_cell? w _ hx157_2)).trans hx157_2; replace hx157_3 := (HB.out.cell (World.block_lt_of_cell? w _ hx157_3)).trans hx157_3; have HR157_0 := Aside0.mk hi157_0; have HC157_0 := Aside0.mk hl157_0; clear hi157_0 hl157_0; have HR157_1 := Aside0.mk hi157_1; have HC157_1 := Aside0.mk hl157_1; clear hi157_1 hl157_1; replace p157 := eq_true p157; replace q157 := eq_true q157; have ea_ := Option.some.inj (hx153_0.symm.trans hx157_0); injection ea_ with ea_ en_ ec_; subst ea_; subst ec_; clear en_; have ea_ := Option.some.inj (hx153_1.symm.trans hx157_1); injection ea_ with ea_ en_ ec_; subst ea_; subst ec_; clear en_; have p158 : 0 ≤ (x5_2 : Int) := of_decide_eq_true as_; have q158 : x5_2 < (((rd_T53 l0_3 x4_1).f0).length : Int) := of_decide_eq_true as_; obtain ⟨ad158, e158, hx158_0⟩ := Kd.at_int HR157_0.out x5_2 p158 q158; cases e158; replace hx158_0 := (HB.out.cell (World.block_lt_of_cell? w _ hx158_0)).trans hx158_0; replace p158 := eq_true p158; replace q158 := eq_true q158) | ((with_reducible refine gate_callee (f := 54) rfl ?_); refine gs_ (some 51) Try.func54 #[.slice Ao21 x3_2.length co21, .int .i64 (rd ((rd_T53 l0_3 x4_1).f0) x5_2)] ?_; (with_reducible refine (spec_l23Put.calls k2 _ _ x3_2 (rd ((rd_T53 l0_3 x4_1).f0) x5_2) t159 _ ?side1 ?side2 A19.out).mono ?_); (case side1 => exact cs_ ((Kd.R_reads' HO_3.out).2.2)); (case side2 => exact (Kd.R_reads' HO_3.out).2.1); rintro e w22 ⟨v160, rfl, ho0, hb⟩; refine ⟨_, rfl, ?_⟩; have HO161 := Aside0.mk (Kd.R_lower (Kd.R_new' ho0 (Kd.R_lt (ra_ HO_3.out))) (below_size bl_)); replace HO_3 := Aside0.mk (Kd.R_elder' (ra_ HO_3.out) (Kd.R_base ho0) hb); replace BK148 := bb0_ BK148.out hb; replace HB := Aside0.mk (below_step bl_ hb); (try clear hb); (try clear ho0)))
 go_roundg k2
 case measure => have := HK1.out; have := HK2.out; omega
 case rel => exact ⟨(t159), (wrap64 (x5_2 + 1)), (sr_), H', ⟨by have := HK1.out; have := HK2.out; omega⟩, ⟨by (with_reducible repeat (first | apply Kd.R_alloc | apply Kd.R_drewN | apply Kd.R_drew)); exact Kd.R_mono HO161.out (fun _ hk => trivial)⟩, ⟨bk_ BK148.out⟩, ⟨bl_⟩⟩


def impl_within.f (a0 : Int) (a1 : Int) (a2 : Int) : Option (Bool) := if a0 ≥ a1 then (some (decide (a0 ≤ a2))) else (some false)
theorem impl_within.calls (a0 : Int) (a1 : Int) (a2 : Int) (r : Bool) (w : World) (h : impl_within.f a0 a1 a2 = some r) :
 Calls Try.prog 89 #[.int .i64 a0, .int .i64 a1, .int .i64 a2] w fun e w' => e = .returned (.bool r) ∧ Drawn0 w w' := by
 have H := h
 unfold impl_within.f at H
 clear h
 by_cases c4 : a0 ≥ a1
 rotate_left
 ·rw [if_neg c4] at H
  have c4b0 := decide_eq_false c4
  clear c4
  obtain rfl := Option.some.inj H
  go_enter Try.func89, Try.ntmps89
  go_wp2
  go_ret
  exact ⟨sr_, by repeat (first | exact Drawn0.refl _ | apply Drawn0.step)⟩
 rw [if_pos c4] at H
 have c4b0 := decide_eq_true c4
 clear c4
 obtain rfl := Option.some.inj H
 go_enter Try.func89, Try.ntmps89
 go_wp2
 go_ret
 exact ⟨sr_, by repeat (first | exact Drawn0.refl _ | apply Drawn0.step)⟩


def impl_HalfOk.f (a0 : Int) : Option (Bool) := (impl_within.f a0 0 4294967295).bind fun t162 => (some t162)
theorem impl_HalfOk.calls (a0 : Int) (r : Bool) (w : World) (h : impl_HalfOk.f a0 = some r) :
 Calls Try.prog 98 #[.int .i64 a0] w fun e w' => e = .returned (.bool r) ∧ Drawn0 w w' := by
 have H := h
 unfold impl_HalfOk.f at H
 clear h
 replace H := bs_ H
 obtain ⟨t162, A2, H⟩ := H
 try dsimp only at H
 obtain rfl := Option.some.inj H
 go_enter Try.func98, Try.ntmps98
 go_wp2_with (first | ((with_reducible refine gate_callee (f := 89) rfl ?_); refine gs_ (some 4) Try.func89 #[.int .i64 a0, .int .i64 0, .int .i64 4294967295] ?_; (with_reducible refine (impl_within.calls a0 0 4294967295 t162 _ A2.out).mono ?_); rintro e w' ⟨rfl, ⟨nd, rfl⟩⟩; refine ⟨_, rfl, ?_⟩))
 go_ret
 exact ⟨sr_, by repeat (first | exact Drawn0.refl _ | apply Drawn0.step)⟩


def impl_actionOk.f (a0 : Int) (a1 : Int) : Option (Bool) := (impl_within.f a0 0 5).bind fun t163 => (if t163 = true then ((impl_within.f a1 0 65535).bind fun t164 => (some t164)) else (some false))
theorem impl_actionOk.calls (a0 : Int) (a1 : Int) (r : Bool) (w : World) (h : impl_actionOk.f a0 a1 = some r) :
 Calls Try.prog 99 #[.int .i64 a0, .int .i64 a1] w fun e w' => e = .returned (.bool r) ∧ Drawn0 w w' := by
 have H := h
 unfold impl_actionOk.f at H
 clear h
 replace H := bs_ H
 obtain ⟨t163, A3, H⟩ := H
 try dsimp only at H
 by_cases c4 : t163 = true
 rotate_left
 ·replace c4 := Bool.eq_false_iff.mpr c4
  subst c4
  rw [nf_] at H
  obtain rfl := Option.some.inj H
  go_enter Try.func99, Try.ntmps99
  go_wp2_with (first | ((with_reducible refine gate_callee (f := 89) rfl ?_); refine gs_ (some 6) Try.func89 #[.int .i64 a0, .int .i64 0, .int .i64 5] ?_; (with_reducible refine (impl_within.calls a0 0 5 false _ A3.out).mono ?_); rintro e w' ⟨rfl, ⟨nd, rfl⟩⟩; refine ⟨_, rfl, ?_⟩))
  go_ret
  exact ⟨sr_, by repeat (first | exact Drawn0.refl _ | apply Drawn0.step)⟩
 subst c4
 rw [if_pos rfl] at H
 replace H := bs_ H
 obtain ⟨t164, A5, H⟩ := H
 try dsimp only at H
 obtain rfl := Option.some.inj H
 go_enter Try.func99, Try.ntmps99
 go_wp2_with (first | ((with_reducible refine gate_callee (f := 89) rfl ?_); refine gs_ (some 6) Try.func89 #[.int .i64 a0, .int .i64 0, .int .i64 5] ?_; (with_reducible refine (impl_within.calls a0 0 5 true _ A3.out).mono ?_); rintro e w' ⟨rfl, ⟨nd, rfl⟩⟩; refine ⟨_, rfl, ?_⟩) | (go_at_call 89; (with_reducible refine (impl_within.calls a1 0 65535 t164 _ A5.out).mono ?_); rintro e w' ⟨rfl, ⟨nd, rfl⟩⟩))
 go_ret
 exact ⟨sr_, by repeat (first | exact Drawn0.refl _ | apply Drawn0.step)⟩


def impl_WideOk.f (a0_0 : Int) (a0_1 : Int) : Option (Bool) := (impl_HalfOk.f a0_0).bind fun t166 => (if t166 = true then ((impl_HalfOk.f a0_1).bind fun t167 => (some t167)) else (some false))
theorem impl_WideOk.calls (a0_0 : Int) (a0_1 : Int) (r : Bool) (w : World) (h : impl_WideOk.f a0_0 a0_1 = some r) :
 Calls Try.prog 134 #[.agg #[.int .i64 a0_0, .int .i64 a0_1]] w fun e w' => e = .returned (.bool r) ∧ Below w.heap.size w w' := by
 have hu98 := Try.underlying98
 have HB := Aside0.mk (Below.refl w.heap.size w)
 have H := h
 unfold impl_WideOk.f at H
 clear h
 replace H := bs_ H
 obtain ⟨t166, A2, H⟩ := H
 try dsimp only at H
 by_cases c3 : t166 = true
 rotate_left
 ·replace c3 := Bool.eq_false_iff.mpr c3
  subst c3
  rw [nf_] at H
  obtain rfl := Option.some.inj H
  go_enter Try.func134, Try.ntmps134
  go_wp2_with (first | ((with_reducible refine gate_dst (N := 1) rfl ?_); refine bx_ 1 98 #[.int .i64 a0_0, .int .i64 a0_1] ?_; intro gb165 hg w7 hbox hb; have BK165 := Aside0.mk (hbox); have GW165 := Aside0.mk ((hz_ : w.heap.size ≤ gb165)); have GE165 := GW165; replace HB := Aside0.mk (below_step bl_ hb); clear hb hbox hg; obtain ⟨hcz8_0, hcz8_1, hfz8_0, hfz8_1⟩ := cf2_ BK165.out) | ((with_reducible refine gate_callee (f := 98) rfl ?_); refine gs_ (some 5) Try.func98 #[.int .i64 a0_0] ?_; (with_reducible refine (impl_HalfOk.calls a0_0 false _ A2.out).mono ?_); rintro e w' ⟨rfl, ⟨nd, rfl⟩⟩; refine ⟨_, rfl, ?_⟩))
  go_ret
  exact ⟨er_, bl_⟩
 subst c3
 rw [if_pos rfl] at H
 replace H := bs_ H
 obtain ⟨t167, A4, H⟩ := H
 try dsimp only at H
 obtain rfl := Option.some.inj H
 go_enter Try.func134, Try.ntmps134
 go_wp2_with (first | ((with_reducible refine gate_dst (N := 1) rfl ?_); refine bx_ 1 98 #[.int .i64 a0_0, .int .i64 a0_1] ?_; intro gb165 hg w5 hbox hb; have BK165 := Aside0.mk (hbox); have GW165 := Aside0.mk ((hz_ : w.heap.size ≤ gb165)); have GE165 := GW165; replace HB := Aside0.mk (below_step bl_ hb); clear hb hbox hg; obtain ⟨hcz6_0, hcz6_1, hfz6_0, hfz6_1⟩ := cf2_ BK165.out) | ((with_reducible refine gate_callee (f := 98) rfl ?_); refine gs_ (some 5) Try.func98 #[.int .i64 a0_0] ?_; (with_reducible refine (impl_HalfOk.calls a0_0 true _ A2.out).mono ?_); rintro e w' ⟨rfl, ⟨nd, rfl⟩⟩; refine ⟨_, rfl, ?_⟩) | (go_at_call 98; (with_reducible refine (impl_HalfOk.calls a0_1 t167 _ A4.out).mono ?_); rintro e w' ⟨rfl, ⟨nd, rfl⟩⟩))
 go_ret
 exact ⟨er_, bl_⟩

end Go.Proofs.Ytjfmpodeenidnaa.PC

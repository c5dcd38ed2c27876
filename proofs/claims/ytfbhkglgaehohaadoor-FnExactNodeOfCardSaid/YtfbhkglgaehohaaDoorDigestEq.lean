/- The program's digest and the reference's are one. A plain law: no program in sight. No condition but the bound on a text's size. -/
import Derived.Test.YtfbhkglgaehohaaDoorPAx8
import Derived.Test.YtfbhkglgaehohaaDoorSpecDigest
import Derived.Test.YtfbhkglgaehohaaDoorKit
namespace Go.Proofs.YtfbhkglgaehohaaDoor.DigestEq
open Go.RowKit Go.Proofs.YtfbhkglgaehohaaDoorW.PrintWords Go.Proofs.YtfbhkglgaehohaaDoorW.PrintLast Go.Proofs.YtfbhkglgaehohaaDoorW.PrintMore Go.Proofs.YtfbhkglgaehohaaDoor.Kit Go.Proofs.YtfbhkglgaehohaaDoor.PA
open Go.Proofs.YtfbhkglgaehohaaDoor.PH (hs hs_len padS padS_size blocks f4 f4_len padBytes padZ hFirst shaB shaB_len outs strOfNums_size)
set_option linter.unusedVariables false
theorem strApp (a b : List Int) : strOfNums (a ++ b) = strOfNums a ++ strOfNums b := by
  apply ByteArray.ext
  simp [strOfNums]
theorem strBytes (s : ByteArray) : strOfNums (bytesOf s) = s := by
  apply ByteArray.ext
  apply Array.ext'
  simp [strOfNums, bytesOf, Function.comp_def]
theorem hi8 (N : Int) : (List.range 8).map (fun q => N / 2 ^ (8 * (7 - q)) % 256) = f4 (N / 4294967296) ++ f4 N := by
  have h0 : N / 72057594037927936 % 256 = N / 4294967296 / 16777216 % 256 := by omega
  have h1 : N / 281474976710656 % 256 = N / 4294967296 / 65536 % 256 := by omega
  have h2 : N / 1099511627776 % 256 = N / 4294967296 / 256 % 256 := by omega
  simp [List.range, List.range.loop, f4, h0, h1, h2]
theorem padEq (a0 : ByteArray) (hb : a0.size ≤ 1073741824) : impl_PadText.f a0 = some (padS a0) := by
  have e : Int.tmod (wrap64 (64 - (Int.tmod (wrap64 ((a0.size : Int) + 9)) 64))) 64 = (padZ a0.size : Int) := by
    have c1 : Int.tmod ((a0.size : Int) + 9) 64 = ((a0.size : Int) + 9) % 64 := Int.tmod_eq_emod_of_nonneg (by omega)
    rw [w64 (x := (a0.size : Int) + 9) (by omega) (by omega), c1, w64 (by omega) (by omega)]
    have c2 : Int.tmod (64 - ((a0.size : Int) + 9) % 64) 64 = (64 - ((a0.size : Int) + 9) % 64) % 64 := Int.tmod_eq_emod_of_nonneg (by omega)
    rw [c2]
    unfold padZ
    omega
  have hz : padZ a0.size < 64 := by unfold padZ; omega
  have e8 : wrap64 (8 * (a0.size : Int)) = 8 * (a0.size : Int) := w64 (by omega) (by omega)
  unfold impl_PadText.f impl_four.f
  rw [e, e8, if_pos (by omega), if_pos (by omega), if_pos (by omega)]
  simp only [Option.bind_some, Int.toNat_natCast]
  have s1 : (a0 ++ (⟨#[128]⟩ : ByteArray)).size = a0.size + 1 := by rw [ByteArray.size_append]; rfl
  have s2 : (strOfNums (List.replicate (padZ a0.size) 0)).size = padZ a0.size := by rw [strOfNums_size, List.length_replicate]
  have s3 (x : Int) : (strOfNums [x / 16777216 % 256, x / 65536 % 256, x / 256 % 256, x % 256]).size = 4 := by rw [strOfNums_size]; rfl
  rw [if_pos (by rw [s1, s2]; omega), if_pos (by rw [ByteArray.size_append, s1, s2, s3]; omega), if_pos (by rw [ByteArray.size_append, ByteArray.size_append, s1, s2, s3, s3]; omega)]
  unfold padS padBytes
  have c (l : List Int) : strOfNums (128 :: l) = (⟨#[128]⟩ : ByteArray) ++ strOfNums l := strApp [128] l
  rw [hi8, strApp, c, strApp, strApp, strBytes]
  simp only [← ByteArray.append_assoc]
  rfl
theorem half_first : ∀ x ∈ hFirst, 0 ≤ x ∧ x ≤ 4294967295 := by decide
theorem half_sha (l : List Int) (t : ByteArray) (h : l.length = 8) : ∀ x ∈ shaB l t, 0 ≤ x ∧ x ≤ 4294967295 := by
  intro x hx
  unfold PH.shaB PH.outs at hx
  rw [List.drop_of_length_le (by omega), List.append_nil] at hx
  obtain ⟨i, _, rfl⟩ := List.mem_map.1 hx
  constructor <;> omega
theorem half_hs (p : ByteArray) : ∀ j, ∀ x ∈ hs p j, 0 ≤ x ∧ x ≤ 4294967295
  | 0 => half_first
  | j + 1 => half_sha _ _ (hs_len p j)
theorem rdS (l : List Int) (i : Nat) (hi : i < l.length) : rd l (i : Int) = l[i] := by simp [rd, hi]
theorem ev_out (s : List Int) (h : s.length = 8) : Ev (fun k => impl_Digest.l1 k (⟨#[]⟩ : ByteArray) s (s.length : Int) 0) (strOfNums (s.flatMap f4)) := by
  have key := evUp (r := strOfNums (s.flatMap f4)) 8 (fun i k => impl_Digest.l1 k (strOfNums ((s.take i).flatMap f4)) s (s.length : Int) (i : Int)) ?_ ?_
  · exact key
  · intro i hi ih
    refine evSucc ?_
    simp only [impl_Digest.l1]
    have hsz : (strOfNums ((s.take i).flatMap f4)).size = 4 * i := by rw [strOfNums_size, f4_len, List.length_take]; omega
    refine evPos (by omega) (evPos (by omega) (evPos (by omega) (evBindS (a := strOfNums (f4 s[i])) (by rw [rdS s i (by omega)]; rfl) (evPos (by rw [hsz, strOfNums_size]; simp [f4]; omega) ?_))))
    rw [w64 (by omega) (by omega), ci, ← strApp]
    have e : (s.take i).flatMap f4 ++ f4 s[i] = (s.take (i + 1)).flatMap f4 := by
      rw [List.take_succ_eq_append_getElem (by omega), List.flatMap_append]; simp
    rw [e]
    exact ih
  · refine evSucc ?_
    simp only [impl_Digest.l1]
    refine evNeg (by omega) (evEq (Ev.now _) ?_)
    rw [List.take_of_length_le (by omega)]
def dig (a0 : ByteArray) : ByteArray := strOfNums ((hs (padS a0) (blocks a0.size)).flatMap f4)
theorem dig_spec (a0 : ByteArray) (hb : a0.size ≤ 1073741824) : spec_Digest.f a0 = some (dig a0) := by
  unfold spec_Digest.f; rw [if_pos hb]; rfl
theorem dig_impl (a0 : ByteArray) (hb : a0.size ≤ 1073741824) : Ev (fun k => impl_Digest.f k a0) (dig a0) := by
  simp only [impl_Digest.f]
  refine evBindS (padEq a0 hb) (evBindS (a := hFirst) rfl ?_)
  have hp := padS_size a0
  have hn : blocks a0.size ≤ 16777218 := by unfold PH.blocks; omega
  unfold dig
  generalize blocks a0.size = nb at hp hn ⊢
  generalize padS a0 = p at hp ⊢
  have key := evUp (r := strOfNums ((hs p nb).flatMap f4)) nb (fun i k => impl_Digest.l0 k p (hs p i) (64 * (i : Int))) ?_ ?_
  · exact key
  · intro i hi ih
    refine evSucc ?_
    simp only [impl_Digest.l0]
    have hw : wrap64 (64 * (i : Int) + 64) = 64 * (i : Int) + 64 := w64 (by omega) (by omega)
    rw [hw]
    refine evPos (by omega) (evPos (by omega) (evPos (by omega) (evPos (by omega) (evBindS (a := hs p (i + 1)) ?_ ?_))))
    · rw [show (64 * (i : Int)).toNat = 64 * i by omega, show (64 * (i : Int) + 64).toNat = 64 * i + 64 by omega]
      unfold impl_ShaBlock.f
      rw [if_pos ⟨hs_len p i, by rw [ByteArray.size_extract]; omega, half_hs p i⟩]
      rfl
    · rw [show 64 * (i : Int) + 64 = 64 * ((i + 1 : Nat) : Int) by omega]
      exact ih
  · refine evSucc ?_
    simp only [impl_Digest.l0]
    exact evNeg (by omega) (ev_out _ (hs_len p nb))
end Go.Proofs.YtfbhkglgaehohaaDoor.DigestEq

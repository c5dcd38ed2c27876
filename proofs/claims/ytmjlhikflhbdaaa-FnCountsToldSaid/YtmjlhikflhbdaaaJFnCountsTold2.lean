/- Contracts of functions of the program and of the reference, and plain lemmas on what they compute: a part of the proof of the law FnCountsTold. No condition. -/
import Derived.Test.YtmjlhikflhbdaaaJFnCountsTold1
import Derived.Test.YtmjlhikflhbdaaaRows
import Derived.WalkKit
import Derived.ProofKit
import Derived.OpenShut
import Derived.ShutString
import Derived.ChangeOld
import Derived.Below
import Derived.SizedLaws
import Derived.Test.YtmjlhikflhbdaaaV0
import Derived.Test.YtmjlhikflhbdaaaShortV
namespace Go.Proofs.Ytmjlhikflhbdaaa.Pure
open Go.RowKit Go.Proofs.Ytmjlhikflhbdaaa.PA Go.Proofs.YtmjlhikflhbdaaaW.PrintWords Go.Proofs.YtmjlhikflhbdaaaW.PrintLast Go.Proofs.YtmjlhikflhbdaaaW.PrintMore Go.Proofs.Ytmjlhikflhbdaaa.Kit
set_option linter.unusedVariables false
set_option linter.unusedSimpArgs false
theorem rdE (l : List S131) (i : Nat) (hi : i < l.length) : rd_T131 l (i : Int) = l[i] := by simp [rd_T131, hi]
def StrictS (l : List Int) : Prop := l.Pairwise (· < ·)
theorem strict_eq : ∀ (a b : List Int), StrictS a → StrictS b → (∀ x, x ∈ a ↔ x ∈ b) → a = b := by
 intro a
 induction a with
 | nil =>
  intro b _ _ h
  cases b with
  | nil => rfl
  | cons y b => exact absurd ((h y).2 (List.mem_cons_self ..)) (List.not_mem_nil)
 | cons x a ih =>
  intro b ha hb h
  cases b with
  | nil => exact absurd ((h x).1 (List.mem_cons_self ..)) (List.not_mem_nil)
  | cons y b =>
   have ha' := List.pairwise_cons.1 ha
   have hb' := List.pairwise_cons.1 hb
   have hxy : x = y := by
    rcases List.mem_cons.1 ((h x).1 (List.mem_cons_self ..)) with e | e
    ·exact e
    ·rcases List.mem_cons.1 ((h y).2 (List.mem_cons_self ..)) with e2 | e2
     ·exact e2.symm
     ·have h1 := hb'.1 x e
      have h2 := ha'.1 y e2
      omega
   subst hxy
   rw [ih b ha'.2 hb'.2 (fun z => ?_)]
   constructor
   ·intro hz
    rcases List.mem_cons.1 ((h z).1 (List.mem_cons_of_mem _ hz)) with e | e
    ·have := ha'.1 z hz; omega
    ·exact e
   ·intro hz
    rcases List.mem_cons.1 ((h z).2 (List.mem_cons_of_mem _ hz)) with e | e
    ·have := hb'.1 z hz; omega
    ·exact e
def insS (x : Int) : List Int → List Int
 | [] => [x]
 | y :: l => if x < y then x :: y :: l else y :: insS x l
theorem insS_mem (x : Int) : ∀ l z, z ∈ insS x l ↔ z = x ∨ z ∈ l := by
 intro l
 induction l with
 | nil => intro z; simp [insS]
 | cons y l ih =>
  intro z
  unfold insS
  split
  ·rw [List.mem_cons]
  ·rw [List.mem_cons, ih z, List.mem_cons]
   constructor
   ·rintro (e | e | e)
    ·exact Or.inr (Or.inl e)
    ·exact Or.inl e
    ·exact Or.inr (Or.inr e)
   ·rintro (e | e | e)
    ·exact Or.inr (Or.inl e)
    ·exact Or.inl e
    ·exact Or.inr (Or.inr e)
theorem insS_strict (x : Int) : ∀ l, StrictS l → x ∉ l → StrictS (insS x l) := by
 intro l
 induction l with
 | nil => intro _ _; exact List.pairwise_singleton _ _
 | cons y l ih =>
  intro h hx
  have h' := List.pairwise_cons.1 h
  unfold insS
  split
  ·rename_i hlt
   refine List.pairwise_cons.2 ⟨fun z hz => ?_, h⟩
   rcases List.mem_cons.1 hz with e | e
   ·omega
   ·have := h'.1 z e; omega
  ·rename_i hlt
   refine List.pairwise_cons.2 ⟨fun z hz => ?_, ih h'.2 (fun e => hx (List.mem_cons_of_mem _ e))⟩
   rcases (insS_mem x l z).1 hz with e | e
   ·have : x ≠ y := fun e2 => hx (by rw [e2]; exact List.mem_cons_self ..)
    omega
   ·exact h'.1 z e
theorem insS_len (x : Int) : ∀ l, (insS x l).length = l.length + 1 := by
 intro l
 induction l with
 | nil => rfl
 | cons y l ih =>
  unfold insS
  split
  ·rfl
  ·rw [List.length_cons, ih, List.length_cons]
def putAll : List Int → List Int → List Int
 | [], acc => acc
 | x :: l, acc => putAll l (if x ∈ acc then acc else insS x acc)
theorem putAll_law : ∀ l acc, StrictS acc → StrictS (putAll l acc) ∧ ∀ z, z ∈ putAll l acc ↔ z ∈ acc ∨ z ∈ l := by
 intro l
 induction l with
 | nil => intro acc h; exact ⟨h, fun z => by simp [putAll]⟩
 | cons x l ih =>
  intro acc h
  unfold putAll
  by_cases hx : x ∈ acc
  ·rw [if_pos hx]
   obtain ⟨h1, h2⟩ := ih acc h
   refine ⟨h1, fun z => ?_⟩
   rw [h2 z, List.mem_cons]
   constructor
   ·rintro (e | e)
    ·exact Or.inl e
    ·exact Or.inr (Or.inr e)
   ·rintro (e | e | e)
    ·exact Or.inl e
    ·rw [e]; exact Or.inl hx
    ·exact Or.inr e
  ·rw [if_neg hx]
   obtain ⟨h1, h2⟩ := ih (insS x acc) (insS_strict x acc h hx)
   refine ⟨h1, fun z => ?_⟩
   rw [h2 z, insS_mem, List.mem_cons]
   constructor
   ·rintro ((e | e) | e)
    ·exact Or.inr (Or.inl e)
    ·exact Or.inl e
    ·exact Or.inr (Or.inr e)
   ·rintro (e | e | e)
    ·exact Or.inl (Or.inr e)
    ·exact Or.inl (Or.inl e)
    ·exact Or.inr e
theorem putAll_len : ∀ l acc, (putAll l acc).length ≤ acc.length + l.length := by
 intro l
 induction l with
 | nil => intro acc; exact Nat.le_refl _
 | cons x l ih =>
  intro acc
  unfold putAll
  split
  ·have := ih acc; rw [List.length_cons]; omega
  ·have := ih (insS x acc); rw [insS_len] at this; rw [List.length_cons]; omega
def srtS (l : List Int) : List Int := l.mergeSort fun x y => decide (x ≤ y)
theorem srtS_len (l : List Int) : (srtS l).length = l.length := List.length_mergeSort _
theorem srtS_mem (l : List Int) (z : Int) : z ∈ srtS l ↔ z ∈ l := (List.mergeSort_perm l _).mem_iff
theorem srtS_sorted (l : List Int) : (srtS l).Pairwise (· ≤ ·) := by
 have := List.pairwise_mergeSort (le := fun x y : Int => decide (x ≤ y)) (fun a b c h1 h2 => by simp at *; omega) (fun a b => by simp; omega) l
 exact this.imp (fun h => by simpa using h)
theorem sorted_at (d : List Int) (h : d.Pairwise (· ≤ ·)) (i j : Nat) (hij : i ≤ j) (hj : j < d.length) : d.toArray[i]! ≤ d.toArray[j]! := by
 rcases Nat.lt_or_eq_of_le hij with hlt | rfl
 ·have := (List.pairwise_iff_getElem.1 h) i j (by omega) hj hlt
  simp [hj, show i < d.length by omega]
  exact this
 ·exact Int.le_refl _
theorem upTo_law (d : List Int) (h : d.Pairwise (· ≤ ·)) : ∀ m, m ≤ d.length → StrictS (Go.Lib.compactUpTo d.toArray m) ∧ (∀ z, z ∈ Go.Lib.compactUpTo d.toArray m ↔ ∃ j, j < m ∧ d.toArray[j]! = z) := by
 intro m
 induction m with
 | zero =>
  intro _
  refine ⟨List.Pairwise.nil, fun z => ?_⟩
  constructor
  ·intro hz; exact absurd hz (by simp [Go.Lib.compactUpTo])
  ·rintro ⟨j, hj, _⟩; omega
 | succ m ih =>
  intro hm
  obtain ⟨h1, h2⟩ := ih (by omega)
  rw [Go.Lib.compactUpTo_succ]
  by_cases hk : Go.Lib.keeps d.toArray m = true
  ·rw [if_pos hk]
   refine ⟨?_, fun z => ?_⟩
   ·refine List.pairwise_append.2 ⟨h1, List.pairwise_singleton _ _, fun x hx y hy => ?_⟩
    rw [List.mem_singleton] at hy
    subst hy
    obtain ⟨j, hj, rfl⟩ := (h2 x).1 hx
    have hne : d.toArray[m]! ≠ d.toArray[m - 1]! := by
     unfold Go.Lib.keeps at hk
     rw [decide_eq_true_eq] at hk
     rcases hk with e | e
     ·omega
     ·exact e
    have a1 := sorted_at d h j (m - 1) (by omega) (by omega)
    have a2 := sorted_at d h (m - 1) m (by omega) (by omega)
    omega
   ·rw [List.mem_append, h2 z, List.mem_singleton]
    constructor
    ·rintro (⟨j, hj, e⟩ | e)
     ·exact ⟨j, by omega, e⟩
     ·exact ⟨m, by omega, e.symm⟩
    ·rintro ⟨j, hj, e⟩
     by_cases hjm : j = m
     ·subst hjm; exact Or.inr e.symm
     ·exact Or.inl ⟨j, by omega, e⟩
  ·rw [if_neg hk, List.append_nil]
   refine ⟨h1, fun z => ?_⟩
   rw [h2 z]
   have hk' : ¬ (m = 0 ∨ d.toArray[m]! ≠ d.toArray[m - 1]!) := by
    intro c; apply hk; unfold Go.Lib.keeps; exact decide_eq_true c
   constructor
   ·rintro ⟨j, hj, e⟩; exact ⟨j, by omega, e⟩
   ·rintro ⟨j, hj, e⟩
    by_cases hjm : j = m
    ·subst hjm
     refine ⟨j - 1, by omega, ?_⟩
     rw [← e]
     apply Classical.byContradiction
     intro hn
     exact hk' (Or.inr (fun z => hn z.symm))
    ·exact ⟨j, by omega, e⟩
theorem compact_putAll (l : List Int) : Go.Lib.compact (srtS l) = putAll l [] := by
 obtain ⟨h1, h2⟩ := upTo_law (srtS l) (srtS_sorted l) (srtS l).length (Nat.le_refl _)
 obtain ⟨h3, h4⟩ := putAll_law l [] List.Pairwise.nil
 refine strict_eq _ _ h1 h3 (fun z => ?_)
 rw [h4 z]
 show z ∈ Go.Lib.compactUpTo (srtS l).toArray (srtS l).length ↔ _
 rw [h2 z]
 constructor
 ·rintro ⟨j, hj, e⟩
  refine Or.inr ((srtS_mem l z).1 ?_)
  rw [← e]
  simp [hj]
 ·rintro (e | e)
  ·cases e
  ·obtain ⟨j, hj, e2⟩ := List.getElem_of_mem ((srtS_mem l z).2 e)
   exact ⟨j, hj, by simp [hj]; exact e2⟩
theorem rdI (l : List Int) (i : Nat) (hi : i < l.length) : rd l (i : Int) = l[i] := by simp [rd, hi]
theorem ev_l09In (l : List Int) (x : Int) (hl : l.length ≤ 4194304) : Ev (fun k => spec_l09In.f k l x) (decide (x ∈ l)) := by
 have key : ∀ d i, i + d = l.length → Ev (fun k => spec_l09In.l0 k l x (i : Int)) (decide (x ∈ l.drop i)) := by
  intro d
  induction d with
  | zero =>
   intro i hi
   refine evSucc ?_
   simp only [spec_l09In.l0]
   rw [List.drop_of_length_le (by omega)]
   exact evNeg (by omega) (evEq (Ev.now _) (by simp))
  | succ d ih =>
   intro i hi
   have hlt : i < l.length := by omega
   refine evSucc ?_
   simp only [spec_l09In.l0]
   refine evPos (by omega) (evPos (by omega) ?_)
   rw [rdI l i hlt, w64 (by omega) (by omega), ci, List.drop_eq_getElem_cons hlt]
   by_cases hc : l[i] = x
   ·exact evPos hc (evEq (Ev.now _) (by rw [hc]; simp))
   ·refine evNeg hc (evEq (ih (i + 1) (by omega)) ?_)
    rw [Bool.eq_iff_iff, decide_eq_true_eq, decide_eq_true_eq, List.mem_cons]
    exact ⟨fun h => Or.inr h, fun h => h.elim (fun e => absurd e.symm hc) id⟩
 exact key l.length 0 (by omega)
theorem ev_l23Put (l : List Int) (x : Int) (hl : l.length ≤ 4194304) : Ev (fun k => spec_l23Put.f k l x) (insS x l) := by
 have put : ∀ d i out, i + d = l.length → out.length ≤ i + 1 → Ev (fun k => spec_l23Put.l0 k l x out true (i : Int)) (out ++ l.drop i) := by
  intro d
  induction d with
  | zero =>
   intro i out hi ho
   refine evSucc ?_
   simp only [spec_l23Put.l0]
   rw [List.drop_of_length_le (by omega), List.append_nil]
   exact evNeg (by omega) (evPos trivial (Ev.now _))
  | succ d ih =>
   intro i out hi ho
   have hlt : i < l.length := by omega
   refine evSucc ?_
   simp only [spec_l23Put.l0]
   refine evPos (by omega) (evPos trivial (evPos (by omega) (evPos (by omega) ?_)))
   rw [rdI l i hlt, w64 (by omega) (by omega), ci]
   refine evEq (ih (i + 1) (out ++ [l[i]]) (by omega) (by rw [List.length_append, List.length_singleton]; omega)) ?_
   rw [List.drop_eq_getElem_cons hlt, List.append_assoc]
   rfl
 have key : ∀ d i out, i + d = l.length → out.length ≤ i → Ev (fun k => spec_l23Put.l0 k l x out false (i : Int)) (out ++ insS x (l.drop i)) := by
  intro d
  induction d with
  | zero =>
   intro i out hi ho
   refine evSucc ?_
   simp only [spec_l23Put.l0]
   rw [List.drop_of_length_le (by omega)]
   exact evNeg (by omega) (evNeg (by simp) (evPos (by omega) (Ev.now _)))
  | succ d ih =>
   intro i out hi ho
   have hlt : i < l.length := by omega
   refine evSucc ?_
   simp only [spec_l23Put.l0]
   refine evPos (by omega) (evNeg (by simp) (evPos (by omega) ?_))
   rw [rdI l i hlt, w64 (by omega) (by omega), ci, List.drop_eq_getElem_cons hlt]
   unfold insS
   by_cases hc : x < l[i]
   ·rw [if_pos hc]
    refine evPos hc (evPos (by omega) ?_)
    simp only [Option.bind_some]
    refine evPos (by rw [List.length_append, List.length_singleton]; omega) ?_
    refine evEq (put d (i + 1) ((out ++ [x]) ++ [l[i]]) (by omega) (by rw [List.length_append, List.length_append, List.length_singleton, List.length_singleton]; omega)) ?_
    rw [List.append_assoc, List.append_assoc]
    rfl
   ·rw [if_neg hc]
    refine evNeg hc (evPos (by omega) ?_)
    refine evEq (ih (i + 1) (out ++ [l[i]]) (by omega) (by rw [List.length_append, List.length_singleton]; omega)) ?_
    rw [List.append_assoc]
    rfl
 exact key l.length 0 [] (by omega) (Nat.le_refl _)
def pidE (e : S131) : Int := e.f0
theorem sort_f (l : List Int) (h : l.length ≤ 4194304) : slices_Sort_int_int.f l = some (srtS l) := if_pos (by omega)
theorem ev_spec_PidsIn (L : List S131) (hL : L.length ≤ 1048576) : Ev (fun k => spec_PidsIn.f k L) (putAll (L.map pidE) []) := by
 have key : ∀ d i acc, i + d = L.length → acc.length ≤ i → Ev (fun k => spec_PidsIn.l0 k L acc (i : Int)) (putAll ((L.drop i).map pidE) acc) := by
  intro d
  induction d with
  | zero =>
   intro i acc hi ha
   refine evSucc ?_
   simp only [spec_PidsIn.l0]
   rw [List.drop_of_length_le (by omega)]
   exact evNeg (by omega) (Ev.now _)
  | succ d ih =>
   intro i acc hi ha
   have hlt : i < L.length := by omega
   refine evSucc ?_
   simp only [spec_PidsIn.l0]
   refine evPos (by omega) (evPos (by omega) ?_)
   rw [rdE L i hlt, w64 (by omega) (by omega), ci, List.drop_eq_getElem_cons hlt, List.map_cons]
   refine Ev.bind (ev_l09In acc L[i].f0 (by omega)) ?_
   unfold putAll
   by_cases hc : L[i].f0 ∈ acc
   ·refine evPos (decide_eq_true hc) ?_
    rw [show pidE L[i] = L[i].f0 from rfl, if_pos hc]
    exact ih (i + 1) acc (by omega) (by omega)
   ·refine evNeg (by rw [decide_eq_true_eq]; exact hc) ?_
    rw [show pidE L[i] = L[i].f0 from rfl, if_neg hc]
    exact Ev.bind (ev_l23Put acc L[i].f0 (by omega)) (ih (i + 1) _ (by omega) (by rw [insS_len]; omega))
 exact key L.length 0 [] (by omega) (Nat.le_refl _)
theorem ev_impl_PidsIn (L : List S131) (hL : L.length ≤ 1048576) : Ev (fun k => impl_PidsIn.f k L) (putAll (L.map pidE) []) := by
 have key := evUp (r := putAll (L.map pidE) []) L.length (fun i k => impl_PidsIn.l0 k ((L.take i).map pidE) L (L.length : Int) (i : Int)) ?_ ?_
 ·exact key
 ·intro i hi ih
  refine evSucc ?_
  simp only [impl_PidsIn.l0]
  refine evPos (by omega) (evPos (by omega) (evPos (by omega) (evPos (by rw [List.length_map, List.length_take]; omega) ?_)))
  rw [rdE L i hi, w64 (by omega) (by omega), ci]
  rw [takeSnoc L i hi, List.map_append] at ih
  exact ih
 ·refine evSucc ?_
  simp only [impl_PidsIn.l0]
  refine evNeg (by omega) ?_
  rw [List.take_length]
  refine evBindS (sort_f _ (by rw [List.length_map]; omega)) ?_
  refine evBindS (show slices_Compact_int_int.f (srtS (L.map pidE)) = some (Go.Lib.compact (srtS (L.map pidE))) from rfl) ?_
  rw [compact_putAll]
  exact Ev.now _
def evB (e : S131) : Bool := e.f2.f0 == 1
def evN (e : S131) : Int := e.f2.f1
def evsL (L : List S131) : List Int := (L.filter evB).map evN
def cntI (x : Int) : List Int → Nat
 | [] => 0
 | y :: l => (if y = x then 1 else 0) + cntI x l
theorem cntI_append (x : Int) : ∀ a b, cntI x (a ++ b) = cntI x a + cntI x b := by
 intro a
 induction a with
 | nil => intro b; simp [cntI]
 | cons y a ih =>
  intro b
  show (if y = x then 1 else 0) + cntI x (a ++ b) = ((if y = x then 1 else 0) + cntI x a) + cntI x b
  rw [ih b, Nat.add_assoc]
theorem cntI_perm (x : Int) {a b : List Int} (h : a.Perm b) : cntI x a = cntI x b := by
 induction h with
 | nil => rfl
 | cons y _ ih => unfold cntI; rw [ih]
 | swap y z l => unfold cntI cntI; omega
 | trans _ _ i1 i2 => rw [i1, i2]
theorem cntI_none (x : Int) : ∀ l, x ∉ l → cntI x l = 0 := by
 intro l
 induction l with
 | nil => intro _; rfl
 | cons y l ih =>
  intro h
  unfold cntI
  rw [if_neg (fun e => h (by rw [e]; exact List.mem_cons_self ..)), ih (fun e => h (List.mem_cons_of_mem _ e))]
theorem cntI_pos (x : Int) : ∀ l, x ∈ l → 0 < cntI x l := by
 intro l
 induction l with
 | nil => intro h; cases h
 | cons y l ih =>
  intro h
  unfold cntI
  rcases List.mem_cons.1 h with e | e
  ·rw [if_pos e.symm]; omega
  ·have := ih e; omega
theorem cntI_le (x : Int) : ∀ l, cntI x l ≤ l.length := by
 intro l
 induction l with
 | nil => exact Nat.le_refl _
 | cons y l ih => unfold cntI; rw [List.length_cons]; split <;> omega
def talOf (ns : List Int) (L : List Int) : List S65 := ns.map (fun n => ⟨n, (cntI n L : Int)⟩)
def tallies (L : List S131) : List S65 := talOf (putAll (evsL L) []) (evsL L)
theorem rdT (l : List S65) (i : Nat) (hi : i < l.length) : rd_T65 l (i : Int) = l[i] := by simp [rd_T65, hi]
theorem evsL_len (L : List S131) : (evsL L).length ≤ L.length := by
 unfold evsL
 rw [List.length_map]
 exact List.length_filter_le _ _
theorem tallies_len (L : List S131) : (tallies L).length ≤ L.length := by
 unfold tallies talOf
 have := putAll_len (evsL L) []
 have := evsL_len L
 rw [List.length_map]
 rw [List.length_nil] at *
 omega
theorem ev_spec_TalliesOf (L : List S131) (hL : L.length ≤ 1048576) : Ev (fun k => spec_TalliesOf.f k L) (tallies L) := by
 have third : ∀ (ns : List Int) (hns : ns.length ≤ 1048576) (out : List S65) (j : Nat) (hj : j < ns.length) (ho : out.length ≤ 1048576) (r : List S65),
  Ev (fun k => spec_TalliesOf.l1 k L ns (out ++ [⟨ns[j], (cntI ns[j] (evsL L) : Int)⟩]) ((j + 1 : Nat) : Int)) r → Ev (fun k => spec_TalliesOf.l2 k L ns out (j : Int) 0 0) r := by
  intro ns hns out j hj ho r hr
  have key : ∀ d i, i + d = L.length → Ev (fun k => spec_TalliesOf.l2 k L ns out (j : Int) (cntI ns[j] (evsL (L.take i)) : Int) (i : Int)) r := by
   intro d
   induction d with
   | zero =>
    intro i hi
    obtain rfl : i = L.length := by omega
    refine evSucc ?_
    simp only [spec_TalliesOf.l2]
    rw [List.take_length]
    refine evNeg (by omega) (evPos (by omega) (evPos (by omega) (evPos (by omega) ?_)))
    rw [rdI ns j hj, w64 (by omega) (by omega), ci]
    exact hr
   | succ d ih =>
    intro i hi
    have hlt : i < L.length := by omega
    have hc := cntI_le ns[j] (evsL (L.take i))
    have hc2 := evsL_len (L.take i)
    rw [List.length_take] at hc2
    refine evSucc ?_
    simp only [spec_TalliesOf.l2]
    refine evPos (by omega) (evPos (by omega) ?_)
    rw [rdE L i hlt, w64 (x := (i : Int) + 1) (by omega) (by omega), w64 (x := (cntI ns[j] (evsL (L.take i)) : Int) + 1) (by omega) (by omega), ci i]
    have nxt := ih (i + 1) (by omega)
    have hs : evsL (L.take (i + 1)) = evsL (L.take i) ++ (if evB L[i] = true then [evN L[i]] else []) := by
     rw [takeSnoc L i hlt]
     unfold evsL
     rw [List.filter_append, List.map_append]
     congr 1
     cases h : evB L[i] <;> simp [List.filter, h]
    by_cases h1 : L[i].f2.f0 = 1
    ·have hb : evB L[i] = true := beq_iff_eq.2 h1
     rw [hs, if_pos hb, cntI_append] at nxt
     refine evPos h1 (evPos (by omega) (evPos (by omega) ?_))
     rw [rdI ns j hj]
     by_cases h2 : L[i].f2.f1 = ns[j]
     ·refine evPos h2 ?_
      have e : cntI ns[j] [evN L[i]] = 1 := by unfold cntI cntI; rw [if_pos (show evN L[i] = ns[j] from h2)]
      rw [e, show ((cntI ns[j] (evsL (L.take i)) + 1 : Nat) : Int) = (cntI ns[j] (evsL (L.take i)) : Int) + 1 by omega] at nxt
      exact nxt
     ·refine evNeg h2 ?_
      have e : cntI ns[j] [evN L[i]] = 0 := by unfold cntI cntI; rw [if_neg (show ¬ evN L[i] = ns[j] from h2)]
      rw [e, Nat.add_zero] at nxt
      exact nxt
    ·have hb : evB L[i] = false := beq_eq_false_iff_ne.2 h1
     rw [hs, if_neg (by rw [hb]; decide), List.append_nil] at nxt
     exact evNeg h1 nxt
  exact key L.length 0 (by omega)
 have second : ∀ (ns : List Int) (hns : ns.length ≤ 1048576), Ev (fun k => spec_TalliesOf.l1 k L ns [] 0) (talOf ns (evsL L)) := by
  intro ns hns
  have key : ∀ d j, j + d = ns.length → Ev (fun k => spec_TalliesOf.l1 k L ns (talOf (ns.take j) (evsL L)) (j : Int)) (talOf ns (evsL L)) := by
   intro d
   induction d with
   | zero =>
    intro j hj
    obtain rfl : j = ns.length := by omega
    refine evSucc ?_
    simp only [spec_TalliesOf.l1]
    rw [List.take_length]
    exact evNeg (by omega) (Ev.now _)
   | succ d ih =>
    intro j hj
    have hlt : j < ns.length := by omega
    refine evSucc ?_
    simp only [spec_TalliesOf.l1]
    refine evPos (by omega) (third ns hns _ j hlt (by unfold talOf; rw [List.length_map, List.length_take]; omega) _ ?_)
    have := ih (j + 1) (by omega)
    rw [takeSnoc ns j hlt] at this
    unfold talOf at this ⊢
    rw [List.map_append] at this
    exact this
  exact key ns.length 0 (by omega)
 have key : ∀ d i acc, i + d = L.length → acc.length ≤ i → Ev (fun k => spec_TalliesOf.l0 k L acc (i : Int)) (talOf (putAll (evsL (L.drop i)) acc) (evsL L)) := by
  intro d
  induction d with
  | zero =>
   intro i acc hi ha
   refine evSucc ?_
   simp only [spec_TalliesOf.l0]
   rw [List.drop_of_length_le (by omega)]
   exact evNeg (by omega) (second acc (by omega))
  | succ d ih =>
   intro i acc hi ha
   have hlt : i < L.length := by omega
   refine evSucc ?_
   simp only [spec_TalliesOf.l0]
   refine evPos (by omega) (evPos (by omega) ?_)
   rw [rdE L i hlt, w64 (by omega) (by omega), ci, List.drop_eq_getElem_cons hlt]
   by_cases h1 : L[i].f2.f0 = 1
   ·have hb : evB L[i] = true := beq_iff_eq.2 h1
    have he : evsL (L[i] :: L.drop (i + 1)) = evN L[i] :: evsL (L.drop (i + 1)) := by unfold evsL; rw [List.filter_cons_of_pos hb]; rfl
    rw [he]
    refine evPos h1 (Ev.bind (ev_l09In acc L[i].f2.f1 (by omega)) ?_)
    unfold putAll
    by_cases hc : L[i].f2.f1 ∈ acc
    ·refine evPos (decide_eq_true hc) ?_
     rw [show evN L[i] = L[i].f2.f1 from rfl, if_pos hc]
     exact ih (i + 1) acc (by omega) (by omega)
    ·refine evNeg (by rw [decide_eq_true_eq]; exact hc) ?_
     rw [show evN L[i] = L[i].f2.f1 from rfl, if_neg hc]
     exact Ev.bind (ev_l23Put acc L[i].f2.f1 (by omega)) (ih (i + 1) _ (by omega) (by rw [insS_len]; omega))
   ·have hb : evB L[i] = false := beq_eq_false_iff_ne.2 h1
    have he : evsL (L[i] :: L.drop (i + 1)) = evsL (L.drop (i + 1)) := by unfold evsL; rw [List.filter_cons_of_neg (by rw [hb]; decide)]
    rw [he]
    exact evNeg h1 (ih (i + 1) acc (by omega) (by omega))
 exact key L.length 0 [] (by omega) (Nat.le_refl _)
theorem talOf_snoc (p : List Int) (x : Int) (T : List Int) : talOf (p ++ [x]) T = talOf p T ++ [⟨x, (cntI x T : Int)⟩] := by unfold talOf; rw [List.map_append]; rfl
theorem talOf_same (x : Int) (T : List Int) : ∀ p : List Int, (∀ n ∈ p, n ≠ x) → talOf p (T ++ [x]) = talOf p T := by
 intro p h
 unfold talOf
 refine List.map_congr_left (fun n hn => ?_)
 rw [cntI_append]
 have e : cntI n [x] = 0 := by unfold cntI cntI; rw [if_neg (fun z => h n hn z.symm)]
 rw [e, Nat.add_zero]
theorem talOf_len (p T : List Int) : (talOf p T).length = p.length := by unfold talOf; rw [List.length_map]
theorem bang_at (S : List Int) (i : Nat) (h : i < S.length) : S.toArray[i]! = S[i] := by simp [h]
theorem upTo_last (S : List Int) : ∀ m, m < S.length → ∃ p, Go.Lib.compactUpTo S.toArray (m + 1) = p ++ [S.toArray[m]!] := by
 intro m
 induction m with
 | zero =>
  intro h
  refine ⟨[], ?_⟩
  rw [Go.Lib.compactUpTo_succ, if_pos (show Go.Lib.keeps S.toArray 0 = true by unfold Go.Lib.keeps; exact decide_eq_true (Or.inl rfl))]
  rfl
 | succ m ih =>
  intro h
  rw [Go.Lib.compactUpTo_succ]
  by_cases hk : Go.Lib.keeps S.toArray (m + 1) = true
  ·rw [if_pos hk]
   exact ⟨_, rfl⟩
  ·rw [if_neg hk, List.append_nil]
   obtain ⟨p, hp⟩ := ih (by omega)
   refine ⟨p, ?_⟩
   have he : S.toArray[m + 1]! = S.toArray[m]! := by
    apply Classical.byContradiction
    intro hn
    exact hk (by unfold Go.Lib.keeps; exact decide_eq_true (Or.inr (by rw [Nat.add_sub_cancel]; exact hn)))
   rw [he]
   exact hp
theorem upTo_le (d : Array Int) : ∀ m, (Go.Lib.compactUpTo d m).length ≤ m := by
 intro m
 induction m with
 | zero => simp [Go.Lib.compactUpTo]
 | succ m ih =>
  rw [Go.Lib.compactUpTo_succ, List.length_append]
  split
  ·rw [List.length_singleton]; omega
  ·rw [List.length_nil]; omega
theorem ev_impl_runs (S : List Int) (hS : S.Pairwise (· ≤ ·)) (hl : S.length ≤ 1048576) : Ev (fun k => impl_TalliesOf.l1 k [] S (S.length : Int) 0) (talOf (Go.Lib.compact S) S) := by
 have key := evUp (r := talOf (Go.Lib.compact S) S) S.length (fun m k => impl_TalliesOf.l1 k (talOf (Go.Lib.compactUpTo S.toArray m) (S.take m)) S (S.length : Int) (m : Int)) ?_ ?_
 ·refine Ev.congr (fun k => ?_) key
  rfl
 ·intro m hm ih
  have hle := upTo_le S.toArray m
  obtain ⟨hst, hmem⟩ := upTo_law S hS m (by omega)
  have hst1 := (upTo_law S hS (m + 1) (by omega)).1
  have htake : S.take (m + 1) = S.take m ++ [S[m]] := takeSnoc S m hm
  refine evSucc ?_
  simp only [impl_TalliesOf.l1]
  refine evPos (by omega) (evPos (by omega) (evPos (by omega) ?_))
  rw [rdI S m hm, w64 (x := (m : Int) + 1) (by omega) (by omega), ci m, talOf_len]
  rw [Go.Lib.compactUpTo_succ, bang_at S m hm] at hst1 ih
  have fresh : Go.Lib.keeps S.toArray m = true → Ev (fun k => impl_TalliesOf.l1 k (talOf (Go.Lib.compactUpTo S.toArray m) (S.take m) ++ [⟨S[m], 1⟩]) S (S.length : Int) ((m + 1 : Nat) : Int)) (talOf (Go.Lib.compact S) S) := by
   intro hk
   rw [if_pos hk] at hst1 ih
   have hne : ∀ n ∈ Go.Lib.compactUpTo S.toArray m, n ≠ S[m] := by
    intro n hn e
    have := (List.pairwise_append.1 hst1).2.2 n hn S[m] (List.mem_singleton.2 rfl)
    omega
   have hno : S[m] ∉ S.take m := by
    intro hin
    obtain ⟨j, hj, e⟩ := List.getElem_of_mem hin
    rw [List.length_take] at hj
    rw [List.getElem_take] at e
    exact hne S[m] ((hmem S[m]).2 ⟨j, by omega, by rw [bang_at S j (by omega)]; exact e⟩) rfl
   rw [talOf_snoc, htake, talOf_same _ _ _ hne, cntI_append, cntI_none _ _ hno, show cntI S[m] [S[m]] = 1 by unfold cntI cntI; rw [if_pos rfl]] at ih
   exact ih
  cases m with
  | zero =>
   rw [show (Go.Lib.compactUpTo S.toArray 0).length = 0 by simp [Go.Lib.compactUpTo]]
   refine evNeg (by omega) (evPos (by omega) ?_)
   exact fresh (by unfold Go.Lib.keeps; exact decide_eq_true (Or.inl rfl))
  | succ q =>
   obtain ⟨p, hp⟩ := upTo_last S q (by omega)
   rw [bang_at S q (by omega)] at hp
   have hpl : (Go.Lib.compactUpTo S.toArray (q + 1)).length = p.length + 1 := by rw [hp, List.length_append, List.length_singleton]
   have hlast : wrap64 (((Go.Lib.compactUpTo S.toArray (q + 1)).length : Int) - 1) = (p.length : Int) := by rw [w64 (by omega) (by omega)]; omega
   rw [hlast]
   have hout : talOf (Go.Lib.compactUpTo S.toArray (q + 1)) (S.take (q + 1)) = talOf p (S.take (q + 1)) ++ [⟨S[q], (cntI S[q] (S.take (q + 1)) : Int)⟩] := by rw [hp, talOf_snoc]
   have hrd : rd_T65 (talOf (Go.Lib.compactUpTo S.toArray (q + 1)) (S.take (q + 1))) (p.length : Int) = ⟨S[q], (cntI S[q] (S.take (q + 1)) : Int)⟩ := by
    have hl2 : p.length < (talOf (Go.Lib.compactUpTo S.toArray (q + 1)) (S.take (q + 1))).length := by rw [talOf_len]; omega
    rw [rdT _ _ hl2]
    simp only [hout]
    rw [List.getElem_append_right (by rw [talOf_len]; exact Nat.le_refl _)]
    simp [talOf_len]
   rw [hrd]
   have hcl := cntI_le S[q] (S.take (q + 1))
   rw [List.length_take] at hcl
   refine evPos (by omega) (evPos (by omega) (evPos (by omega) ?_))
   by_cases hc : S[q] = S[q + 1]
   ·have hk : ¬ Go.Lib.keeps S.toArray (q + 1) = true := by
     unfold Go.Lib.keeps
     rw [decide_eq_true_eq, bang_at S (q + 1) hm, Nat.add_sub_cancel, bang_at S q (by omega), hc]
     rintro (z | z)
     ·omega
     ·exact z rfl
    rw [if_neg hk, List.append_nil] at ih
    refine evPos hc ?_
    have hne : ∀ n ∈ p, n ≠ S[q + 1] := by
     intro n hn e
     rw [hp] at hst
     have := (List.pairwise_append.1 hst).2.2 n hn S[q] (List.mem_singleton.2 rfl)
     omega
    rw [hp, talOf_snoc, htake, talOf_same _ _ _ hne, cntI_append, hc, show cntI S[q + 1] [S[q + 1]] = 1 by unfold cntI cntI; rw [if_pos rfl]] at ih
    rw [w64 (x := (cntI S[q] (S.take (q + 1)) : Int) + 1) (by omega) (by omega), Int.toNat_natCast, hout, List.set_append_right _ _ (by rw [talOf_len]; exact Nat.le_refl _), talOf_len, Nat.sub_self, List.set_cons_zero, hc]
    exact ih
   ·refine evNeg hc (evPos (by omega) ?_)
    refine fresh ?_
    unfold Go.Lib.keeps
    refine decide_eq_true (Or.inr ?_)
    rw [bang_at S (q + 1) hm, Nat.add_sub_cancel, bang_at S q (by omega)]
    exact fun z => hc z.symm
 ·refine evSucc ?_
  simp only [impl_TalliesOf.l1]
  refine evNeg (by omega) ?_
  rw [List.take_length]
  exact Ev.now _
theorem ev_impl_TalliesOf (L : List S131) (hL : L.length ≤ 1048576) : Ev (fun k => impl_TalliesOf.f k L) (tallies L) := by
 have hn := evsL_len L
 have fin : Ev (fun k => impl_TalliesOf.l1 k [] (srtS (evsL L)) ((evsL L).length : Int) 0) (tallies L) := by
  have h := ev_impl_runs (srtS (evsL L)) (srtS_sorted _) (by rw [srtS_len]; omega)
  rw [srtS_len, compact_putAll] at h
  refine evEq h ?_
  unfold tallies talOf
  refine List.map_congr_left (fun n _ => ?_)
  rw [show cntI n (srtS (evsL L)) = cntI n (evsL L) from cntI_perm n (List.mergeSort_perm _ _)]
 have key := evUp (r := tallies L) L.length (fun i k => impl_TalliesOf.l0 k (evsL (L.take i)) L (L.length : Int) (i : Int)) ?_ ?_
 ·exact key
 ·intro i hi ih
  have hs : evsL (L.take (i + 1)) = evsL (L.take i) ++ (if evB L[i] = true then [evN L[i]] else []) := by
   rw [takeSnoc L i hi]
   unfold evsL
   rw [List.filter_append, List.map_append]
   congr 1
   cases h : evB L[i] <;> simp [List.filter, h]
  have hc2 := evsL_len (L.take i)
  rw [List.length_take] at hc2
  rw [hs] at ih
  refine evSucc ?_
  simp only [impl_TalliesOf.l0]
  refine evPos (by omega) (evPos (by omega) (evPos (by omega) ?_))
  rw [rdE L i hi, w64 (x := (i : Int) + 1) (by omega) (by omega), ci i]
  by_cases h1 : L[i].f2.f0 = 1
  ·rw [if_pos (show evB L[i] = true from beq_iff_eq.2 h1)] at ih
   exact evPos h1 (evPos (by omega) ih)
  ·rw [if_neg (show ¬ evB L[i] = true from fun z => h1 (beq_iff_eq.1 z)), List.append_nil] at ih
   exact evNeg h1 ih
 ·refine evSucc ?_
  simp only [impl_TalliesOf.l0]
  refine evNeg (by omega) ?_
  rw [List.take_length]
  exact evBindS (sort_f _ (by omega)) fin
def mostB (l : List S65) (b : Nat) : List S65 → Nat → Nat
 | [], _ => b
 | t :: r, i => mostB l (if t.f1 > (rd_T65 l (b : Int)).f1 then i else b) r (i + 1)
def mostV (l : List S65) : Int := match l with
 | [] => -1
 | t :: r => (rd_T65 l (mostB l 0 r 1 : Int)).f0
theorem ev_spec_most (l : List S65) (hl : l.length ≤ 1048576) : Ev (fun k => spec_MostTold.l0 k l (-1) 0) (mostV l) := by
 have key : ∀ d (b i : Nat), i + d = l.length → b < i → Ev (fun k => spec_MostTold.l0 k l (b : Int) (i : Int)) (rd_T65 l (mostB l b (l.drop i) i : Int)).f0 := by
  intro d
  induction d with
  | zero =>
   intro b i hi hb
   refine evSucc ?_
   simp only [spec_MostTold.l0]
   rw [List.drop_of_length_le (by omega)]
   exact evNeg (by omega) (evNeg (by omega) (evPos (by omega) (evPos (by omega) (Ev.now _))))
  | succ d ih =>
   intro b i hi hb
   have hlt : i < l.length := by omega
   refine evSucc ?_
   simp only [spec_MostTold.l0]
   refine evPos (by omega) (evNeg (by omega) (evPos (by omega) (evPos (by omega) (evPos (by omega) ?_))))
   rw [w64 (by omega) (by omega), ci, List.drop_eq_getElem_cons hlt]
   unfold mostB
   rw [rdT l i hlt]
   by_cases hc : l[i].f1 > (rd_T65 l (b : Int)).f1
   ·rw [if_pos hc]
    exact evPos hc (ih i (i + 1) (by omega) (by omega))
   ·rw [if_neg hc]
    exact evNeg hc (ih b (i + 1) (by omega) (by omega))
 cases l with
 | nil =>
  refine evSucc ?_
  simp only [spec_MostTold.l0]
  exact evNeg (by simp) (evPos (by omega) (Ev.now _))
 | cons t r =>
  refine evSucc ?_
  simp only [spec_MostTold.l0]
  refine evPos (by rw [List.length_cons]; omega) (evPos (by omega) ?_)
  rw [show wrap64 (0 + 1) = ((1 : Nat) : Int) by rw [w64 (by omega) (by omega)]; rfl]
  exact key r.length 0 1 (by rw [List.length_cons]; omega) (by omega)
theorem ev_impl_most (l : List S65) (hl : l.length ≤ 1048576) (hpos : ∀ t ∈ l, 0 < t.f1) : Ev (fun k => impl_MostTold.l0 k l (l.length : Int) 0 (-1) 0) (mostV l) := by
 have key : ∀ d (b i : Nat), i + d = l.length → b < i → Ev (fun k => impl_MostTold.l0 k l (l.length : Int) (i : Int) (rd_T65 l (b : Int)).f0 (rd_T65 l (b : Int)).f1) (rd_T65 l (mostB l b (l.drop i) i : Int)).f0 := by
  intro d
  induction d with
  | zero =>
   intro b i hi hb
   refine evSucc ?_
   simp only [impl_MostTold.l0]
   rw [List.drop_of_length_le (by omega)]
   exact evNeg (by omega) (Ev.now _)
  | succ d ih =>
   intro b i hi hb
   have hlt : i < l.length := by omega
   refine evSucc ?_
   simp only [impl_MostTold.l0]
   refine evPos (by omega) (evPos (by omega) (evPos (by omega) ?_))
   rw [w64 (by omega) (by omega), ci, List.drop_eq_getElem_cons hlt]
   unfold mostB
   rw [rdT l i hlt]
   by_cases hc : l[i].f1 > (rd_T65 l (b : Int)).f1
   ·rw [if_pos hc]
    have := ih i (i + 1) (by omega) (by omega)
    rw [rdT l i hlt] at this
    exact evPos hc this
   ·rw [if_neg hc]
    exact evNeg hc (ih b (i + 1) (by omega) (by omega))
 cases l with
 | nil =>
  refine evSucc ?_
  simp only [impl_MostTold.l0]
  exact evNeg (by simp) (Ev.now _)
 | cons t r =>
  have h0 : (0 : Nat) < (t :: r).length := by rw [List.length_cons]; omega
  have e0 : rd_T65 (t :: r) 0 = t := rdT (t :: r) 0 h0
  refine evSucc ?_
  simp only [impl_MostTold.l0]
  refine evPos (by omega) (evPos (by omega) (evPos (by omega) (evPos ?_ ?_)))
  ·rw [e0]; exact hpos t (List.mem_cons_self ..)
  ·rw [show wrap64 (0 + 1) = ((1 : Nat) : Int) by rw [w64 (by omega) (by omega)]; rfl]
   exact key r.length 0 1 (by rw [List.length_cons]; omega) (by omega)
theorem tallies_pos (L : List S131) : ∀ t ∈ tallies L, 0 < t.f1 := by
 intro t ht
 unfold tallies talOf at ht
 obtain ⟨n, hn, rfl⟩ := List.mem_map.1 ht
 have hm := ((putAll_law (evsL L) [] List.Pairwise.nil).2 n).1 hn
 have := cntI_pos n (evsL L) (hm.elim (fun e => by cases e) id)
 show (0 : Int) < (cntI n (evsL L) : Int)
 omega
theorem ev_spec_MostTold (L : List S131) (hL : L.length ≤ 1048576) : Ev (fun k => spec_MostTold.f k L) (mostV (tallies L)) := by
 have := tallies_len L
 simp only [spec_MostTold.f]
 exact Ev.bind (ev_spec_TalliesOf L hL) (ev_spec_most _ (by omega))
theorem ev_impl_MostTold (L : List S131) (hL : L.length ≤ 1048576) : Ev (fun k => impl_MostTold.f k L) (mostV (tallies L)) := by
 have := tallies_len L
 simp only [impl_MostTold.f]
 exact Ev.bind (ev_impl_TalliesOf L hL) (ev_impl_most _ (by omega) (tallies_pos L))
def tb (pid : Int) (l : List S131) : Nat := l.countP (fun e => e.f0 == pid && e.f2.f0 == 1)
theorem tb_le (pid : Int) (l : List S131) : tb pid l ≤ l.length := List.countP_le_length
theorem tb_step (pid : Int) (l : List S131) (i : Nat) (hi : i < l.length) : tb pid (l.take (i + 1)) = tb pid (l.take i) + (if l[i].f0 = pid ∧ l[i].f2.f0 = 1 then 1 else 0) := by
 unfold tb
 rw [takeSnoc l i hi, List.countP_append, List.countP_singleton]
 simp
theorem ev_spec_ToldBy (l : List S131) (pid : Int) (hl : l.length ≤ 1048576) : Ev (fun k => spec_ToldBy.f k l pid) (tb pid l : Int) := by
 have key := evUp (r := (tb pid l : Int)) l.length (fun i k => spec_ToldBy.l0 k l pid (tb pid (l.take i) : Int) (i : Int)) ?_ ?_
 ·exact key
 ·intro i hi ih
  have hb := tb_le pid (l.take i)
  have hs := tb_step pid l i hi
  have hlen : (l.take i).length ≤ i := by simp; omega
  refine evSucc ?_
  simp only [spec_ToldBy.l0]
  refine evPos (by omega) (evPos (by omega) ?_)
  rw [rdE l i hi, w64 (x := (i : Int) + 1) (by omega) (by omega), ci i]
  by_cases h1 : l[i].f0 = pid
  ·refine evPos h1 ?_
   by_cases h2 : l[i].f2.f0 = 1
   ·refine evPos h2 ?_
    rw [if_pos ⟨h1, h2⟩] at hs
    rw [w64 (by omega) (by omega), show (tb pid (l.take i) : Int) + 1 = (tb pid (l.take (i + 1)) : Int) by omega]
    exact ih
   ·refine evNeg h2 ?_
    rw [if_neg (fun h => h2 h.2)] at hs
    rw [show (tb pid (l.take i) : Int) = (tb pid (l.take (i + 1)) : Int) by omega]
    exact ih
  ·refine evNeg h1 ?_
   rw [if_neg (fun h => h1 h.1)] at hs
   rw [show (tb pid (l.take i) : Int) = (tb pid (l.take (i + 1)) : Int) by omega]
   exact ih
 ·refine evSucc ?_
  simp only [spec_ToldBy.l0]
  refine evNeg (by omega) ?_
  rw [List.take_length]
  exact Ev.now _
theorem ev_impl_ToldBy (l : List S131) (pid : Int) (hl : l.length ≤ 1048576) : Ev (fun k => impl_ToldBy.f k l pid) (tb pid l : Int) := by
 have key := evUp (r := (tb pid l : Int)) l.length (fun i k => impl_ToldBy.l0 k pid (tb pid (l.take i) : Int) l (l.length : Int) (i : Int)) ?_ ?_
 ·exact key
 ·intro i hi ih
  have hb := tb_le pid (l.take i)
  have hs := tb_step pid l i hi
  have hlen : (l.take i).length ≤ i := by simp; omega
  refine evSucc ?_
  simp only [impl_ToldBy.l0]
  refine evPos (by omega) (evPos (by omega) (evPos (by omega) ?_))
  rw [rdE l i hi, w64 (x := (i : Int) + 1) (by omega) (by omega), ci i]
  by_cases h1 : l[i].f0 = pid
  ·refine evPos h1 ?_
   by_cases h2 : l[i].f2.f0 = 1
   ·refine evPos h2 ?_
    rw [if_pos ⟨h1, h2⟩] at hs
    rw [w64 (by omega) (by omega), show (tb pid (l.take i) : Int) + 1 = (tb pid (l.take (i + 1)) : Int) by omega]
    exact ih
   ·refine evNeg h2 ?_
    rw [if_neg (fun h => h2 h.2)] at hs
    rw [show (tb pid (l.take i) : Int) = (tb pid (l.take (i + 1)) : Int) by omega]
    exact ih
  ·refine evNeg h1 ?_
   rw [if_neg (fun h => h1 h.1)] at hs
   rw [show (tb pid (l.take i) : Int) = (tb pid (l.take (i + 1)) : Int) by omega]
   exact ih
 ·refine evSucc ?_
  simp only [impl_ToldBy.l0]
  refine evNeg (by omega) ?_
  rw [List.take_length]
  exact Ev.now _
def lbStep (pid : Int) (n : Int) (e : S131) : Int := if e.f0 = pid ∧ e.f2.f0 = 2 ∧ 0 < e.f2.f3 then mn 1000000000 (n + mn 1000000000 e.f2.f3) else n
def lb (pid : Int) (l : List S131) : Int := l.foldl (lbStep pid) 0
theorem lb_step (pid : Int) (l : List S131) (i : Nat) (hi : i < l.length) : lb pid (l.take (i + 1)) = lbStep pid (lb pid (l.take i)) l[i] := by
 unfold lb
 rw [takeSnoc l i hi, List.foldl_append]
 rfl
theorem lbStep_range (pid n : Int) (e : S131) (h0 : 0 ≤ n) (h1 : n ≤ 1000000000) : 0 ≤ lbStep pid n e ∧ lbStep pid n e ≤ 1000000000 := by
 unfold lbStep
 by_cases c : e.f0 = pid ∧ e.f2.f0 = 2 ∧ 0 < e.f2.f3
 ·rw [if_pos c]; unfold mn; split <;> split <;> omega
 ·rw [if_neg c]; omega
theorem lb_range (pid : Int) (l : List S131) : 0 ≤ lb pid l ∧ lb pid l ≤ 1000000000 := by
 have key : ∀ (l : List S131) (n : Int), 0 ≤ n → n ≤ 1000000000 → 0 ≤ l.foldl (lbStep pid) n ∧ l.foldl (lbStep pid) n ≤ 1000000000 := by
  intro l
  induction l with
  | nil => intro n h0 h1; exact ⟨h0, h1⟩
  | cons e l ih => intro n h0 h1; obtain ⟨a, b⟩ := lbStep_range pid n e h0 h1; exact ih _ a b
 exact key l 0 (by omega) (by omega)
theorem ev_spec_LostBy (l : List S131) (pid : Int) (hl : l.length ≤ 1048576) (hI : ∀ e ∈ l, -9223372036854775808 ≤ e.f2.f3 ∧ e.f2.f3 ≤ 9223372036854775807) : Ev (fun k => spec_LostBy.f k l pid) (lb pid l) := by
 have key := evUp (r := lb pid l) l.length (fun i k => spec_LostBy.l0 k l pid (lb pid (l.take i)) (i : Int)) ?_ ?_
 ·exact key
 ·intro i hi ih
  obtain ⟨hb0, hb1⟩ := lb_range pid (l.take i)
  have hs := lb_step pid l i hi
  have hr := hI _ (List.getElem_mem hi)
  unfold lbStep at hs
  refine evSucc ?_
  simp only [spec_LostBy.l0]
  refine evPos (by omega) (evPos (by omega) ?_)
  rw [rdE l i hi]
  by_cases h1 : l[i].f0 = pid
  ·refine evPos h1 ?_
   by_cases h2 : l[i].f2.f0 = 2
   ·refine evPos h2 (evSucc ?_)
    simp only [spec_LostBy.j1]
    by_cases h3 : l[i].f2.f3 ≤ 0
    ·refine evPos (by simpa using h3) ?_
     rw [if_neg (fun h => by have := h.2.2; omega)] at hs
     rw [w64 (by omega) (by omega), ci i, ← hs]
     exact ih
    ·refine evNeg (by simpa using h3) ?_
     rw [if_pos ⟨h1, h2, by omega⟩] at hs
     rw [w64 (x := 1000000000 - lb pid (l.take i)) (by omega) (by omega)]
     by_cases h4 : l[i].f2.f3 > 1000000000 - lb pid (l.take i)
     ·refine evPos h4 ?_
      rw [w64 (by omega) (by omega), ci i]
      rw [show lb pid (l.take (i + 1)) = 1000000000 by rw [hs]; unfold mn; split <;> split <;> omega] at ih
      exact ih
     ·refine evNeg h4 ?_
      rw [w64 (x := (i : Int) + 1) (by omega) (by omega), ci i, w64 (by omega) (by omega)]
      rw [show lb pid (l.take (i + 1)) = lb pid (l.take i) + l[i].f2.f3 by rw [hs]; unfold mn; split <;> split <;> omega] at ih
      exact ih
   ·refine evNeg h2 (evSucc ?_)
    simp only [spec_LostBy.j1]
    refine evPos (by simp) ?_
    rw [if_neg (fun h => h2 h.2.1)] at hs
    rw [w64 (by omega) (by omega), ci i, ← hs]
    exact ih
  ·refine evNeg h1 (evSucc ?_)
   simp only [spec_LostBy.j1]
   refine evPos (by simp) ?_
   rw [if_neg (fun h => h1 h.1)] at hs
   rw [w64 (by omega) (by omega), ci i, ← hs]
   exact ih
 ·refine evSucc ?_
  simp only [spec_LostBy.l0]
  refine evNeg (by omega) ?_
  rw [List.take_length]
  exact Ev.now _
theorem ev_impl_LostBy (l : List S131) (pid : Int) (hl : l.length ≤ 1048576) (hI : ∀ e ∈ l, -9223372036854775808 ≤ e.f2.f3 ∧ e.f2.f3 ≤ 9223372036854775807) : Ev (fun k => impl_LostBy.f k l pid) (lb pid l) := by
 have key := evUp (r := lb pid l) l.length (fun i k => impl_LostBy.l0 k pid (lb pid (l.take i)) l (l.length : Int) (i : Int)) ?_ ?_
 ·exact key
 ·intro i hi ih
  obtain ⟨hb0, hb1⟩ := lb_range pid (l.take i)
  have hs := lb_step pid l i hi
  have hr := hI _ (List.getElem_mem hi)
  unfold lbStep at hs
  refine evSucc ?_
  simp only [impl_LostBy.l0]
  refine evPos (by omega) (evPos (by omega) (evPos (by omega) ?_))
  rw [rdE l i hi, w64 (x := (i : Int) + 1) (by omega) (by omega), ci i]
  by_cases h1 : l[i].f0 = pid
  ·refine evPos h1 ?_
   by_cases h2 : l[i].f2.f0 = 2
   ·refine evPos h2 ?_
    by_cases h3 : l[i].f2.f3 > 0
    ·refine evPos h3 ?_
     rw [if_pos ⟨h1, h2, by omega⟩] at hs
     have hm : 0 ≤ mn 1000000000 l[i].f2.f3 ∧ mn 1000000000 l[i].f2.f3 ≤ 1000000000 := by unfold mn; split <;> omega
     rw [w64 (by omega) (by omega), ← hs]
     exact ih
    ·refine evNeg h3 ?_
     rw [if_neg (fun h => h3 h.2.2)] at hs
     rw [← hs]
     exact ih
   ·refine evNeg h2 ?_
    rw [if_neg (fun h => h2 h.2.1)] at hs
    rw [← hs]
    exact ih
  ·refine evNeg h1 ?_
   rw [if_neg (fun h => h1 h.1)] at hs
   rw [← hs]
   exact ih
 ·refine evSucc ?_
  simp only [impl_LostBy.l0]
  refine evNeg (by omega) ?_
  rw [List.take_length]
  exact Ev.now _
theorem bits_nat (op : BinOp) (k : IntKind) (x y : Int) : Go.bits op k x y = match op with
 | .and => k.wrap ((BitVec.ofInt k.bits x &&& BitVec.ofInt k.bits y).toNat : Int)
 | .or => k.wrap ((BitVec.ofInt k.bits x ||| BitVec.ofInt k.bits y).toNat : Int)
 | .xor => k.wrap ((BitVec.ofInt k.bits x ^^^ BitVec.ofInt k.bits y).toNat : Int)
 | .andNot => k.wrap ((BitVec.ofInt k.bits x &&& ~~~BitVec.ofInt k.bits y).toNat : Int)
 | _ => Go.bits op k x y := by
 cases op <;> rfl
theorem ofInt_nat64 (n : Nat) (h : n < 18446744073709551616) : (BitVec.ofInt 64 (n : Int)).toNat = n := by
 rw [BitVec.toNat_ofInt]; omega
theorem wrap_i64 (x : Int) : IntKind.wrap .i64 x = wrap64 x := i64_w x
def rng (x lo hi : Int) : Bool := decide (lo ≤ x) && decide (x ≤ hi)
def itemB (a b c d : Int) : Bool := if a = 1 then rng b 0 4294967295 && (rng c 0 4294967295 && d == 0) else if a = 2 then rng d 1 1000000000 && (b == 0 && c == 0) else false
def frameB (a b c d e f g : Int) : Bool := rng b 0 2 && (rng c 1 1000000000 && (if a = 1 then itemB d e f g else if a = 2 then (d == 0 && (e == 0 && (f == 0 && (g == 0)))) else false))
theorem and255 (x : Int) : 0 ≤ Go.bits .and .i64 x 255 ∧ Go.bits .and .i64 x 255 ≤ 255 := by
 have e : Go.bits .and .i64 x 255 = (((BitVec.ofInt 64 x).toNat % 256 : Nat) : Int) := by
  rw [bits_nat]
  show IntKind.wrap .i64 ((BitVec.ofInt 64 x &&& BitVec.ofInt 64 ((255 : Nat) : Int)).toNat : Int) = _
  rw [BitVec.toNat_and, ofInt_nat64 255 (by omega), wrap_i64]
  have : (BitVec.ofInt 64 x).toNat &&& 255 = (BitVec.ofInt 64 x).toNat % 256 := Nat.and_two_pow_sub_one_eq_mod _ 8
  rw [this, w64 (by omega) (by omega)]
 rw [e]
 omega
theorem drawByte (b : List Int) (i h : Int) (h0 : 0 ≤ i) (h1 : i ≤ b.length) (hb : b.length ≤ 16777216) : ∃ x i' h', spec_l01Byte.f b i h = some (x, i', h') ∧ 0 ≤ x ∧ x ≤ 255 ∧ 0 ≤ i' ∧ i' ≤ b.length := by
 unfold spec_l01Byte.f
 by_cases hc : i < (b.length : Int)
 ·rw [if_pos hc, if_pos h0, w64 (x := i + 1) (by omega) (by omega)]
  refine ⟨_, _, _, rfl, (and255 _).1, (and255 _).2, by omega, by omega⟩
 ·rw [if_neg hc]
  exact ⟨_, _, _, rfl, (and255 _).1, (and255 _).2, h0, h1⟩
theorem drawBelow (b : List Int) (i h n : Int) (h0 : 0 ≤ i) (h1 : i ≤ b.length) (hb : b.length ≤ 16777216) (hn : 0 < n) : ∃ x i' h', spec_l01Below.f b i h n = some (x, i', h') ∧ 0 ≤ x ∧ x < n ∧ 0 ≤ i' ∧ i' ≤ b.length := by
 unfold spec_l01Below.f
 rw [if_neg (by omega)]
 by_cases hc : n ≤ 256
 ·obtain ⟨x, i', h', e, x0, x1, i0, i1⟩ := drawByte b i h h0 h1 hb
  rw [if_pos hc, e]
  simp only [Option.bind_some]
  rw [if_neg (by omega), Int.tmod_eq_emod_of_nonneg x0]
  exact ⟨_, _, _, rfl, Int.emod_nonneg _ (by omega), Int.emod_lt_of_pos _ hn, i0, i1⟩
 ·obtain ⟨x, i1, h1', e1, x0, x1, j0, j1⟩ := drawByte b i h h0 h1 hb
  obtain ⟨y, i2, h2', e2, y0, y1, k0, k1⟩ := drawByte b i1 h1' j0 j1 hb
  obtain ⟨z, i3, h3', e3, z0, z1, l0, l1⟩ := drawByte b i2 h2' k0 k1 hb
  obtain ⟨v, i4, h4', e4, v0, v1, m0, m1⟩ := drawByte b i3 h3' l0 l1 hb
  rw [if_neg hc, e1]
  simp only [Option.bind_some, e2, e3, e4]
  rw [if_neg (by omega), w64 (x := x * 16777216) (by omega) (by omega), w64 (x := y * 65536) (by omega) (by omega), w64 (x := x * 16777216 + y * 65536) (by omega) (by omega), w64 (x := z * 256) (by omega) (by omega), w64 (x := x * 16777216 + y * 65536 + z * 256) (by omega) (by omega), w64 (x := x * 16777216 + y * 65536 + z * 256 + v) (by omega) (by omega), Int.tmod_eq_emod_of_nonneg (by omega)]
  exact ⟨_, _, _, rfl, Int.emod_nonneg _ (by omega), Int.emod_lt_of_pos _ hn, m0, m1⟩
theorem drawOnce (b : List Int) (i h n : Int) (h0 : 0 ≤ i) (h1 : i ≤ b.length) (hb : b.length ≤ 16777216) (hn : 0 < n) : ∃ (x : Bool) (i' h' : Int), spec_l01Once.f b i h n = some (x, i', h') ∧ 0 ≤ i' ∧ i' ≤ b.length := by
 unfold spec_l01Once.f
 obtain ⟨x, i', h', e, x0, x1, i0, i1⟩ := drawBelow b i h n h0 h1 hb hn
 rw [e]
 exact ⟨_, _, _, rfl, i0, i1⟩
theorem drawNew (b : List Int) (hb : b.length ≤ 16777216) : ∃ h : Int, Ev (fun k => spec_l01New.f k b) (b, 0, h) := by
 have key : ∀ d (i : Nat) (h : Int), i + d = b.length → ∃ h', Ev (fun k => spec_l01New.l0 k b h (i : Int)) (b, 0, h') := by
  intro d
  induction d with
  | zero =>
   intro i h hi
   refine ⟨h, evSucc ?_⟩
   simp only [spec_l01New.l0]
   exact evNeg (by omega) (Ev.now _)
  | succ d ih =>
   intro i h hi
   by_cases h4 : (i : Int) < 4000
   ·obtain ⟨h', hh⟩ := ih (i + 1) (Go.bits .and .i64 (wrap64 ((wrap64 ((wrap64 (h * 131)) + (wrap64 (rd b (i : Int))))) + 7)) 1073741823) (by omega)
    refine ⟨h', evSucc ?_⟩
    simp only [spec_l01New.l0]
    refine evPos (by omega) (evPos h4 (evPos (by omega) ?_))
    rw [w64 (x := (i : Int) + 1) (by omega) (by omega), ci]
    exact hh
   ·refine ⟨h, evSucc ?_⟩
    simp only [spec_l01New.l0]
    exact evPos (by omega) (evNeg h4 (Ev.now _))
 simp only [spec_l01New.f]
 exact key b.length 0 _ (by omega)
theorem drawHalf (b : List Int) (i h : Int) (h0 : 0 ≤ i) (h1 : i ≤ b.length) (hb : b.length ≤ 16777216) : ∃ x i' h', spec_l04Half.f b i h = some (x, i', h') ∧ 0 ≤ x ∧ x ≤ 4294967295 ∧ 0 ≤ i' ∧ i' ≤ b.length := by
 unfold spec_l04Half.f
 obtain ⟨x, i1, h1', e1, x0, x1, j0, j1⟩ := drawBelow b i h 12 h0 h1 hb (by omega)
 rw [e1]
 simp only [Option.bind_some]
 unfold spec_l01PickInt.f
 obtain ⟨y, i2, h2', e2, y0, y1, k0, k1⟩ := drawBelow b i1 h1' (([0, 1, 2, 3, 5, 7, 255, 4294967295, 2147483648, x] : List Int).length : Int) j0 j1 hb (by simp)
 rw [e2]
 simp only [Option.bind_some]
 rw [if_pos y0, if_pos y1]
 simp only [Option.bind_some]
 have hy : y < 10 := y1
 refine ⟨_, _, _, rfl, ?_, ?_, k0, k1⟩
 all_goals
  have hc : y = 0 ∨ y = 1 ∨ y = 2 ∨ y = 3 ∨ y = 4 ∨ y = 5 ∨ y = 6 ∨ y = 7 ∨ y = 8 ∨ y = 9 := by omega
  rcases hc with rfl | rfl | rfl | rfl | rfl | rfl | rfl | rfl | rfl | rfl <;> simp [rd] <;> omega
def okE (x : S131) : Bool := frameB 1 x.f0 x.f1 x.f2.f0 x.f2.f1 x.f2.f2 x.f2.f3
theorem drawItem (b : List Int) (i h : Int) (h0 : 0 ≤ i) (h1 : i ≤ b.length) (hb : b.length ≤ 16777216) : ∃ c d e f i' h', spec_l17Item.f b i h = some (c, d, e, f, i', h') ∧ itemB c d e f = true ∧ 0 ≤ i' ∧ i' ≤ b.length := by
 unfold spec_l17Item.f
 obtain ⟨x, i1, h1', e1, j0, j1⟩ := drawOnce b i h 3 h0 h1 hb (by omega)
 rw [e1]
 simp only [Option.bind_some]
 cases x
 ·rw [if_neg (by simp)]
  obtain ⟨y, i2, h2', e2, y0, y1, k0, k1⟩ := drawBelow b i1 h1' 9 j0 j1 hb (by omega)
  rw [e2]
  simp only [Option.bind_some]
  obtain ⟨z, i3, h3', e3, z0, z1, l0, l1⟩ := drawHalf b i2 h2' k0 k1 hb
  rw [e3]
  refine ⟨_, _, _, _, _, _, rfl, ?_, l0, l1⟩
  unfold itemB rng
  simp
  omega
 ·rw [if_pos rfl]
  obtain ⟨y, i2, h2', e2, y0, y1, k0, k1⟩ := drawBelow b i1 h1' 5 j0 j1 hb (by omega)
  rw [e2]
  simp only [Option.bind_some]
  rw [w64 (x := 1 + y) (by omega) (by omega)]
  refine ⟨_, _, _, _, _, _, rfl, ?_, k0, k1⟩
  unfold itemB rng
  simp
  omega
theorem drawEntriesGo (b : List Int) (hb : b.length ≤ 16777216) : ∀ (d : Nat) (i h : Int) (n : Nat) (out : List S131), 0 ≤ i → i ≤ b.length → n + d = 5 → out.length = n → out.all okE = true →
 ∃ l i' h', Ev (fun k => spec_l19Entries.l0 k out (n : Int) b i h) (l, i', h') ∧ l.length ≤ 5 ∧ l.all okE = true ∧ 0 ≤ i' ∧ i' ≤ b.length := by
 intro d
 induction d with
 | zero =>
  intro i h n out h0 h1 hn ho ha
  obtain ⟨x, i1, h1', e1, x0, x1, j0, j1⟩ := drawBelow b i h 6 h0 h1 hb (by omega)
  refine ⟨out, i1, h1', evSucc ?_, by omega, ha, j0, j1⟩
  simp only [spec_l19Entries.l0]
  exact evBindS e1 (evNeg (by omega) (Ev.now _))
 | succ d ih =>
  intro i h n out h0 h1 hn ho ha
  obtain ⟨x, i1, h1', e1, x0, x1, j0, j1⟩ := drawBelow b i h 6 h0 h1 hb (by omega)
  by_cases hx : (n : Int) < x
  ·obtain ⟨y, i2, h2', e2, y0, y1, k0, k1⟩ := drawBelow b i1 h1' 3 j0 j1 hb (by omega)
   obtain ⟨z, i3, h3', e3, z0, z1, l0, l1⟩ := drawBelow b i2 h2' 5 k0 k1 hb (by omega)
   obtain ⟨c, e, f, g, i4, h4', e4, hi, m0, m1⟩ := drawItem b i3 h3' l0 l1 hb
   obtain ⟨l, i', h', hev, hl, hall, q0, q1⟩ := ih i4 h4' (n + 1) (out ++ [⟨y, 1 + z, ⟨c, e, f, g⟩⟩]) m0 m1 (by omega) (by simp; omega) (by
    rw [List.all_append, ha]
    simp
    show frameB 1 y (1 + z) c e f g = true
    unfold frameB
    rw [if_pos rfl, hi]
    unfold rng
    simp
    omega)
   refine ⟨l, i', h', evSucc ?_, hl, hall, q0, q1⟩
   simp only [spec_l19Entries.l0]
   refine evBindS e1 (evPos hx (evBindS e2 (evBindS e3 (evBindS e4 (evPos (by omega) ?_)))))
   rw [w64 (x := (n : Int) + 1) (by omega) (by omega), w64 (x := 1 + z) (by omega) (by omega), ci]
   exact hev
  ·refine ⟨out, i1, h1', evSucc ?_, by omega, ha, j0, j1⟩
   simp only [spec_l19Entries.l0]
   exact evBindS e1 (evNeg hx (Ev.now _))
theorem drawEntriesAt (b : List Int) (hb : b.length ≤ 16777216) (i h : Int) (h0 : 0 ≤ i) (h1 : i ≤ b.length) :
 ∃ l i' h', Ev (fun k => spec_l19Entries.f k b i h) (l, i', h') ∧ l.length ≤ 5 ∧ l.all okE = true ∧ 0 ≤ i' ∧ i' ≤ b.length :=
 drawEntriesGo b hb 5 i h 0 [] h0 h1 (by omega) rfl rfl
def inR (e : S131) : Prop := -9223372036854775808 ≤ e.f2.f3 ∧ e.f2.f3 ≤ 9223372036854775807
theorem okE_inR (e : S131) (h : okE e = true) : inR e := by
 unfold okE frameB at h
 rw [if_pos rfl, Bool.and_eq_true, Bool.and_eq_true] at h
 obtain ⟨_, _, h⟩ := h
 unfold itemB rng at h
 unfold inR
 split at h
 ·simp only [Bool.and_eq_true, decide_eq_true_eq, beq_iff_eq] at h
  omega
 ·split at h
  ·simp only [Bool.and_eq_true, decide_eq_true_eq, beq_iff_eq] at h
   omega
  ·cases h
theorem all_inR (l : List S131) (h : l.all okE = true) : ∀ e ∈ l, inR e := fun e he => okE_inR e (List.all_eq_true.1 h e he)
theorem drawAnyR (b : List Int) (hb : b.length ≤ 16777216) (i h : Int) (h0 : 0 ≤ i) (h1 : i ≤ b.length) : ∃ l i' h', Ev (fun k => spec_l19Any.f k b i h) (l, i', h') ∧ List.length l ≤ 6 ∧ (∀ e ∈ l, inR e) ∧ 0 ≤ i' ∧ i' ≤ b.length := by
 simp only [spec_l19Any.f]
 obtain ⟨x, i1, h1', e1, x0, x1, j0, j1⟩ := drawBelow b i h 10 h0 h1 hb (by omega)
 obtain ⟨l, i2, h2', e2, hl, ha, k0, k1⟩ := drawEntriesAt b hb i1 h1' j0 j1
 have hr := all_inR l ha
 have add : ∀ z : S131, inR z → ∀ e ∈ l ++ [z], inR e := by
  intro z hz e he
  rcases List.mem_append.1 he with he | he
  ·exact hr e he
  ·rw [List.mem_singleton] at he; subst he; exact hz
 by_cases hx : x = 0
 ·refine ⟨l ++ [⟨5, 1, ⟨0, 0, 0, 0⟩⟩], i2, h2', evBindS e1 ?_, ?_, add _ ⟨by decide, by decide⟩, k0, k1⟩
  ·simp only [Option.bind_some]
   refine Ev.bind e2 (evPos (show ([] : List S131).length + l.length < _ by simp; omega) ?_)
   rw [List.nil_append]
   exact evPos hx (evPos (show l.length < _ by omega) (Ev.now _))
  ·rw [List.length_append, List.length_singleton]; omega
 ·by_cases hy : x = 1
  ·refine ⟨l ++ [⟨0, 0, ⟨0, 0, 0, 0⟩⟩], i2, h2', evBindS e1 ?_, ?_, add _ ⟨by decide, by decide⟩, k0, k1⟩
   ·simp only [Option.bind_some]
    refine Ev.bind e2 (evPos (show ([] : List S131).length + l.length < _ by simp; omega) ?_)
    rw [List.nil_append]
    exact evNeg hx (evPos hy (evPos (show l.length < _ by omega) (Ev.now _)))
   ·rw [List.length_append, List.length_singleton]; omega
  ·refine ⟨l, i2, h2', evBindS e1 ?_, by omega, hr, k0, k1⟩
   simp only [Option.bind_some]
   refine Ev.bind e2 (evPos (show ([] : List S131).length + l.length < _ by simp; omega) ?_)
   rw [List.nil_append]
   exact evNeg hx (evNeg hy (Ev.now _))
theorem drawTold (b : List Int) (hb : b.length ≤ 16777216) : ∃ l p, Ev (fun k => spec_DrawToldBy.f k b) (l, p) ∧ List.length l ≤ 11 ∧ ∀ e ∈ l, inR e := by
 obtain ⟨h, e⟩ := drawNew b hb
 obtain ⟨x, i1, h1', e1, x0, x1, j0, j1⟩ := drawBelow b 0 h 5 (by omega) (by omega) hb (by omega)
 obtain ⟨l, i2, h2', e2, hl, hr, k0, k1⟩ := drawAnyR b hb i1 h1' j0 j1
 obtain ⟨m, i3, h3', e3, hm, ha, _, _⟩ := drawEntriesAt b hb i2 h2' k0 k1
 refine ⟨l ++ m, wrap64 (x - 1), ?_, by rw [List.length_append]; omega, ?_⟩
 ·simp only [spec_DrawToldBy.f, spec_l26Draw.f]
  exact Ev.bind (Ev.bind e (evBindS e1 (Ev.bind e2 (Ev.bind e3 (evPos (show l.length + m.length < _ by omega) (Ev.now _)))))) (Ev.now _)
 ·intro z hz
  rcases List.mem_append.1 hz with hz | hz
  ·exact hr z hz
  ·exact all_inR m ha z hz
theorem ev_sameInts (l : List Int) (hl : l.length ≤ 4194304) : Ev (fun k => laws_sameInts.f k l l) true := by
 have key := evUp (r := true) l.length (fun i k => laws_sameInts.l0 k l l (i : Int)) ?_ ?_
 ·refine Ev.congr (fun k => ?_) key
  unfold laws_sameInts.f
  rw [if_pos rfl]
  rfl
 ·intro i hi ih
  refine evSucc ?_
  simp only [laws_sameInts.l0]
  refine evPos (by omega) (evPos (by omega) (evPos (by omega) (evPos trivial ?_)))
  rw [w64 (by omega) (by omega), ci]
  exact ih
 ·refine evSucc ?_
  simp only [laws_sameInts.l0]
  exact evNeg (by omega) (Ev.now _)
theorem ev_sameTallies (l : List S65) (hl : l.length ≤ 4194304) : Ev (fun k => laws_sameTallies.f k l l) true := by
 have key := evUp (r := true) l.length (fun i k => laws_sameTallies.l0 k l l (i : Int)) ?_ ?_
 ·refine Ev.congr (fun k => ?_) key
  unfold laws_sameTallies.f
  rw [if_pos rfl]
  rfl
 ·intro i hi ih
  refine evSucc ?_
  simp only [laws_sameTallies.l0]
  refine evPos (by omega) (evPos (by omega) (evPos (by omega) (evNeg (by simp) ?_)))
  rw [w64 (by omega) (by omega), ci]
  exact ih
 ·refine evSucc ?_
  simp only [laws_sameTallies.l0]
  exact evNeg (by omega) (Ev.now _)
theorem FnCountsTold : laws_FnCountsTold.Pure := by
 intro code _ _ _
 refine Ev.rounds ?_
 simp only [laws_FnCountsTold.f, laws_big.f, Option.bind_some]
 by_cases hc : (code.length : Int) > 1048576
 ·exact evPos (by simpa using hc) (Ev.now _)
 refine evNeg (by simpa using hc) ?_
 obtain ⟨l, p, e, hl, hr⟩ := drawTold code (by omega)
 have ht := tallies_len l
 have hp := putAll_len (l.map pidE) []
 rw [List.length_map, List.length_nil] at hp
 refine Ev.bind e (Ev.bind (ev_impl_TalliesOf l (by omega)) (Ev.bind (ev_spec_TalliesOf l (by omega)) (Ev.bind (ev_sameTallies _ (by omega)) (evPos rfl (Ev.bind (ev_impl_ToldBy l p (by omega)) (Ev.bind (ev_spec_ToldBy l p (by omega)) (evPos rfl (Ev.bind (ev_impl_LostBy l p (by omega) hr) (Ev.bind (ev_spec_LostBy l p (by omega) hr) (evPos rfl (Ev.bind (ev_impl_PidsIn l (by omega)) (Ev.bind (ev_spec_PidsIn l (by omega)) (Ev.bind (ev_sameInts _ (by omega)) (evPos rfl (Ev.bind (ev_impl_MostTold l (by omega)) (Ev.bind (ev_spec_MostTold l (by omega)) (evEq (Ev.now _) (by simp))))))))))))))))))

end Go.Proofs.Ytmjlhikflhbdaaa.Pure

namespace Go.Proofs.Ytmjlhikflhbdaaa.fnCountsTold
open Go.ChangeShapes Go.WideShapes Go.ChangeAt Go.RowKit
open Go.ChangeMaps (open_string shut_string)
set_option linter.unusedVariables false
theorem own : ownKnob Try.prog.godebug = none := by kernel_rfl
theorem laidOut : laidOutB Try.prog = true := by kernel_rfl
def IsRow (k : IntKind) (w : World) (a : Option Addr) (len cap : Nat) (zs : List Int) : Prop :=
 (a = none ∧ len = 0 ∧ cap = 0 ∧ zs = []) ∨
 ∃ x, a = some x ∧ len ≤ cap ∧ cap ≤ maxLen ∧ zs.length = cap ∧ (∀ i, i < zs.length → w.cell? (x.add i) = some (.int k (zs.getD i 0))) ∧ ∀ n ∈ zs, (Lit.int k n).wf = true
set_option maxRecDepth 100000 in
theorem lifted (os : Os) (started : os.Started) (H : Type) (enc : TypeId × Value → H) :
 ReturnsInHanded {} Try.checked os 11 .any (Rows.fnCountsToldSpec.pre6 enc Try.prog Try.f11 Rows.fnCountsToldRow.domain false) (Rows.fnCountsToldSpec.post enc Try.prog Try.f11 false true false false) := by
 refine returnsInHanded_of_change_sized (C := Try.checked) own started (by kernel_rfl) Try.func11
  (ChangeSpec.witness6 (enc := enc) (C := Try.checked) false ⟨#[], #[.slice none 0 0], []⟩ 8 (by kernel_rfl) (by kernel_rfl) (by kernel_rfl) (by kernel_rfl)) ?_
 intro W base args ds gs before hval0 hW hcnd hsz0 _
 have hsz : (DataW.weightsEach Try.prog (Try.f11.params.toList ++ Rows.fnCountsToldSpec.plain.varTypes Try.prog) (ds ++ gs)).all (· ≤ reachBytes) = true := hsz0
 have hval : ∀ (j : Nat) t v, Try.f11.params[j]? = some t → args[j]? = some v → Value.okWide Try.prog W .any base t v := hval0
 have hW' := hW
 obtain ⟨p, q, hA0, hV, rfl, hfz, hnd⟩ := hW
 have hA : DataW.TrodAll enc Try.prog W 0 (fun _ => true) true Try.f11.params.toList args.toList ds p := hA0
 rw [Try.params11] at hA hval hsz
 obtain ⟨v0, vs0, d0, ds0, p0, q0, hargs, rfl, rfl, h0, r0⟩ := trodAll_cons hA
 obtain ⟨rfl, rfl, rfl⟩ := trodAll_nil r0
 obtain rfl : args = #[v0] := by cases args; simp_all
 obtain ⟨rfl, rfl⟩ := trodVars_none hV
 obtain ⟨a0, len0, cap0, rfl⟩ := okWide_slice Try.underlying30 (hval 0 30 v0 rfl rfl)
 have k0 := h0
 have lt0 : ∀ x ∈ p0, x.block < W.heap.size := by obtain ⟨m, hm⟩ := k0; exact DataW.trod_lt m _ _ _ hm
 obtain ⟨z0, w0⟩ : ∃ zs, IsRow .u8 W a0 len0 cap0 zs := by
  obtain ⟨fuel, hf⟩ := h0
  rcases open_ints Try.underlying30 Try.underlying5 (by kernel_rfl) hf with ⟨hcs, _⟩ | ⟨x, l, c, zs, hcs, _, hl, hm, hz, _, hcell, hwz⟩
  ·simp [Value.cells] at hcs
   obtain ⟨rfl, rfl, rfl⟩ := hcs
   exact ⟨[], .inl ⟨rfl, rfl, rfl, rfl⟩⟩
  ·simp [Value.cells] at hcs
   obtain ⟨rfl, rfl, rfl⟩ := hcs
   exact ⟨zs, .inr ⟨_, rfl, hl, hm, by simpa using hz, hcell, hwz⟩⟩
 have y0 : len0 * 1 ≤ 140737488351232 := Go.Proofs.YtmjlhikflhbdaaaW.PrintWords.sized_ints hsz (j := 0) (t := 30) rfl rfl Try.underlying30 Try.underlying5 (by kernel_rfl) (by kernel_rfl) h0
 clear hA0 hval0 hsz0 hsz
 refine (PA.laws_FnCountsTold.walk Pure.FnCountsTold a0 len0 cap0 z0 W w0 y0).mono fun e W' ⟨he, bel⟩ => ?_
 subst he
 exact ⟨_, rfl, _, _, _, [], _, [], hW', trodAll_mk1 (shut_bool Try.underlying4 _), (trodAll_cons_mk (Below.trod laidOut (by kernel_rfl) (of_decide_eq_true (by kernel_rfl)) k0 bel lt0) trodAll_mk0), rfl, bel.frame _, fun h => by cases h⟩
theorem over : Rows.fnCountsToldRow.holds Try.pinned (OpenSpec.ofChange Rows.fnCountsToldSpec) :=
 OpenClaim.holds_of_wide 11 Try.f11 rfl rfl rfl rfl rfl rfl rfl ⟨rfl, rfl, rfl, rfl, rfl⟩ rfl rfl rfl rfl rfl (by kernel_rfl) Try.func11 (by kernel_rfl)
  (of_decide_eq_true (by kernel_rfl)) (by unfold Func.isWrapper; first | (rw [if_pos (by decide +kernel)]; kernel_rfl) | (rw [if_neg (by decide +kernel)]; exact ⟨rfl, rfl⟩))
  (fun os started H enc _ => lifted os started H enc)
theorem proved : Rows.FnCountsToldSaid := over
#print axioms proved
end Go.Proofs.Ytmjlhikflhbdaaa.fnCountsTold
namespace Go.Proofs.Ytmjlhikflhbdaaa
/-- The row, under a short name, for the claim. -/
theorem fnCountsTold_holds : Rows.FnCountsToldSaid := fnCountsTold.proved
end Go.Proofs.Ytmjlhikflhbdaaa

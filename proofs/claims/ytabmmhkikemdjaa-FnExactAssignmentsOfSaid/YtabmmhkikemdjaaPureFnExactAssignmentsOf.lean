/- The law FnExactAssignmentsOf: the program's AssignmentsOf returns what the reference's returns, for every formula; no condition. -/
import Derived.Test.YtabmmhkikemdjaaVSat
import Derived.Test.YtabmmhkikemdjaaQ1
import Derived.Test.YtabmmhkikemdjaaQ6
import Derived.Test.YtabmmhkikemdjaaQ9
import Derived.Test.YtabmmhkikemdjaaQ11
import Derived.Test.YtabmmhkikemdjaaUFnExactAssignmentsOf
import Derived.Test.YtabmmhkikemdjaaQ0
import Derived.Test.YtabmmhkikemdjaaOpn
namespace Go.Proofs.Ytabmmhkikemdjaa.Pure
open Go.RowKit Go.Proofs.Ytabmmhkikemdjaa Go.Proofs.Ytabmmhkikemdjaa.Q Go.Proofs.Ytabmmhkikemdjaa.UFnExactAssignmentsOf Go.Proofs.YtabmmhkikemdjaaW.PrintWords
set_option linter.unusedVariables false
set_option linter.unusedSimpArgs false

/-- The lists of masks stand. -/
def Masks (cs : List (List Int)) (T F : List Int) : Prop := T.length = cs.length ∧ F.length = cs.length ∧ ∀ j, j < cs.length → T.getD j 0 = (pm (cs.getD j []) : Nat) ∧ F.getD j 0 = (nm (cs.getD j []) : Nat)
theorem meets_u64 {x y : Nat} (hx : x < 18446744073709551616) (hy : y < 18446744073709551616) : Go.bits .and .u64 (x : Int) (y : Int) = 0 ↔ ¬ x &&& y ≠ 0 := by
  rw [bits_and_u64_nat x y hx hy]
  omega
theorem fine_eq {cs : List (List Int)} {T F : List Int} {v m : Nat} (hv : v ≤ 12) (hm : m < 2 ^ v) (hL : LL cs) (hM : Masks cs T F) (hc : ∀ c ∈ cs, Lits v c) (n x : Int) {r : Int × Int}
    (h : Evt (fun k => impl_AssignmentsOf.l2 k T F (if sat m cs = true then wrap64 (x + 1) else x) n (IntKind.u64.wrap ((m : Int) + 1))) r) :
    Evt (fun k => impl_AssignmentsOf.l3 k T F x (m : Int) true 0 n (m : Int)) r := by
  have hp := pow12 hv
  have hl := hL.1
  have key : ∀ i, i ≤ cs.length → ∀ b : Bool, (b && sat m (cs.drop i)) = sat m cs → Evt (fun k => impl_AssignmentsOf.l3 k T F x (m : Int) b (i : Int) n (m : Int)) r := by
    intro i hi
    obtain ⟨d, hd⟩ : ∃ d, cs.length = i + d := ⟨cs.length - i, by omega⟩
    induction d generalizing i with
    | zero =>
      intro b hb
      refine Evt.step (fun k => rfl) ?_
      simp only [impl_AssignmentsOf.l3]
      cases b
      · rw [Bool.false_and] at hb
        rw [← hb] at h
        exact Evt.ite_neg (by simp) (by simpa using h)
      · have e : cs.drop i = [] := List.drop_eq_nil_of_le (by omega)
        rw [e] at hb
        rw [← hb] at h
        exact Evt.ite_pos rfl (Evt.ite_neg (by rw [hM.1]; omega) (by simpa [sat] using h))
    | succ d ih =>
      intro b hb
      refine Evt.step (fun k => rfl) ?_
      simp only [impl_AssignmentsOf.l3, rdN]
      cases b
      · rw [Bool.false_and] at hb
        rw [← hb] at h
        exact Evt.ite_neg (by simp) (by simpa using h)
      · have hic : i < cs.length := by omega
        have hmem := getD_mem cs i [] hic
        have hmk := hM.2.2 i hic
        have hP : pm (cs.getD i []) < 4096 := pm_lt hv _ 0 (hc _ hmem) (by decide)
        have hN : nm (cs.getD i []) < 4096 := nm_lt hv _ 0 (hc _ hmem) (by decide)
        have ham := any_masks m (by omega) hv _ (hc _ hmem)
        have hX : 18446744073709551615 ^^^ m < 18446744073709551616 := Nat.xor_lt_two_pow (n := 64) (by decide) (by omega)
        have ex : Go.bits .xor .u64 18446744073709551615 (m : Int) = ((18446744073709551615 ^^^ m : Nat) : Int) := bits_xor_u64_nat 18446744073709551615 m (by decide) (by omega)
        have hb2 : ((cs.getD i []).any (lit m) && sat m (cs.drop (i + 1))) = sat m cs := by
          rw [← hb, Bool.true_and, dropD cs i [] hic]
          rfl
        refine Evt.ite_pos rfl (Evt.ite_pos (by rw [hM.1]; omega) (Evt.ite_pos (by omega) ?_))
        rw [wrap_succ hic (by omega), hmk.1, hmk.2, ex]
        by_cases c : Go.bits .and .u64 (m : Int) (pm (cs.getD i []) : Nat) = 0
        · refine Evt.ite_pos c (Evt.ite_pos (by rw [hM.2.1]; omega) ?_)
          refine ih (i + 1) (by omega) (by omega) _ ?_
          rw [← hb2]
          congr 1
          have h1 := (meets_u64 (by omega) (by omega)).1 c
          have h2 := meets_u64 (x := 18446744073709551615 ^^^ m) (y := nm (cs.getD i [])) hX (by omega)
          by_cases c2 : Go.bits .and .u64 ((18446744073709551615 ^^^ m : Nat) : Int) (nm (cs.getD i []) : Nat) = 0
          · have h3 := h2.1 c2
            have : ¬ (cs.getD i []).any (lit m) = true := by rw [ham]; rintro (h | h) <;> contradiction
            rw [c2]
            simp only [Bool.not_eq_true] at this
            rw [this]
            rfl
          · have h3 : (18446744073709551615 ^^^ m) &&& nm (cs.getD i []) ≠ 0 := Classical.byContradiction fun h => c2 (h2.2 h)
            rw [ham.2 (Or.inr h3)]
            simpa using c2
        · refine Evt.ite_neg c ?_
          have h3 : m &&& pm (cs.getD i []) ≠ 0 := Classical.byContradiction fun h => c ((meets_u64 (by omega) (by omega)).2 h)
          refine ih (i + 1) (by omega) (by omega) true ?_
          rw [← hb2, ham.2 (Or.inl h3)]
  exact key 0 (Nat.zero_le _) true (by simp)
/-- One assignment's values are laid. -/
theorem values_eq {cs : List (List Int)} {v m : Nat} (hv : v ≤ 12) (hm : m < 2 ^ v) (hL : LL cs) (hf : fm v cs = true) (x : Int) {r : Int × Int}
    (h : Evt (fun k => spec_AssignmentsOf.l0 k (if sat m cs = true then wrap64 (x + 1) else x) (wrap64 ((m : Int) + 1)) v cs) r) :
    Evt (fun k => spec_AssignmentsOf.l1 k x (m : Int) [] 0 v cs) r := by
  have hp := pow12 hv
  refine Evt.upS (g := fun k i s => spec_AssignmentsOf.l1 k x (m : Int) s (i : Int) (v : Int) cs) (R := fun _ _ => r) (P := fun i s => s = vals i m) (n := v) ?_ ?_ 0 _ (Nat.zero_le _) rfl
  · rintro s rfl
    refine Evt.step (fun k => rfl) ?_
    simp only [spec_AssignmentsOf.l1]
    refine Evt.ite_neg (by omega) ((Satisfies_eq v m cs hL hf).bind ?_)
    cases e : sat m cs
    · rw [e] at h
      exact Evt.ite_neg (by simp) (by simpa using h)
    · rw [e] at h
      exact Evt.ite_pos rfl (by simpa using h)
  · rintro i s hi rfl ih
    refine Evt.step (fun k => rfl) ?_
    have hl := vals_len i m
    simp only [spec_AssignmentsOf.l1]
    rw [u64_of (n := (i : Int)) (by omega) (by omega), bit_eq (by omega) (by omega), wrap_succ hi (by omega)]
    refine Evt.ite_pos (by omega) (Evt.ite_pos (by omega) (Evt.ite_pos (by omega) (ih _ ?_)))
    unfold vals
    rw [List.range_succ, List.map_append]
    rfl
theorem counts_both {cs : List (List Int)} {T F : List Int} {v : Nat} (hv : v ≤ 12) (hL : LL cs) (hM : Masks cs T F) (hf : fm v cs = true) :
    Both (fun k => spec_AssignmentsOf.l0 k 0 0 v cs) (fun k => impl_AssignmentsOf.l2 k T F 0 (shl .u64 1 (IntKind.u64.wrap (v : Int))) 0) := by
  have hp := pow12 hv
  obtain ⟨_, _, hcl⟩ := fm_iff.1 hf
  have hc : ∀ c ∈ cs, Lits v c := fun c h => cl_lits (by omega) c 0 (by omega) (hcl c h)
  have e : IntKind.u64.wrap (v : Int) = (v : Int) := u64_of (by omega) (by omega)
  have key : ∀ d m : Nat, ∀ x : Int, m + d = 2 ^ v → Both (fun k => spec_AssignmentsOf.l0 k x (m : Int) v cs) (fun k => impl_AssignmentsOf.l2 k T F x (shl .u64 1 (IntKind.u64.wrap (v : Int))) (m : Int)) := by
    intro d
    induction d with
    | zero =>
      intro m x hd
      refine Both.stepl (fun k => rfl) (Both.stepr (fun k => rfl) ?_)
      simp only [spec_AssignmentsOf.l0, impl_AssignmentsOf.l2]
      rw [e, shl_u64 hv, shl_i64 hv]
      exact Both.pl (by omega) (Both.nl (by rw [← hd]; omega) (Both.nr (by rw [← hd]; omega) Both.pure))
    | succ d ih =>
      intro m x hd
      have hm : m < 2 ^ v := by omega
      have hms : m < 4096 := by omega
      obtain ⟨r, h1, h2⟩ := ih (m + 1) (if sat m cs = true then wrap64 (x + 1) else x) (by omega)
      have e1 : wrap64 ((m : Int) + 1) = ((m + 1 : Nat) : Int) := wrap_succ hm (by omega)
      have e2 : IntKind.u64.wrap ((m : Int) + 1) = ((m + 1 : Nat) : Int) := by rw [u64_of (by omega) (by omega)]; omega
      have hlt : (m : Int) < ((2 ^ v : Nat) : Int) := Int.ofNat_lt.2 hm
      refine ⟨r, Evt.step (fun k => rfl) ?_, Evt.step (fun k => rfl) ?_⟩
      · simp only [spec_AssignmentsOf.l0]
        rw [e, shl_i64 hv]
        refine Evt.ite_pos (by omega) (Evt.ite_pos hlt ?_)
        refine values_eq hv hm hL hf x ?_
        rw [e1]
        exact h1
      · simp only [impl_AssignmentsOf.l2]
        rw [e, shl_u64 hv] at h2 ⊢
        refine Evt.ite_pos hlt ?_
        refine fine_eq hv hm hL hM hc _ x ?_
        rw [e2]
        exact h2
  exact key (2 ^ v) 0 0 (by omega)
theorem getD_set {l : List Int} {i j : Nat} {a : Int} (h : i < l.length) : (l.set i a).getD j 0 = if i = j then a else l.getD j 0 := by
  simp only [List.getD_eq_getElem?_getD, List.getElem?_set]
  by_cases e : i = j
  · subst e
    simp [h]
  · simp [e]
/-- What is laid when so many clauses and so many literals of the next one are read. -/
def Laid (cs : List (List Int)) (i q : Nat) (T F : List Int) : Prop := T.length = cs.length ∧ F.length = cs.length ∧ ∀ j, j < cs.length →
  T.getD j 0 = (pm (if j < i then cs.getD j [] else if j = i then (cs.getD j []).take q else []) : Nat) ∧ F.getD j 0 = (nm (if j < i then cs.getD j [] else if j = i then (cs.getD j []).take q else []) : Nat)
theorem pm_snoc (c : List Int) (n : Int) : pm (c ++ [n]) = pmS (pm c) n := by simp [pm]
theorem nm_snoc (c : List Int) (n : Int) : nm (c ++ [n]) = nmS (nm c) n := by simp [nm]
theorem Lits_take {v : Nat} {c : List Int} (h : Lits v c) (q : Nat) : Lits v (c.take q) := fun n hn => h n (List.mem_of_mem_take hn)
theorem takeS (c : List Int) (q : Nat) (h : q < c.length) : c.take (q + 1) = c.take q ++ [c.getD q 0] := by
  rw [List.take_succ_eq_append_getElem h, gd c q 0 h]
theorem lays_eq {cs : List (List Int)} {v : Nat} (hv : v ≤ 12) (hL : LL cs) (hf : fm v cs = true) {r : Int × Int}
    (h : ∀ T F, Masks cs T F → Evt (fun k => impl_AssignmentsOf.l2 k T F 0 (shl .u64 1 (IntKind.u64.wrap (v : Int))) 0) r) :
    ∀ T F, Laid cs 0 0 T F → Evt (fun k => impl_AssignmentsOf.l0 k T F cs (cs.length : Int) 0 v cs) r := by
  have hl := hL.1
  obtain ⟨_, _, hcl⟩ := fm_iff.1 hf
  have hc : ∀ c ∈ cs, Lits v c := fun c h => cl_lits (by omega) c 0 (by omega) (hcl c h)
  have e : IntKind.u64.wrap (v : Int) = (v : Int) := u64_of (by omega) (by omega)
  intro T F hTF
  refine Evt.upS (g := fun k i (s : List Int × List Int) => impl_AssignmentsOf.l0 k s.1 s.2 cs (cs.length : Int) (i : Int) (v : Int) cs) (R := fun _ _ => r) (P := fun i s => Laid cs i 0 s.1 s.2) (n := cs.length) ?_ ?_ 0 (T, F) (Nat.zero_le _) hTF
  · rintro ⟨T, F⟩ ⟨h1, h2, h3⟩
    refine Evt.step (fun k => rfl) ?_
    simp only [impl_AssignmentsOf.l0]
    refine Evt.ite_neg (by omega) (Evt.ite_pos (by omega) (h T F ⟨h1, h2, fun j hj => ?_⟩))
    have := h3 j hj
    rw [if_pos hj] at this
    exact this
  · rintro i ⟨T, F⟩ hi hP ih
    have hmem := getD_mem cs i [] hi
    have hli := hL.2 _ hmem
    have hci := hc _ hmem
    refine Evt.step (fun k => rfl) ?_
    simp only [impl_AssignmentsOf.l0, rdL1]
    refine Evt.ite_pos (by omega) (Evt.ite_pos (by omega) (Evt.ite_pos (by omega) ?_))
    refine Evt.upS (g := fun k q (s : List Int × List Int) => impl_AssignmentsOf.l1 k s.1 s.2 (i : Int) cs (cs.length : Int) (i : Int) (cs.getD i []) ((cs.getD i []).length : Int) (q : Int) (v : Int) cs) (R := fun _ _ => r) (P := fun q s => Laid cs i q s.1 s.2) (n := (cs.getD i []).length) ?_ ?_ 0 (T, F) (Nat.zero_le _) hP
    · rintro ⟨T, F⟩ ⟨h1, h2, h3⟩
      refine Evt.step (fun k => rfl) ?_
      simp only [impl_AssignmentsOf.l1]
      rw [wrap_succ hi (by omega)]
      refine Evt.ite_neg (by omega) (ih (T, F) ⟨h1, h2, fun j hj => ?_⟩)
      have := h3 j hj
      by_cases c : j < i
      · rw [if_pos c] at this
        rw [if_pos (by omega)]
        exact this
      · rw [if_neg c] at this
        by_cases c2 : j = i
        · subst c2
          rw [if_pos rfl, List.take_length] at this
          rw [if_pos (by omega)]
          exact this
        · rw [if_neg c2] at this
          rw [if_neg (by omega)]
          simpa using this
    · rintro q ⟨T, F⟩ hq ⟨h1, h2, h3⟩ ih2
      replace h1 : T.length = cs.length := h1
      replace h2 : F.length = cs.length := h2
      have hn := hci _ (getD_mem _ q 0 hq)
      have hT := h3 i hi
      rw [if_neg (by omega), if_pos rfl] at hT
      have hP : pm ((cs.getD i []).take q) < 4096 := pm_lt hv _ 0 (Lits_take hci q) (by decide)
      have hN : nm ((cs.getD i []).take q) < 4096 := nm_lt hv _ 0 (Lits_take hci q) (by decide)
      have ep := pm_snoc ((cs.getD i []).take q) ((cs.getD i []).getD q 0)
      have en := nm_snoc ((cs.getD i []).take q) ((cs.getD i []).getD q 0)
      rw [← takeS _ q hq] at ep en
      refine Evt.step (fun k => rfl) ?_
      simp only [impl_AssignmentsOf.l1, rdN]
      generalize hnn : (cs.getD i []).getD q 0 = n at hn ep en ⊢
      rw [wrap_succ hq (by omega), hT.1, hT.2, Int.toNat_natCast]
      refine Evt.ite_pos (by omega) (Evt.ite_pos (by omega) (Evt.ite_pos (by omega) ?_))
      by_cases c : n > 0
      · obtain ⟨t, ht, ht2⟩ : ∃ t : Nat, n - 1 = (t : Int) ∧ (n - 1).toNat = t := ⟨(n - 1).toNat, by omega, rfl⟩
        have hp := pow12 (t := t) (by omega)
        have e1 : IntKind.u64.wrap (wrap64 (n - 1)) = (t : Int) := by rw [w64 (by omega) (by omega), ht, u64_of (by omega) (by omega)]
        unfold pmS at ep
        unfold nmS at en
        rw [if_pos c, ht2] at ep
        rw [if_pos c] at en
        rw [e1, shl_u64 (by omega), bits_or_u64_nat _ _ (by omega) (by omega), ← ep]
        refine Evt.ite_pos c (Evt.ite_pos (by omega) (Evt.ite_pos (by omega) (Evt.ite_pos (by omega) (ih2 (_, F) ⟨by simpa using h1, h2, fun j hj => ?_⟩))))
        have h4 := h3 j hj
        rw [getD_set (by omega)]
        by_cases c2 : i = j
        · subst c2
          rw [if_neg (by omega), if_pos rfl] at h4
          rw [if_pos rfl, if_neg (by omega), if_pos rfl]
          exact ⟨rfl, by rw [h4.2, en]⟩
        · rw [if_neg c2]
          by_cases c3 : j < i
          · rw [if_pos c3] at h4 ⊢
            exact h4
          · rw [if_neg c3, if_neg (by omega)] at h4 ⊢
            exact h4
      · obtain ⟨t, ht, ht2⟩ : ∃ t : Nat, -n - 1 = (t : Int) ∧ (-n - 1).toNat = t := ⟨(-n - 1).toNat, by omega, rfl⟩
        have hp := pow12 (t := t) (by omega)
        have e1 : IntKind.u64.wrap (wrap64 (wrap64 (-n) - 1)) = (t : Int) := by rw [w64 (n := -n) (by omega) (by omega), w64 (by omega) (by omega), ht, u64_of (by omega) (by omega)]
        unfold pmS at ep
        unfold nmS at en
        rw [if_neg c, ht2] at en
        rw [if_neg c] at ep
        rw [e1, shl_u64 (by omega), bits_or_u64_nat _ _ (by omega) (by omega), ← en]
        refine Evt.ite_neg c (Evt.ite_pos (by omega) (Evt.ite_pos (by omega) (Evt.ite_pos (by omega) (ih2 (T, _) ⟨h1, by simpa using h2, fun j hj => ?_⟩))))
        have h4 := h3 j hj
        rw [getD_set (by omega)]
        by_cases c2 : i = j
        · subst c2
          rw [if_neg (by omega), if_pos rfl] at h4
          rw [if_pos rfl, if_neg (by omega), if_pos rfl]
          exact ⟨by rw [h4.1, ep], rfl⟩
        · rw [if_neg c2]
          by_cases c3 : j < i
          · rw [if_pos c3] at h4 ⊢
            exact h4
          · rw [if_neg c3, if_neg (by omega)] at h4 ⊢
            exact h4
theorem assignments_both (v : Int) (cs : List (List Int)) (hL : LL cs) : Both (fun k => spec_AssignmentsOf.f k v cs) (fun k => impl_AssignmentsOf.f k v cs) := by
  have hl := hL.1
  unfold spec_AssignmentsOf.f impl_AssignmentsOf.f
  refine Both.bindl (IsFormula_spec v cs hL) (Both.bindr (IsFormula_impl v cs hL) ?_)
  cases hf : fm v cs
  · exact Both.nl (by simp) (Both.nr (by simp) Both.pure)
  · refine Both.pl rfl (Both.pr rfl ?_)
    by_cases c : v > 12
    · exact Both.pl c (Both.pr c Both.pure)
    · refine Both.nl c (Both.nr c (Both.pr (by omega) (Both.pr (by omega) ?_)))
      obtain ⟨⟨hv0, _⟩, _, _⟩ := fm_iff.1 hf
      obtain ⟨w, rfl⟩ := Int.eq_ofNat_of_zero_le hv0
      have hw : w ≤ 12 := by omega
      obtain ⟨r, h1, _⟩ := counts_both (T := cs.map fun c => ((pm c : Nat) : Int)) (F := cs.map fun c => ((nm c : Nat) : Int)) hw hL ⟨by simp, by simp, fun j hj => by
        rw [gd cs j [] hj]
        constructor <;> (rw [gd _ _ _ (by simpa using hj)]; simp)⟩ hf
      refine ⟨r, h1, lays_eq hw hL hf (fun T F hM => ?_) _ _ ⟨by simp, by simp, fun j hj => ?_⟩⟩
      · obtain ⟨r2, h3, h4⟩ := counts_both hw hL hM hf
        rw [Evt.unique h1 h3]
        exact h4
      · rw [gd _ _ _ (by simpa using hj)]
        by_cases c2 : j = 0 <;> simp [c2, pm, nm]
theorem FnExactAssignmentsOf : laws_FnExactAssignmentsOf_Pure := by
  intro v cs hv hcs
  apply Evt.out
  unfold laws_FnExactAssignmentsOf.f laws_szFormula.f
  have hs := szInt64SS_eq cs 1048576 (by omega) (by omega) hcs.1 (fun c h => (hcs.2 c h).1)
  generalize hb : (if (1048576 : Int) - (cs.length : Int) < 0 then (-1 : Int) else szs (1048576 - (cs.length : Int)) cs) = b at hs
  by_cases hneg : b < 0
  · exact (hs.bind (Evt.ite_pos hneg Evt.pure)).bind (Evt.ite_pos (by omega) Evt.pure)
  · have hL : LL cs := by
      by_cases h0 : (1048576 : Int) - (cs.length : Int) < 0
      · rw [if_pos h0] at hb; omega
      · rw [if_neg h0] at hb
        refine ⟨by omega, fun c hc => ?_⟩
        have := szs_le cs (1048576 - (cs.length : Int)) (by omega) (by rw [hb]; omega) c hc
        omega
    refine (hs.bind (Evt.ite_neg hneg Evt.pure)).bind (Evt.ite_neg hneg ?_)
    obtain ⟨r, h1, h2⟩ := assignments_both v cs hL
    refine (toFormula_eq v cs hL).bind (h1.bind ((toFormula_eq v cs hL).bind (h2.bind ?_)))
    refine Evt.ite_pos rfl ?_
    refine Evt.step (fun k => rfl) ?_
    simp only [laws_FnExactAssignmentsOf.j0]
    refine Evt.ite_neg (by simp) ((toFormula_eq v cs hL).bind ((eqFormula_refl v cs hL).bind ?_))
    exact Evt.ite_pos rfl Evt.pure
end Go.Proofs.Ytabmmhkikemdjaa.Pure

/- Offsets of an assembly: clear ones, parts that leave, for the program and the reference; conditions stand with each. -/
import Derived.Test.YtjgnlakgojookaaVAsm
import Derived.Test.YtjgnlakgojookaaQ5
import Derived.Test.YtjgnlakgojookaaQGspecl09Connected
import Derived.Test.YtjgnlakgojookaaQGimplnewFrame
import Derived.Test.YtjgnlakgojookaaQGimplframealone
import Derived.Test.YtjgnlakgojookaaQGimplframeclear
import Derived.Test.YtjgnlakgojookaaQ20
import Derived.Test.YtjgnlakgojookaaQ21
import Derived.Test.YtjgnlakgojookaaQGimplframeareOffsets
import Derived.Test.YtjgnlakgojookaaQ24
import Derived.Test.YtjgnlakgojookaaQ25
import Derived.Test.YtjgnlakgojookaaQ26
import Derived.Test.YtjgnlakgojookaaQGimplvectorOf
import Derived.Test.YtjgnlakgojookaaQGimplframeleaves
import Derived.Test.YtjgnlakgojookaaQGimplframefree
import Derived.Test.YtjgnlakgojookaaQ28
import Derived.Test.YtjgnlakgojookaaQGimplreadOffsets
import Derived.Test.YtjgnlakgojookaaQ0
import Derived.Test.YtjgnlakgojookaaOpn
namespace Go.Proofs.Ytjgnlakgojookaa.Pure
open Go.RowKit Go.Proofs.Ytjgnlakgojookaa Go.Proofs.Ytjgnlakgojookaa.Q Go.Proofs.YtjgnlakgojookaaW.PrintWords
set_option linter.unusedVariables false
set_option linter.unusedSimpArgs false

/-- A cube whose coordinates are at most B from 0. -/
def sm (B : Int) (c : Cube) : Prop := (-B ≤ c.f0 ∧ c.f0 ≤ B) ∧ (-B ≤ c.f1 ∧ c.f1 ≤ B) ∧ (-B ≤ c.f2 ∧ c.f2 ≤ B)
theorem sm.mono {B C : Int} {c : Cube} (h : sm B c) (hB : B ≤ C) : sm C c := by
  unfold sm at h ⊢
  omega
theorem addS_sm {B C : Int} {a b : Cube} (ha : sm B a) (hb : sm C b) (h : B + C ≤ 1000000) : sm (B + C) (addS a b) ∧ (addS a b).f0 = a.f0 + b.f0 ∧ (addS a b).f1 = a.f1 + b.f1 ∧ (addS a b).f2 = a.f2 + b.f2 := by
  unfold sm at ha hb ⊢
  have e0 : (addS a b).f0 = a.f0 + b.f0 := by show wrap64 _ = _; unfold wrap64; omega
  have e1 : (addS a b).f1 = a.f1 + b.f1 := by show wrap64 _ = _; unfold wrap64; omega
  have e2 : (addS a b).f2 = a.f2 + b.f2 := by show wrap64 _ = _; unfold wrap64; omega
  rw [e0, e1, e2]
  omega
theorem vec_sm {d : Int} (h0 : 0 ≤ d) (h1 : d < 6) : sm 1 (vecC d) := by
  obtain rfl | rfl | rfl | rfl | rfl | rfl : d = 0 ∨ d = 1 ∨ d = 2 ∨ d = 3 ∨ d = 4 ∨ d = 5 := by omega
  all_goals (unfold sm vecC vecL; simp)
theorem l27Vector_eq {d : Int} (h0 : 0 ≤ d) (h1 : d < 6) : spec_l27Vector.f d = some ((vecC d).f0, (vecC d).f1, (vecC d).f2) := by
  obtain rfl | rfl | rfl | rfl | rfl | rfl : d = 0 ∨ d = 1 ∨ d = 2 ∨ d = 3 ∨ d = 4 ∨ d = 5 := by omega
  all_goals rfl
/-- Cubes that are moved. -/
def movQ (p : List Cube) (v : Cube) : List Cube := p.map fun c => addS c v
theorem movQ_len (p : List Cube) (v : Cube) : (movQ p v).length = p.length := by simp [movQ]
theorem l09Move_eq (p : List Cube) (v : Cube) (hp : p.length ≤ 1048576) : Evt (fun k => spec_l09Move.f k p v.f0 v.f1 v.f2) (movQ p v) := by
  unfold spec_l09Move.f
  refine Evt.upS (g := fun k i acc => spec_l09Move.l0 k p acc (i : Int) v.f0 v.f1 v.f2) (R := fun i acc => acc ++ movQ (p.drop i) v) (P := fun i acc => acc.length = i) (n := p.length) ?_ ?_ 0 [] (Nat.zero_le _) rfl
  · rintro acc _
    refine Evt.step (fun k => rfl) ?_
    simp only [spec_l09Move.l0]
    rw [List.drop_length]
    refine Evt.ite_neg (by omega) ?_
    simp only [movQ, List.map_nil, List.append_nil]
    exact Evt.pure
  · rintro i acc hi ha ih
    refine Evt.step (fun k => rfl) ?_
    simp only [spec_l09Move.l0, rdQ, spec_l09Add.f, Option.bind_some]
    refine Evt.ite_pos (by omega) (Evt.ite_pos (by omega) (Evt.ite_pos (by omega) ?_))
    rw [wrap_succ hi (by omega), qdrop p i z71 hi]
    have h := ih (acc ++ [addS (p.getD i z71) v]) (by simp [ha])
    rw [List.append_assoc] at h
    exact h
theorem hasC_mov {p : List Cube} {v : Cube} {a b c : Int} : hasC (movQ p v) a b c = true ↔ ∃ r ∈ p, (addS r v).f0 = a ∧ (addS r v).f1 = b ∧ (addS r v).f2 = c := by
  unfold hasC movQ
  rw [List.any_eq_true]
  constructor
  · rintro ⟨q, hq, h⟩
    obtain ⟨r, hr, rfl⟩ := List.mem_map.1 hq
    simp at h
    exact ⟨r, hr, h.1.1, h.1.2, h.2⟩
  · rintro ⟨r, hr, h0, h1, h2⟩
    exact ⟨addS r v, List.mem_map_of_mem hr, by simp [h0, h1, h2]⟩
/-- A list of cubes in the box from 0 to 7. -/
def box7 (p : List Cube) : Prop := ∀ c ∈ p, inL 0 7 c = true
theorem touch_meet {l : List (List Cube)} {i k : Nat} {a b : Cube} (hi : box7 (l.getD i [])) (hk : box7 (l.getD k [])) (ha : sm 100 a) (hb : sm 100 b) :
    touchC l (k : Int) (i : Int) (wrap64 (a.f0 - b.f0)) (wrap64 (a.f1 - b.f1)) (wrap64 (a.f2 - b.f2)) = meetQ (movQ (l.getD i []) a) (movQ (l.getD k []) b) := by
  have ea := ha
  have eb := hb
  unfold sm at ea eb
  rw [show wrap64 (a.f0 - b.f0) = a.f0 - b.f0 by unfold wrap64; omega, show wrap64 (a.f1 - b.f1) = a.f1 - b.f1 by unfold wrap64; omega, show wrap64 (a.f2 - b.f2) = a.f2 - b.f2 by unfold wrap64; omega]
  unfold touchC
  rw [prtN, prtN, Bool.eq_iff_iff, Bool.and_eq_true]
  unfold hitC meetQ
  rw [List.any_eq_true, List.any_eq_true]
  constructor
  · rintro ⟨_, q, hq, h⟩
    have hq7 := inL_iff.1 (hi q hq)
    have sq : sm 7 q := by unfold sm; omega
    have h1 := addS_sm sq ha (by omega)
    refine ⟨addS q a, List.mem_map_of_mem hq, hasC_mov.2 ?_⟩
    rw [show wrap64 (q.f0 + (a.f0 - b.f0)) = q.f0 + (a.f0 - b.f0) by unfold wrap64; omega, show wrap64 (q.f1 + (a.f1 - b.f1)) = q.f1 + (a.f1 - b.f1) by unfold wrap64; omega, show wrap64 (q.f2 + (a.f2 - b.f2)) = q.f2 + (a.f2 - b.f2) by unfold wrap64; omega] at h
    unfold hasC at h
    rw [List.any_eq_true] at h
    obtain ⟨r, hr, h2⟩ := h
    simp at h2
    have hr7 := inL_iff.1 (hk r hr)
    have sr : sm 7 r := by unfold sm; omega
    have h3 := addS_sm sr hb (by omega)
    refine ⟨r, hr, ?_, ?_, ?_⟩
    · rw [h3.2.1, h1.2.1]; omega
    · rw [h3.2.2.1, h1.2.2.1]; omega
    · rw [h3.2.2.2, h1.2.2.2]; omega
  · rintro ⟨x, hx, h⟩
    obtain ⟨q, hq, rfl⟩ := List.mem_map.1 hx
    have hq7 := inL_iff.1 (hi q hq)
    have sq : sm 7 q := by unfold sm; omega
    have h1 := addS_sm sq ha (by omega)
    obtain ⟨r, hr, e0, e1, e2⟩ := hasC_mov.1 h
    have hr7 := inL_iff.1 (hk r hr)
    have sr : sm 7 r := by unfold sm; omega
    have h3 := addS_sm sr hb (by omega)
    rw [h3.2.1, h1.2.1] at e0
    rw [h3.2.2.1, h1.2.2.1] at e1
    rw [h3.2.2.2, h1.2.2.2] at e2
    refine ⟨?_, q, hq, ?_⟩
    · unfold insC
      simp
      omega
    · rw [show wrap64 (q.f0 + (a.f0 - b.f0)) = q.f0 + (a.f0 - b.f0) by unfold wrap64; omega, show wrap64 (q.f1 + (a.f1 - b.f1)) = q.f1 + (a.f1 - b.f1) by unfold wrap64; omega, show wrap64 (q.f2 + (a.f2 - b.f2)) = q.f2 + (a.f2 - b.f2) by unfold wrap64; omega]
      unfold hasC
      rw [List.any_eq_true]
      refine ⟨r, hr, ?_⟩
      simp
      omega
/-- What is known of the parts of an assembly. -/
structure Pts (l : List (List Cube)) : Prop where
  lo : 2 ≤ l.length
  hi : l.length ≤ 4
  len : ∀ i, i < l.length → (l.getD i []).length ≤ 24
  box : ∀ i, i < l.length → box7 (l.getD i [])
theorem asm_pts {l : List (List Cube)} (h : asm l = true) : Pts l := by
  unfold asm at h
  obtain ⟨h1, h2⟩ := Bool.and_eq_true_iff.1 h
  have h3 := of_decide_eq_true h1
  have h4 := allF_true.1 h2
  have hp : ∀ i, i < l.length → partQ (l.getD i []) = true := fun i hi => by
    have := h4 i (Nat.zero_le _) hi
    unfold asmOk at this
    exact (Bool.and_eq_true_iff.1 this).1
  refine ⟨by omega, by omega, fun i hi => ?_, fun i hi => ?_⟩
  · have := hp i hi
    unfold partQ at this
    exact (So_iff.1 (Bool.and_eq_true_iff.1 this).1).2.2
  · have := hp i hi
    unfold partQ at this
    exact List.all_eq_true.1 (Bool.and_eq_true_iff.1 (Bool.and_eq_true_iff.1 this).2).2

/-- What alone says of the parts from j on. -/
theorem aloneG_eq {l : List (List Cube)} {o : List Cube} {part : Nat} {a : Cube} (hP : Pts l) (hp : part < l.length) (ha : sm 100 a) (ho : ∀ c ∈ o, sm 100 c) (hol : o.length ≤ l.length) : ∀ (d j : Nat), j + d = o.length →
    aloneG l (part : Int) a.f0 a.f1 a.f2 j (o.drop j) = allF (fun k => ((k : Int) == (part : Int)) || !meetQ (movQ (l.getD part []) a) (movQ (l.getD k []) (o.getD k z71))) o.length j
  | 0, j, h => by
    obtain rfl : j = o.length := by omega
    rw [allF_end, List.drop_length]
    rfl
  | d + 1, j, h => by
    have ih := aloneG_eq hP hp ha ho hol d (j + 1) (by omega)
    rw [allF_succ _ (by omega), ← ih, qdrop o j z71 (by omega)]
    rw [aloneG]
    rw [touch_meet (hP.box part hp) (hP.box j (by omega)) ha (ho _ (qmem o j _ (by omega)))]
theorem clearG_eq {l : List (List Cube)} {o : List Cube} (hP : Pts l) (ho : ∀ c ∈ o, sm 100 c) (hol : o.length ≤ l.length) : ∀ (d j : Nat), j + d = o.length →
    clearG l o j (o.drop j) = allF (fun i => allF (fun k => !meetQ (movQ (l.getD i []) (o.getD i z71)) (movQ (l.getD k []) (o.getD k z71))) i 0) o.length j
  | 0, j, h => by
    obtain rfl : j = o.length := by omega
    rw [allF_end, List.drop_length]
    rfl
  | d + 1, j, h => by
    have ih := clearG_eq hP ho hol d (j + 1) (by omega)
    rw [allF_succ _ (by omega), ← ih, qdrop o j z71 (by omega)]
    rw [clearG]
    have h1 := aloneG_eq (l := l) (o := o.take j) (part := j) (a := o.getD j z71) hP (by omega) (ho _ (qmem o j _ (by omega))) (fun c hc => ho c (List.mem_of_mem_take hc)) (by rw [List.length_take]; omega) j 0 (by rw [List.length_take]; omega)
    rw [List.drop_zero] at h1
    rw [h1, List.length_take, Nat.min_eq_left (by omega)]
    congr 1
    rw [Bool.eq_iff_iff, allF_true, allF_true]
    have e : ∀ k, k < j → (o.take j).getD k z71 = o.getD k z71 := fun k hk => by
      simp [List.getD_eq_getElem?_getD, List.getElem?_take, hk]
    constructor
    · intro h k h2 h3
      have := h k h2 h3
      rw [e k h3, show ((k : Int) == (j : Int)) = false by simp; omega, Bool.false_or] at this
      exact this
    · intro h k h2 h3
      rw [e k h3, show ((k : Int) == (j : Int)) = false by simp; omega, Bool.false_or]
      exact h k h2 h3
theorem sm_of_in {o : List Cube} (h : o.all (inL (-12) 12) = true) : ∀ c ∈ o, sm 12 c := by
  intro c hc
  have := inL_iff.1 (List.all_eq_true.1 h c hc)
  unfold sm
  omega
/-- Offset i is in its range, and part i has no cube in common with those before it. -/
def clrOk (l : List (List Cube)) (o : List Cube) (i : Nat) : Bool := inL (-12) 12 (o.getD i z71) && allF (fun k => !meetQ (movQ (l.getD i []) (o.getD i z71)) (movQ (l.getD k []) (o.getD k z71))) i 0
theorem l27Clear_eq {l : List (List Cube)} {o : List Cube} (hP : Pts l) (ho : o.length ≤ 1048576) : Evt (fun k => spec_l27Clear.f k l o) (offsC l o) := by
  have h4 := hP.hi
  unfold spec_l27Clear.f
  by_cases c : (o.length : Int) = (l.length : Int)
  · refine Evt.ite_pos c ?_
    obtain ⟨q, r, e⟩ : ∃ q r, o = q :: r := by
      cases o with
      | nil => have := hP.lo; simp at c; omega
      | cons q r => exact ⟨q, r, rfl⟩
    refine Evt.ite_pos (by have := hP.lo; omega) ?_
    have e0 : rd_T71 o 0 = q := by rw [e]; rfl
    rw [e0]
    have eo : offsC l o = ((q.f0 == 0 && (q.f1 == 0 && q.f2 == 0)) && (o.all (inL (-12) 12) && clearG l o 0 o)) := by
      rw [e] at c ⊢
      simp only [offsC]
      rw [decide_eq_true (by omega), Bool.true_and]
    rw [eo]
    refine Evt.step (fun k => rfl) ?_
    simp only [spec_l27Clear.j0]
    cases hz : (q.f0 == 0 && (q.f1 == 0 && q.f2 == 0)) with
    | false =>
      refine Evt.ite_pos ?_ Evt.pure
      cases h0 : q.f0 == 0 <;> cases h1 : q.f1 == 0 <;> cases h2 : q.f2 == 0 <;> simp_all
    | true =>
      refine Evt.ite_neg ?_ ?_
      · simp at hz
        simp [hz]
      rw [Bool.true_and]
      have key : (o.all (inL (-12) 12) && clearG l o 0 o) = allF (clrOk l o) o.length 0 := by
        cases hA : o.all (inL (-12) 12) with
        | false =>
          rw [Bool.false_and]
          symm
          apply Bool.eq_false_iff.mpr
          intro hh
          have h1 := allF_true.1 hh
          have : o.all (inL (-12) 12) = true := by
            rw [List.all_eq_true]
            intro p hp
            obtain ⟨i, hi, rfl⟩ := List.getElem_of_mem hp
            have h2 := h1 i (Nat.zero_le _) hi
            unfold clrOk at h2
            rw [qgd o i _ hi] at h2
            exact (Bool.and_eq_true_iff.1 h2).1
          rw [hA] at this
          cases this
        | true =>
          have hs := sm_of_in hA
          rw [Bool.true_and]
          have h1 := clearG_eq hP (fun c hc => (hs c hc).mono (by omega)) (by omega) o.length 0 (by omega)
          rw [List.drop_zero] at h1
          rw [h1, Bool.eq_iff_iff, allF_true, allF_true]
          constructor
          · intro h j h2 h3
            unfold clrOk
            rw [List.all_eq_true.1 hA _ (qmem o j _ h3), Bool.true_and]
            exact h j h2 h3
          · intro h j h2 h3
            have := h j h2 h3
            unfold clrOk at this
            exact (Bool.and_eq_true_iff.1 this).2
      rw [key]
      refine Evt.up (g := fun k i => spec_l27Clear.l0 k o (i : Int) l) (R := fun i => allF (clrOk l o) o.length i) (n := o.length) ?_ ?_ 0 (Nat.zero_le _)
      · refine Evt.step (fun k => rfl) ?_
        simp only [spec_l27Clear.l0]
        rw [allF_end]
        exact Evt.ite_neg (by omega) Evt.pure
      · intro i hi ih
        rw [allF_succ _ hi]
        refine Evt.step (fun k => rfl) ?_
        simp only [spec_l27Clear.l0, rdQ, in_eq, Option.bind_some]
        refine Evt.ite_pos (by omega) (Evt.ite_pos (by omega) ?_)
        have hoff : inL (-12) 12 (o.getD i z71) = false → Evt (fun k => spec_l27Clear.j2 k o (i : Int) true l (o.getD i z71).f0 (o.getD i z71).f1 (o.getD i z71).f2) (clrOk l o i && allF (clrOk l o) o.length (i + 1)) := by
          intro hn
          unfold clrOk
          rw [hn]
          refine Evt.step (fun k => rfl) ?_
          simp only [spec_l27Clear.j2]
          exact Evt.ite_pos trivial Evt.pure
        by_cases h1 : -12 ≤ (o.getD i z71).f0 ∧ (o.getD i z71).f0 ≤ 12
        case neg => exact Evt.ite_neg (by simpa using h1) (hoff (Bool.eq_false_iff.mpr (fun hh => h1 (inL_iff.1 hh).1)))
        refine Evt.ite_pos (by simpa using h1) ?_
        by_cases h2 : -12 ≤ (o.getD i z71).f1 ∧ (o.getD i z71).f1 ≤ 12
        case neg => exact Evt.ite_neg (by simpa using h2) (hoff (Bool.eq_false_iff.mpr (fun hh => h2 (inL_iff.1 hh).2.1)))
        refine Evt.ite_pos (by simpa using h2) ?_
        by_cases h3 : -12 ≤ (o.getD i z71).f2 ∧ (o.getD i z71).f2 ≤ 12
        case neg =>
          rw [show decide (-12 ≤ (o.getD i z71).f2 ∧ (o.getD i z71).f2 ≤ 12) = false by simpa using h3]
          exact hoff (Bool.eq_false_iff.mpr (fun hh => h3 (inL_iff.1 hh).2.2))
        rw [show decide (-12 ≤ (o.getD i z71).f2 ∧ (o.getD i z71).f2 ≤ 12) = true by simpa using h3]
        refine Evt.step (fun k => rfl) ?_
        simp only [spec_l27Clear.j2]
        refine Evt.ite_neg (by simp) ?_
        have e2 : clrOk l o i = allF (fun k => !meetQ (movQ (l.getD i []) (o.getD i z71)) (movQ (l.getD k []) (o.getD k z71))) i 0 := by
          unfold clrOk
          rw [inL_iff.2 ⟨h1, h2, h3⟩, Bool.true_and]
        rw [e2]
        have hli := hP.len i (by omega)
        refine Evt.up (g := fun k j => spec_l27Clear.l1 k o (i : Int) (j : Int) l (o.getD i z71).f0 (o.getD i z71).f1 (o.getD i z71).f2) (R := fun j => allF (fun k => !meetQ (movQ (l.getD i []) (o.getD i z71)) (movQ (l.getD k []) (o.getD k z71))) i j && allF (clrOk l o) o.length (i + 1)) (n := i) ?_ ?_ 0 (Nat.zero_le _)
        · refine Evt.step (fun k => rfl) ?_
          simp only [spec_l27Clear.l1]
          refine Evt.ite_neg (by omega) ?_
          rw [allF_end, Bool.true_and, wrap_succ hi (by omega)]
          exact ih
        · intro j hj ihj
          have hlj := hP.len j (by omega)
          refine Evt.step (fun k => rfl) ?_
          simp only [spec_l27Clear.l1, rdQ4, rdQ]
          refine Evt.ite_pos (by omega) (Evt.ite_pos (by omega) (Evt.ite_pos (by omega) ?_))
          refine (l09Move_eq _ (o.getD i z71) (by omega)).bind (Evt.ite_pos (by omega) (Evt.ite_pos (by omega) (Evt.ite_pos (by omega) ?_)))
          refine (l09Move_eq _ (o.getD j z71) (by omega)).bind ((l27Meet_eq _ _ (by rw [movQ_len]; omega) (by rw [movQ_len]; omega)).bind ?_)
          rw [allF_succ _ hj, wrap_succ hj (by omega)]
          cases hm : meetQ (movQ (l.getD i []) (o.getD i z71)) (movQ (l.getD j []) (o.getD j z71))
          · exact Evt.ite_neg (by simp) (by simpa using ihj)
          · exact Evt.ite_pos rfl Evt.pure
  · refine Evt.ite_neg c ?_
    refine Evt.step (fun k => rfl) ?_
    simp only [spec_l27Clear.j0]
    refine Evt.ite_pos trivial (Evt.const ?_)
    congr 1
    symm
    cases o with
    | nil => rfl
    | cons q r =>
      simp only [offsC]
      rw [decide_eq_false (by omega), Bool.false_and]
/-- What is known of offsets that are clear. -/
theorem offsC_iff {l : List (List Cube)} {o : List Cube} (h : offsC l o = true) : o.length = l.length ∧ ∀ c ∈ o, sm 12 c := by
  cases o with
  | nil => cases h
  | cons q r =>
    simp only [offsC] at h
    obtain ⟨h1, h2⟩ := Bool.and_eq_true_iff.1 h
    obtain ⟨_, h3⟩ := Bool.and_eq_true_iff.1 h2
    exact ⟨of_decide_eq_true h1, sm_of_in (Bool.and_eq_true_iff.1 h3).1⟩

/-! ### parts that leave -/
theorem mov_mov {p : List Cube} {a v : Cube} (hp : box7 p) (ha : sm 100 a) (hv : sm 1 v) : movQ (movQ p a) v = movQ p (addS a v) := by
  unfold movQ
  rw [List.map_map]
  apply List.map_congr_left
  intro c hc
  have h7 := inL_iff.1 (hp c hc)
  have sc : sm 7 c := by unfold sm; omega
  have h1 := addS_sm sc ha (by omega)
  have h2 := addS_sm h1.1 hv (by omega)
  have h3 := addS_sm ha hv (by omega)
  have h4 := addS_sm sc h3.1 (by omega)
  refine cube_ext ?_ ?_ ?_
  · show (addS (addS c a) v).f0 = _
    rw [h2.2.1, h1.2.1, h4.2.1, h3.2.1]; omega
  · show (addS (addS c a) v).f1 = _
    rw [h2.2.2.1, h1.2.2.1, h4.2.2.1, h3.2.2.1]; omega
  · show (addS (addS c a) v).f2 = _
    rw [h2.2.2.2, h1.2.2.2, h4.2.2.2, h3.2.2.2]; omega
theorem l27Leaves_eq {l : List (List Cube)} {o : List Cube} (hP : Pts l) (hol : o.length = l.length) (ho : ∀ c ∈ o, sm 12 c) {part : Nat} (hp : part < l.length) {d : Int} (hd0 : 0 ≤ d) (hd1 : d < 6) :
    Evt (fun k => spec_l27Leaves.f k l o (part : Int) d) (leavesG l o (part : Int) d 40 (o.getD part z71)) := by
  have h4 := hP.hi
  have hlp := hP.len part hp
  unfold spec_l27Leaves.f
  refine Evt.ite_pos (by omega) (Evt.ite_pos (by omega) (Evt.ite_pos (by omega) ?_))
  simp only [rdQ4, rdQ]
  refine (l09Move_eq _ (o.getD part z71) (by omega)).bind ?_
  have hv := vec_sm hd0 hd1
  refine Evt.upS (g := fun k j (s : List Cube × Cube) => spec_l27Leaves.l0 k o (part : Int) d s.1 (j : Int) l) (R := fun j s => leavesG l o (part : Int) d (40 - j) s.2) (P := fun j s => s.1 = movQ (l.getD part []) s.2 ∧ sm (12 + j) s.2) (n := 40) ?_ ?_ 0 (movQ (l.getD part []) (o.getD part z71), o.getD part z71) (by omega) ⟨rfl, by simpa using ho _ (qmem o part _ (by omega))⟩
  · rintro ⟨m, a⟩ _
    refine Evt.step (fun k => rfl) ?_
    simp only [spec_l27Leaves.l0]
    exact Evt.ite_neg (by omega) Evt.pure
  · rintro j ⟨m, a⟩ hj ⟨hm, ha⟩ ih
    simp only at hm ha
    subst hm
    have ha2 := addS_sm ha hv (by omega)
    refine Evt.step (fun k => rfl) ?_
    simp only [spec_l27Leaves.l0, l27Vector_eq hd0 hd1, Option.bind_some]
    refine Evt.ite_pos (by omega) ?_
    refine (l09Move_eq _ (vecC d) (by rw [movQ_len]; omega)).bind ?_
    rw [mov_mov (hP.box part hp) (ha.mono (by omega)) hv]
    rw [show 40 - j = (40 - (j + 1)) + 1 by omega, leavesG]
    have hA := aloneG_eq (l := l) (o := o) (part := part) (a := addS a (vecC d)) hP hp (ha2.1.mono (by omega)) (fun c hc => (ho c hc).mono (by omega)) (by omega) o.length 0 (by omega)
    rw [List.drop_zero] at hA
    rw [hA]
    have ih' := ih (movQ (l.getD part []) (addS a (vecC d)), addS a (vecC d)) ⟨rfl, ha2.1.mono (by omega)⟩
    simp only at ih'
    refine Evt.up (g := fun k i => spec_l27Leaves.l1 k o (part : Int) d (movQ (l.getD part []) (addS a (vecC d))) (j : Int) (i : Int) l) (R := fun i => allF (fun k => ((k : Int) == (part : Int)) || !meetQ (movQ (l.getD part []) (addS a (vecC d))) (movQ (l.getD k []) (o.getD k z71))) o.length i && leavesG l o (part : Int) d (40 - (j + 1)) (addS a (vecC d))) (n := o.length) ?_ ?_ 0 (Nat.zero_le _)
    · refine Evt.step (fun k => rfl) ?_
      simp only [spec_l27Leaves.l1]
      refine Evt.ite_neg (by omega) ?_
      rw [allF_end, Bool.true_and, wrap_succ (i := j) (n := 40) hj (by omega)]
      exact ih'
    · intro i hi ihi
      have hli := hP.len i (by omega)
      refine Evt.step (fun k => rfl) ?_
      simp only [spec_l27Leaves.l1, rdQ4, rdQ]
      refine Evt.ite_pos (by omega) ?_
      rw [allF_succ _ hi, wrap_succ hi (by omega)]
      by_cases he : (i : Int) = (part : Int)
      · rw [show ((i : Int) == (part : Int)) = true by simpa using he, Bool.true_or, Bool.true_and]
        exact Evt.ite_pos he ihi
      · rw [show ((i : Int) == (part : Int)) = false by simpa using he, Bool.false_or]
        refine Evt.ite_neg he (Evt.ite_pos (by omega) (Evt.ite_pos (by omega) ?_))
        refine (l09Move_eq _ (o.getD i z71) (by omega)).bind ((l27Meet_eq _ _ (by rw [movQ_len]; omega) (by rw [movQ_len]; omega)).bind ?_)
        cases hm : meetQ (movQ (l.getD part []) (addS a (vecC d))) (movQ (l.getD i []) (o.getD i z71))
        · exact Evt.ite_neg (by simp) (by simpa using ihi)
        · exact Evt.ite_pos rfl Evt.pure
theorem l27Free_eq {l : List (List Cube)} {o : List Cube} (hP : Pts l) (hol : o.length = l.length) (ho : ∀ c ∈ o, sm 12 c) : Evt (fun k => spec_l27Free.f k l o) (freeG l o (6 * l.length) 0 []) := by
  have h4 := hP.hi
  unfold spec_l27Free.f
  have hw : wrap64 (6 * (l.length : Int)) = ((6 * l.length : Nat) : Int) := by unfold wrap64; omega
  refine Evt.upS (g := fun k i acc => spec_l27Free.l0 k o acc (i : Int) l) (R := fun i acc => freeG l o (6 * l.length - i) i acc) (P := fun i acc => acc.length ≤ i) (n := 6 * l.length) ?_ ?_ 0 [] (Nat.zero_le _) (Nat.le_refl _)
  · rintro acc _
    refine Evt.step (fun k => rfl) ?_
    simp only [spec_l27Free.l0, hw]
    rw [Nat.sub_self]
    exact Evt.ite_neg (by omega) Evt.pure
  · rintro i acc hi ha ih
    refine Evt.step (fun k => rfl) ?_
    simp only [spec_l27Free.l0, hw]
    refine Evt.ite_pos (by omega) ?_
    have e1 : wrap64 (Int.tdiv (i : Int) 6) = ((i / 6 : Nat) : Int) := by
      rw [Int.tdiv_eq_ediv_of_nonneg (by omega)]
      unfold wrap64
      omega
    have e2 : Int.tmod (i : Int) 6 = (i : Int) % 6 := Int.tmod_eq_emod_of_nonneg (by omega)
    rw [e1, e2]
    refine (l27Leaves_eq hP hol ho (part := i / 6) (by omega) (d := (i : Int) % 6) (by omega) (by omega)).bind ?_
    rw [show 6 * l.length - i = (6 * l.length - (i + 1)) + 1 by omega, freeG, show (i : Int) / 6 = ((i / 6 : Nat) : Int) by omega, rdQ]
    rw [wrap_succ hi (by omega)]
    cases hL : leavesG l o ((i / 6 : Nat) : Int) ((i : Int) % 6) 40 (o.getD (i / 6) z71)
    · rw [if_neg (by simp)]
      exact Evt.ite_neg (by simp) (ih acc (by omega))
    · rw [if_pos rfl]
      exact Evt.ite_pos rfl (Evt.ite_pos (by omega) (ih (acc ++ [(i : Int)]) (by simp; omega)))
/-- The code of an assembly and offsets. -/
noncomputable def codeQ (l : List (List Cube)) (o : List Cube) : Int := if asm l = true then (if offsC l o = true then 0 else 2) else 1
theorem l27Code_eq {l : List (List Cube)} {o : List Cube} (hL : LQ l) (ho : o.length ≤ 1048576) : Evt (fun k => spec_l27Code.f k l o) (codeQ l o) := by
  unfold spec_l27Code.f codeQ
  refine (isAssembly_spec l hL).bind ?_
  cases hA : asm l
  · rw [if_neg (by simp)]
    exact Evt.ite_neg (by simp) Evt.pure
  · rw [if_pos rfl]
    refine Evt.ite_pos rfl ((l27Clear_eq (asm_pts hA) ho).bind ?_)
    cases offsC l o
    · exact Evt.ite_neg (by simp) Evt.pure
    · exact Evt.ite_pos rfl Evt.pure
theorem readOffsets_eq {l : List (List Cube)} {o : List Cube} (hL : LQ l) : Evt (fun k => impl_readOffsets.f k l o) (codeQ l o) := by
  unfold impl_readOffsets.f codeQ
  refine (isAssembly_impl l hL).bind ?_
  cases hA : asm l
  · exact Evt.ite_neg (by simp) Evt.pure
  · have hP := asm_pts hA
    have := hP.lo
    exact Evt.ite_pos rfl (Evt.ite_pos ⟨hP.hi, by omega⟩ Evt.pure)
end Go.Proofs.Ytjgnlakgojookaa.Pure

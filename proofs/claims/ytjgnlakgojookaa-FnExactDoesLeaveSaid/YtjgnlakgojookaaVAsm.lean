/- Assemblies: the program's and the reference's check; what the laws' conversions of lists of cubes give; conditions stand with each. -/
import Derived.Test.YtjgnlakgojookaaVCubes
import Derived.Test.YtjgnlakgojookaaQ2
import Derived.Test.YtjgnlakgojookaaQ6
import Derived.Test.YtjgnlakgojookaaQ7
import Derived.Test.YtjgnlakgojookaaQ8
import Derived.Test.YtjgnlakgojookaaQ9
import Derived.Test.YtjgnlakgojookaaQGimplnewFrame
import Derived.Test.YtjgnlakgojookaaQGimplframealone
import Derived.Test.YtjgnlakgojookaaQGimplframeclear
import Derived.Test.YtjgnlakgojookaaQGimplIsAssembly
import Derived.Test.YtjgnlakgojookaaQ16
import Derived.Test.YtjgnlakgojookaaQ17
import Derived.Test.YtjgnlakgojookaaQ18
import Derived.Test.YtjgnlakgojookaaQGimplframeareOffsets
import Derived.Test.YtjgnlakgojookaaQ0
import Derived.Test.YtjgnlakgojookaaOpn
namespace Go.Proofs.Ytjgnlakgojookaa.Pure
open Go.RowKit Go.Proofs.Ytjgnlakgojookaa Go.Proofs.Ytjgnlakgojookaa.Q Go.Proofs.YtjgnlakgojookaaW.PrintWords
set_option linter.unusedVariables false
set_option linter.unusedSimpArgs false

abbrev LCube := S79
/-! ### what the laws' conversions give -/
def toQ (c : LCube) : Cube := ⟨c.f0, c.f1, c.f2⟩
def toQs (l : List LCube) : List Cube := l.map toQ
def toQss (l : List (List LCube)) : List (List Cube) := l.map toQs
theorem toQs_len (l : List LCube) : (toQs l).length = l.length := by simp [toQs]
theorem toQss_len (l : List (List LCube)) : (toQss l).length = l.length := by simp [toQss]
theorem rdLQ (l : List LCube) (i : Nat) : rd_T79 l (i : Int) = l.getD i z79 := by simp [rd_T79]
theorem rdLQ2 (l : List (List LCube)) (i : Nat) : rd_L2 l (i : Int) = l.getD i [] := by simp [rd_L2]
def szs (β : Type) : Int → List (List β) → Int
  | t, [] => t
  | t, c :: r => if t - c.length < 0 then -1 else szs β (t - c.length) r
theorem szs_le {β : Type} : ∀ (l : List (List β)) (t : Int), 0 ≤ t → 0 ≤ szs β t l → (∀ c ∈ l, (c.length : Int) ≤ t) ∧ szs β t l ≤ t
  | [], _, _, h => ⟨fun _ h => (by cases h), Int.le_refl _⟩
  | c :: r, t, h0, h => by
    unfold szs at h ⊢
    by_cases h1 : t - c.length < 0
    · rw [if_pos h1] at h; omega
    · rw [if_neg h1] at h ⊢
      have ih := szs_le r _ (by omega) h
      refine ⟨fun d hd => ?_, by have := ih.2; omega⟩
      rcases List.mem_cons.1 hd with rfl | hd
      · omega
      · have := ih.1 d hd; omega
theorem szCubeS_eq (l : List LCube) (t : Int) (h0 : 0 ≤ t) (h1 : t ≤ 1000000000) (hl : l.length ≤ maxLen) : laws_szCubeS.f l t = some (if t - l.length < 0 then -1 else t - l.length) := by
  unfold maxLen at hl
  unfold laws_szCubeS.f
  rw [w64 (by omega) (by omega)]
  split <;> rfl
theorem szCubeSS_eq (cs : List (List LCube)) (a : Int) (ha0 : 0 ≤ a) (ha : a ≤ 1000000000) (hl : cs.length ≤ maxLen) (hc : ∀ c ∈ cs, c.length ≤ maxLen) : Evt (fun k => laws_szCubeSS.f k cs a) (if a - cs.length < 0 then -1 else szs LCube (a - cs.length) cs) := by
  unfold maxLen at hl
  unfold laws_szCubeSS.f
  rw [w64 (by omega) (by omega)]
  by_cases h : a - (cs.length : Int) < 0
  · rw [if_pos h]
    exact Evt.ite_pos h Evt.pure
  · rw [if_neg h]
    refine Evt.ite_neg h ?_
    refine Evt.upS (g := fun k i t => laws_szCubeSS.l0 k cs t (i : Int)) (R := fun i t => szs LCube t (cs.drop i)) (P := fun _ t => 0 ≤ t ∧ t ≤ 1000000000) (n := cs.length) ?_ ?_ 0 _ (Nat.zero_le _) ⟨by omega, by omega⟩
    · rintro t _
      refine Evt.step (fun k => rfl) ?_
      simp only [laws_szCubeSS.l0]
      rw [List.drop_length]
      exact Evt.ite_neg (by omega) Evt.pure
    · rintro i t hi ⟨ht0, ht1⟩ ih
      have hci := hc _ (qmem cs i [] hi)
      refine Evt.step (fun k => rfl) ?_
      simp only [laws_szCubeSS.l0, rdLQ2, szCubeS_eq _ t ht0 ht1 hci, Option.bind_some]
      refine Evt.ite_pos (by omega) (Evt.ite_pos (by omega) ?_)
      rw [wrap_succ hi (by omega), qdrop cs i [] hi]
      unfold szs
      by_cases h2 : t - ((cs.getD i []).length : Int) < 0
      · rw [if_pos h2, if_pos h2]
        exact Evt.ite_pos (by omega) Evt.pure
      · rw [if_neg h2, if_neg h2]
        exact Evt.ite_neg h2 (ih _ ⟨by omega, by omega⟩)
/-- The lists are short. -/
def LQ {β : Type} (l : List (List β)) : Prop := l.length ≤ 1048576 ∧ ∀ c ∈ l, c.length ≤ 1048576
theorem szAssembly_eq (cs : List (List LCube)) (a : Int) (ha0 : 0 ≤ a) (ha : a ≤ 1048576) (hl : cs.length ≤ maxLen) (hc : ∀ c ∈ cs, c.length ≤ maxLen) : ∃ r, Evt (fun k => laws_szAssembly.f k cs a) r ∧ (0 ≤ r → LQ cs ∧ r ≤ a) := by
  have hs := szCubeSS_eq cs a ha0 (by omega) hl hc
  generalize hb : (if a - (cs.length : Int) < 0 then (-1 : Int) else szs LCube (a - (cs.length : Int)) cs) = b at hs
  unfold laws_szAssembly.f
  by_cases hneg : b < 0
  · exact ⟨-1, hs.bind (Evt.ite_pos hneg Evt.pure), fun h => by omega⟩
  · refine ⟨b, hs.bind (Evt.ite_neg hneg Evt.pure), fun _ => ?_⟩
    by_cases h0 : a - (cs.length : Int) < 0
    · rw [if_pos h0] at hb; omega
    · rw [if_neg h0] at hb
      have h3 := szs_le cs (a - (cs.length : Int)) (by omega) (by rw [hb]; omega)
      refine ⟨⟨by omega, fun c hc => ?_⟩, by have := h3.2; rw [hb] at this; omega⟩
      have := h3.1 c hc
      omega
theorem setTakeQ {α : Type} (l acc : List α) (i : Nat) (hi : i < l.length) (hl : acc.length = l.length) (h : acc.take i = l.take i) : (acc.set i l[i]).take (i + 1) = l.take (i + 1) := by
  apply List.ext_getElem?
  intro j
  have h3 := congrArg (fun z => z[j]?) h
  simp only [List.getElem?_take] at h3 ⊢
  by_cases hj : j < i
  · rw [if_pos (by omega)] at h3 ⊢
    rw [if_pos (by omega)] at h3 ⊢
    rw [List.getElem?_set_ne (by omega)]
    exact h3
  · by_cases hj2 : j = i
    · subst hj2
      rw [if_pos (by omega), if_pos (by omega), List.getElem?_set_self (by omega), List.getElem?_eq_getElem hi]
    · rw [if_neg (by omega), if_neg (by omega)]
theorem toCubeS_eq (l : List LCube) (hl : l.length ≤ 1048576) : Evt (fun k => laws_toCubeS.f k l) (toQs l) := by
  unfold laws_toCubeS.f
  refine Evt.ite_pos (by omega) (Evt.ite_pos (by omega) ?_)
  refine Evt.upS (g := fun k i acc => laws_toCubeS.l0 k l acc (i : Int)) (R := fun _ _ => toQs l) (P := fun i acc => acc.length = (toQs l).length ∧ acc.take i = (toQs l).take i) (n := l.length) ?_ ?_ 0 _ (Nat.zero_le _) ⟨by simp [toQs], by simp⟩
  · rintro acc ⟨h1, h2⟩
    refine Evt.step (fun k => rfl) ?_
    simp only [laws_toCubeS.l0]
    refine Evt.ite_neg (by omega) ?_
    rw [toQs_len] at h1
    rw [List.take_of_length_le (by omega), List.take_of_length_le (by rw [toQs_len]; omega)] at h2
    rw [h2]
    exact Evt.pure
  · rintro i acc hi ⟨h1, h2⟩ ih
    refine Evt.step (fun k => rfl) ?_
    have hl2 := toQs_len l
    simp only [laws_toCubeS.l0, laws_toCube.f, Option.bind_some, rdLQ]
    refine Evt.ite_pos (by omega) (Evt.ite_pos (by omega) (Evt.ite_pos (by omega) ?_))
    rw [wrap_succ hi (by omega), Int.toNat_natCast]
    refine ih _ ⟨by simpa using h1, ?_⟩
    have h3 := setTakeQ (toQs l) acc i (by omega) h1 h2
    have e : (toQs l)[i]'(by omega) = ⟨(l.getD i z79).f0, (l.getD i z79).f1, (l.getD i z79).f2⟩ := by
      rw [qgd l i _ hi]
      simp [toQs, toQ]
    rw [e] at h3
    exact h3
theorem toCubeSS_eq (l : List (List LCube)) (h : LQ l) : Evt (fun k => laws_toCubeSS.f k l) (toQss l) := by
  have hl := h.1
  unfold laws_toCubeSS.f
  refine Evt.ite_pos (by omega) (Evt.ite_pos (by omega) ?_)
  refine Evt.upS (g := fun k i acc => laws_toCubeSS.l0 k l acc (i : Int)) (R := fun _ _ => toQss l) (P := fun i acc => acc.length = (toQss l).length ∧ acc.take i = (toQss l).take i) (n := l.length) ?_ ?_ 0 _ (Nat.zero_le _) ⟨by simp [toQss], by simp⟩
  · rintro acc ⟨h1, h2⟩
    refine Evt.step (fun k => rfl) ?_
    simp only [laws_toCubeSS.l0]
    refine Evt.ite_neg (by omega) ?_
    rw [toQss_len] at h1
    rw [List.take_of_length_le (by omega), List.take_of_length_le (by rw [toQss_len]; omega)] at h2
    rw [h2]
    exact Evt.pure
  · rintro i acc hi ⟨h1, h2⟩ ih
    refine Evt.step (fun k => rfl) ?_
    have hl2 := toQss_len l
    simp only [laws_toCubeSS.l0, rdLQ2]
    refine Evt.ite_pos (by omega) (Evt.ite_pos (by omega) ?_)
    refine (toCubeS_eq _ (h.2 _ (qmem l i [] hi))).bind (Evt.ite_pos (by omega) ?_)
    rw [wrap_succ hi (by omega), Int.toNat_natCast]
    refine ih _ ⟨by simpa using h1, ?_⟩
    have h3 := setTakeQ (toQss l) acc i (by omega) h1 h2
    have e : (toQss l)[i]'(by omega) = toQs (l.getD i []) := by
      rw [qgd l i _ hi]
      simp [toQss]
    rw [e] at h3
    exact h3
theorem toAssembly_eq (l : List (List LCube)) (h : LQ l) : Evt (fun k => laws_toAssembly.f k l) (toQss l) := by
  unfold laws_toAssembly.f
  exact (toCubeSS_eq l h).bind Evt.pure
theorem LQ.to {l : List (List LCube)} (h : LQ l) : LQ (toQss l) := by
  refine ⟨by rw [toQss_len]; exact h.1, fun c hc => ?_⟩
  obtain ⟨d, hd, rfl⟩ := List.mem_map.1 hc
  rw [toQs_len]
  exact h.2 d hd
theorem eqCubeS_refl (l : List Cube) (hl : l.length ≤ 1048576) : Evt (fun k => laws_eqCubeS.f k l l) true := by
  unfold laws_eqCubeS.f
  refine Evt.ite_pos rfl ?_
  refine Evt.up (g := fun k i => laws_eqCubeS.l0 k l l (i : Int)) (R := fun _ => true) (n := l.length) ?_ ?_ 0 (Nat.zero_le _)
  · refine Evt.step (fun k => rfl) ?_
    simp only [laws_eqCubeS.l0]
    exact Evt.ite_neg (by omega) Evt.pure
  · intro i hi ih
    refine Evt.step (fun k => rfl) ?_
    simp only [laws_eqCubeS.l0, laws_eqCube.f, if_true, Option.bind_some]
    refine Evt.ite_pos (by omega) (Evt.ite_pos (by omega) (Evt.ite_pos (by omega) ?_))
    rw [wrap_succ hi (by omega)]
    exact ih
theorem eqCubeSS_refl (l : List (List Cube)) (h : LQ l) : Evt (fun k => laws_eqCubeSS.f k l l) true := by
  have hl := h.1
  unfold laws_eqCubeSS.f
  refine Evt.ite_pos rfl ?_
  refine Evt.up (g := fun k i => laws_eqCubeSS.l0 k l l (i : Int)) (R := fun _ => true) (n := l.length) ?_ ?_ 0 (Nat.zero_le _)
  · refine Evt.step (fun k => rfl) ?_
    simp only [laws_eqCubeSS.l0]
    exact Evt.ite_neg (by omega) Evt.pure
  · intro i hi ih
    refine Evt.step (fun k => rfl) ?_
    simp only [laws_eqCubeSS.l0, rdQ4]
    refine Evt.ite_pos (by omega) (Evt.ite_pos (by omega) (Evt.ite_pos (by omega) ?_))
    refine (eqCubeS_refl _ (h.2 _ (qmem l i [] hi))).bind (Evt.ite_pos rfl ?_)
    rw [wrap_succ hi (by omega)]
    exact ih
theorem eqAssembly_refl (l : List (List Cube)) (h : LQ l) : Evt (fun k => laws_eqAssembly.f k l l) true := by
  unfold laws_eqAssembly.f
  exact (eqCubeSS_refl l h).bind (Evt.ite_pos rfl Evt.pure)

/-! ### assemblies -/
/-- Two lists of cubes have a cube in common. -/
def meetQ (a b : List Cube) : Bool := a.any fun q => hasC b q.f0 q.f1 q.f2
theorem l27Meet_eq (a b : List Cube) (ha : a.length ≤ 1048576) (hb : b.length ≤ 1048576) : Evt (fun k => spec_l27Meet.f k a b) (meetQ a b) := by
  unfold spec_l27Meet.f
  refine Evt.up (g := fun k i => spec_l27Meet.l0 k a b (i : Int)) (R := fun i => meetQ (a.drop i) b) (n := a.length) ?_ ?_ 0 (Nat.zero_le _)
  · refine Evt.step (fun k => rfl) ?_
    simp only [spec_l27Meet.l0]
    rw [List.drop_length]
    exact Evt.ite_neg (by omega) Evt.pure
  · intro i hi ih
    refine Evt.step (fun k => rfl) ?_
    simp only [spec_l27Meet.l0, rdQ]
    refine Evt.ite_pos (by omega) (Evt.ite_pos (by omega) ?_)
    refine (l09Index_eq b _ _ _ (by omega)).bind ?_
    rw [wrap_succ hi (by omega), qdrop a i z71 hi]
    unfold meetQ
    rw [List.any_cons]
    cases h : hasC b (a.getD i z71).f0 (a.getD i z71).f1 (a.getD i z71).f2
    · rw [Bool.false_or]
      exact Evt.ite_neg (by have := ixQ_neg h; omega) ih
    · exact Evt.ite_pos (ixQ_pos h) Evt.pure
theorem inL_iff {lo hi : Int} {c : Cube} : inL lo hi c = true ↔ (lo ≤ c.f0 ∧ c.f0 ≤ hi) ∧ (lo ≤ c.f1 ∧ c.f1 ≤ hi) ∧ (lo ≤ c.f2 ∧ c.f2 ≤ hi) := by
  unfold inL insC
  simp [and_assoc]
noncomputable def partQ (p : List Cube) : Bool := So p && (conQ p && p.all (inL 0 7))
theorem one_eq (p : List Cube) (hp : p.length ≤ 1048576) : Evt (fun k => impl_IsAssembly.one k p) (partQ p) := by
  unfold impl_IsAssembly.one partQ
  refine (isSolid_eq p (by omega)).bind ?_
  cases hS : So p
  · exact Evt.ite_neg (by simp) Evt.pure
  · refine Evt.ite_pos rfl ((conQ_eq hS).1.bind ?_)
    cases hC : conQ p
    · exact Evt.ite_neg (by simp) Evt.pure
    · refine Evt.ite_pos rfl ?_
      rw [Bool.true_and, Bool.true_and]
      exact Evt.pure
theorem parts_eq : ∀ (l : List (List Cube)), (∀ c ∈ l, c.length ≤ 1048576) → Evt (fun k => impl_IsAssembly.parts k l) (l.all partQ)
  | [], _ => Evt.of_eq (fun k => rfl) Evt.pure
  | p :: r, h => by
    have ih := parts_eq r (fun d hd => h d (List.mem_cons_of_mem _ hd))
    refine Evt.of_eq (fun k => rfl) ((one_eq p (h p List.mem_cons_self)).bind ?_)
    rw [List.all_cons]
    cases e : partQ p
    · exact Evt.ite_neg (by simp) Evt.pure
    · rw [Bool.true_and]
      exact Evt.ite_pos rfl ih
/-- Parts i and all before it have no cube in common. -/
def apartQ (l : List (List Cube)) (i : Nat) : Bool := allF (fun k => !meetQ (l.getD i []) (l.getD k [])) i 0
noncomputable def asmOk (l : List (List Cube)) (i : Nat) : Bool := partQ (l.getD i []) && apartQ l i
/-- An assembly. -/
noncomputable def asm (l : List (List Cube)) : Bool := decide (2 ≤ (l.length : Int) ∧ (l.length : Int) ≤ 4) && allF (asmOk l) l.length 0
theorem l01In3 (c : Cube) {α : Type} (f : Option α) : ((spec_l01In.f c.f0 0 7).bind fun t => if t = true then ((spec_l01In.f c.f1 0 7).bind fun t => if t = true then ((spec_l01In.f c.f2 0 7).bind fun t => if t = true then some true else some false) else some false) else some false) = some (inL 0 7 c) := by
  simp only [in_eq, Option.bind_some]
  unfold inL insC
  by_cases h1 : 0 ≤ c.f0 <;> by_cases h2 : c.f0 ≤ 7 <;> by_cases h3 : 0 ≤ c.f1 <;> by_cases h4 : c.f1 ≤ 7 <;> by_cases h5 : 0 ≤ c.f2 <;> by_cases h6 : c.f2 ≤ 7 <;> simp [h1, h2, h3, h4, h5, h6]
theorem isAssembly_spec (l : List (List Cube)) (h : LQ l) : Evt (fun k => spec_IsAssembly.f k l) (asm l) := by
  have hl := h.1
  unfold spec_IsAssembly.f asm
  simp only [in_eq, Option.bind_some]
  by_cases c : 2 ≤ (l.length : Int) ∧ (l.length : Int) ≤ 4
  case neg =>
    simp only [c, decide_false, Bool.false_and]
    exact Evt.ite_neg (by simp) Evt.pure
  simp only [c, decide_true, Bool.true_and, and_self]
  refine Evt.ite_pos trivial ?_
  refine Evt.up (g := fun k i => spec_IsAssembly.l0 k (i : Int) l) (R := fun i => allF (asmOk l) l.length i) (n := l.length) ?_ ?_ 0 (Nat.zero_le _)
  · refine Evt.step (fun k => rfl) ?_
    simp only [spec_IsAssembly.l0]
    rw [allF_end]
    exact Evt.ite_neg (by omega) Evt.pure
  · intro i hi ih
    rw [allF_succ _ hi]
    have hp := h.2 _ (qmem l i [] hi)
    refine Evt.step (fun k => rfl) ?_
    simp only [spec_IsAssembly.l0, rdQ4]
    refine Evt.ite_pos (by omega) (Evt.ite_pos (by omega) ((l09Solid_eq _ (by omega)).bind ?_))
    have hoff : ∀ b, asmOk l i = b → b = false → Evt (fun k => spec_IsAssembly.j1 k (i : Int) true l) (b && allF (asmOk l) l.length (i + 1)) := by
      rintro b _ rfl
      refine Evt.step (fun k => rfl) ?_
      simp only [spec_IsAssembly.j1]
      exact Evt.ite_pos trivial Evt.pure
    cases hS : So (l.getD i []) with
    | false =>
      refine Evt.ite_neg (by simp) (hoff _ rfl ?_)
      unfold asmOk partQ
      rw [hS]; rfl
    | true =>
      refine Evt.ite_pos rfl ((conQ_eq hS).2.bind ?_)
      cases hC : conQ (l.getD i []) with
      | false =>
        refine hoff _ rfl ?_
        unfold asmOk partQ
        rw [hS, hC]; rfl
      | true =>
        have e : asmOk l i = ((l.getD i []).all (inL 0 7) && apartQ l i) := by unfold asmOk partQ; rw [hS, hC, Bool.true_and, Bool.true_and]
        rw [e]
        clear e hoff
        refine Evt.step (fun k => rfl) ?_
        simp only [spec_IsAssembly.j1]
        refine Evt.ite_neg (by simp) ?_
        -- the coordinates, then the parts before
        have h2 : Evt (fun k => spec_IsAssembly.l2 k (i : Int) 0 l) (apartQ l i && allF (asmOk l) l.length (i + 1)) := by
          unfold apartQ
          refine Evt.up (g := fun k j => spec_IsAssembly.l2 k (i : Int) (j : Int) l) (R := fun j => allF (fun k => !meetQ (l.getD i []) (l.getD k [])) i j && allF (asmOk l) l.length (i + 1)) (n := i) ?_ ?_ 0 (Nat.zero_le _)
          · refine Evt.step (fun k => rfl) ?_
            simp only [spec_IsAssembly.l2]
            refine Evt.ite_neg (by omega) ?_
            rw [allF_end, Bool.true_and, wrap_succ hi (by omega)]
            exact ih
          · intro j hj ihj
            refine Evt.step (fun k => rfl) ?_
            simp only [spec_IsAssembly.l2, rdQ4]
            refine Evt.ite_pos (by omega) (Evt.ite_pos (by omega) (Evt.ite_pos (by omega) (Evt.ite_pos (by omega) (Evt.ite_pos (by omega) ?_))))
            refine (l27Meet_eq _ _ hp (h.2 _ (qmem l j [] (by omega)))).bind ?_
            rw [allF_succ _ hj, wrap_succ hj (by omega)]
            cases hm : meetQ (l.getD i []) (l.getD j [])
            · exact Evt.ite_neg (by simp) (by simpa using ihj)
            · exact Evt.ite_pos rfl Evt.pure
        refine Evt.up (g := fun k j => spec_IsAssembly.l1 k (i : Int) (j : Int) l) (R := fun j => ((l.getD i []).drop j).all (inL 0 7) && apartQ l i && allF (asmOk l) l.length (i + 1)) (n := (l.getD i []).length) ?_ ?_ 0 (Nat.zero_le _)
        · refine Evt.step (fun k => rfl) ?_
          simp only [spec_IsAssembly.l1, rdQ4]
          refine Evt.ite_pos (by omega) (Evt.ite_pos (by omega) (Evt.ite_neg (by omega) ?_))
          rw [List.drop_length, List.all_nil, Bool.true_and]
          exact h2
        · intro j hj ihj
          refine Evt.step (fun k => rfl) ?_
          simp only [spec_IsAssembly.l1, rdQ4, rdQ, in_eq, Option.bind_some]
          refine Evt.ite_pos (by omega) (Evt.ite_pos (by omega) (Evt.ite_pos (by omega) (Evt.ite_pos (by omega) ?_)))
          rw [qdrop (l.getD i []) j z71 hj, List.all_cons, wrap_succ hj (by omega)]
          generalize (l.getD i []).getD j z71 = q
          by_cases h1 : 0 ≤ q.f0 ∧ q.f0 ≤ 7
          · refine Evt.ite_pos (by simpa using h1) ?_
            by_cases h2 : 0 ≤ q.f1 ∧ q.f1 ≤ 7
            · refine Evt.ite_pos (by simpa using h2) ?_
              by_cases h3 : 0 ≤ q.f2 ∧ q.f2 ≤ 7
              · refine Evt.ite_pos (by simpa using h3) ?_
                rw [inL_iff.2 ⟨h1, h2, h3⟩, Bool.true_and]
                exact ihj
              · rw [show inL 0 7 q = false from Bool.eq_false_iff.mpr (fun hh => h3 (inL_iff.1 hh).2.2)]
                exact Evt.ite_neg (by simpa using h3) Evt.pure
            · rw [show inL 0 7 q = false from Bool.eq_false_iff.mpr (fun hh => h2 (inL_iff.1 hh).2.1)]
              exact Evt.ite_neg (by simpa using h2) Evt.pure
          · rw [show inL 0 7 q = false from Bool.eq_false_iff.mpr (fun hh => h1 (inL_iff.1 hh).1)]
            exact Evt.ite_neg (by simpa using h1) Evt.pure
theorem hit_zero (a b : List Cube) (hb : ∀ c ∈ b, coQ c = true) : hitC a b 0 0 0 = meetQ b a := by
  unfold hitC meetQ
  induction b with
  | nil => rfl
  | cons q r ih =>
    rw [List.any_cons, List.any_cons, ih (fun c hc => hb c (List.mem_cons_of_mem _ hc))]
    obtain ⟨h0, h1, h2⟩ := coQ_iff.1 (hb q List.mem_cons_self)
    rw [show wrap64 (q.f0 + 0) = q.f0 by unfold wrap64; omega, show wrap64 (q.f1 + 0) = q.f1 by unfold wrap64; omega, show wrap64 (q.f2 + 0) = q.f2 by unfold wrap64; omega]
theorem touch_zero (l : List (List Cube)) (i j : Nat) (hb : ∀ c ∈ l.getD j [], coQ c = true) : touchC l (i : Int) (j : Int) 0 0 0 = meetQ (l.getD j []) (l.getD i []) := by
  unfold touchC
  rw [prtN, prtN, hit_zero _ _ hb]
  rfl
theorem alone_zero (l : List (List Cube)) (i : Nat) (hb : ∀ c ∈ l.getD i [], coQ c = true) : ∀ (d j : Nat), j + d = i → aloneG l (i : Int) 0 0 0 j (zeroC d) = allF (fun k => !meetQ (l.getD i []) (l.getD k [])) i j
  | 0, j, h => by
    obtain rfl : j = i := by omega
    rw [allF_end]
    rfl
  | d + 1, j, h => by
    have ih := alone_zero l i hb d (j + 1) (by omega)
    rw [allF_succ _ (by omega), ← ih]
    show ((((j : Int) == (i : Int)) || !touchC l j i (wrap64 (0 - 0)) (wrap64 (0 - 0)) (wrap64 (0 - 0))) && aloneG l (i : Int) 0 0 0 (j + 1) (zeroC d)) = _
    rw [show wrap64 ((0 : Int) - 0) = 0 by unfold wrap64; omega, touch_zero l j i hb, show ((j : Int) == (i : Int)) = false by simp; omega, Bool.false_or]
theorem clear_zeroQ (l : List (List Cube)) (n : Nat) (hb : ∀ i, i < n → ∀ c ∈ l.getD i [], coQ c = true) : ∀ (d i : Nat), i + d = n → clearG l (zeroC n) i (zeroC d) = allF (apartQ l) n i
  | 0, i, h => by
    obtain rfl : i = n := by omega
    rw [allF_end]
    rfl
  | d + 1, i, h => by
    have ih := clear_zeroQ l n hb d (i + 1) (by omega)
    rw [allF_succ _ (by omega), ← ih]
    show (aloneG l (i : Int) 0 0 0 0 ((zeroC n).take i) && clearG l (zeroC n) (i + 1) (zeroC d)) = _
    have e : (zeroC n).take i = zeroC i := by
      unfold zeroC
      rw [List.take_replicate, Nat.min_eq_left (by omega)]
    rw [e, alone_zero l i (hb i (by omega)) i 0 (by omega)]
    rfl
theorem isAssembly_impl (l : List (List Cube)) (h : LQ l) : Evt (fun k => impl_IsAssembly.f k l) (asm l) := by
  have hl := h.1
  unfold impl_IsAssembly.f asm
  by_cases c1 : (l.length : Int) < 2
  · rw [show decide (2 ≤ (l.length : Int) ∧ (l.length : Int) ≤ 4) = false by simp; omega]
    exact Evt.ite_pos c1 Evt.pure
  · refine Evt.ite_neg c1 ?_
    by_cases c2 : (l.length : Int) > 4
    · rw [show decide (2 ≤ (l.length : Int) ∧ (l.length : Int) ≤ 4) = false by simp; omega]
      exact Evt.ite_pos c2 Evt.pure
    · refine Evt.ite_neg c2 ((parts_eq l h.2).bind ?_)
      rw [show decide (2 ≤ (l.length : Int) ∧ (l.length : Int) ≤ 4) = true by simp; omega, Bool.true_and]
      cases hP : l.all partQ with
      | false =>
        have e : allF (asmOk l) l.length 0 = false := by
          apply Bool.eq_false_iff.mpr
          intro hh
          have h1 := allF_true.1 hh
          have : l.all partQ = true := by
            rw [List.all_eq_true]
            intro p hp
            obtain ⟨i, hi, rfl⟩ := List.getElem_of_mem hp
            have h2 := h1 i (Nat.zero_le _) hi
            unfold asmOk at h2
            rw [qgd l i _ hi] at h2
            exact (Bool.and_eq_true_iff.1 h2).1
          rw [hP] at this
          cases this
        rw [e]
        exact Evt.ite_neg (by simp) Evt.pure
      | true =>
        have hp := List.all_eq_true.1 hP
        have hco : ∀ i, i < l.length → ∀ c ∈ l.getD i [], coQ c = true := by
          intro i hi
          have h1 := hp _ (qmem l i [] hi)
          unfold partQ at h1
          exact So_co (Bool.and_eq_true_iff.1 h1).1
        refine Evt.ite_pos rfl (Evt.const ?_)
        congr 1
        rw [clear_zeroQ l l.length hco l.length 0 (by omega)]
        rw [Bool.eq_iff_iff, allF_true, allF_true]
        constructor
        · intro h1 j h2 h3
          unfold asmOk
          rw [hp _ (qmem l j [] h3), Bool.true_and]
          exact h1 j h2 h3
        · intro h1 j h2 h3
          have h4 := h1 j h2 h3
          unfold asmOk at h4
          exact (Bool.and_eq_true_iff.1 h4).2
end Go.Proofs.Ytjgnlakgojookaa.Pure

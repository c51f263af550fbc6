/- Assignments as the bits of a number: clauses as masks; the count of the assignments that satisfy a formula; conditions stand with each. -/
import Derived.Laws.Bits64b
import Derived.Laws.BitsLemmas
import Derived.Test.YtabmmhkikemdjaaVSat0
import Derived.Test.YtabmmhkikemdjaaQ3
import Derived.Test.YtabmmhkikemdjaaQ4
import Derived.Test.YtabmmhkikemdjaaQ5
import Derived.Test.YtabmmhkikemdjaaQ0
import Derived.Test.YtabmmhkikemdjaaOpn
namespace Go.Proofs.Ytabmmhkikemdjaa.Pure
open Go.RowKit Go.Proofs.Ytabmmhkikemdjaa Go.Proofs.Ytabmmhkikemdjaa.Q Go.Proofs.YtabmmhkikemdjaaW.PrintWords
set_option linter.unusedVariables false
set_option linter.unusedSimpArgs false

theorem pow12 {t : Nat} (h : t ≤ 12) : 2 ^ t ≤ 4096 := Nat.pow_le_pow_right (n := 2) (by decide) h
theorem u64_of {n : Int} (h0 : 0 ≤ n) (h1 : n ≤ 1000000000) : IntKind.u64.wrap n = n := by rw [IntKind.wrap_u64]; omega
theorem shl_u64 {t : Nat} (h : t ≤ 12) : shl .u64 1 (t : Int) = ((2 ^ t : Nat) : Int) := by
  have hp := pow12 h
  unfold shl
  have e : min ((t : Int).toNat) IntKind.u64.bits = t := by
    have : IntKind.u64.bits = 64 := rfl
    omega
  rw [e, Int.one_mul, show (2 : Int) ^ t = ((2 ^ t : Nat) : Int) by simp]
  generalize 2 ^ t = P at hp ⊢
  exact u64_of (by omega) (by omega)
theorem shl_i64 {t : Nat} (h : t ≤ 12) : shl .i64 1 (t : Int) = ((2 ^ t : Nat) : Int) := by
  have hp := pow12 h
  unfold shl
  have e : min ((t : Int).toNat) IntKind.i64.bits = t := by
    have : IntKind.i64.bits = 64 := rfl
    omega
  rw [e, Int.one_mul, show (2 : Int) ^ t = ((2 ^ t : Nat) : Int) by simp, IntKind.wrap_i64]
  generalize 2 ^ t = P at hp ⊢
  omega
/-- A bit of a number, as a whole number. -/
def bi (m i : Nat) : Int := if m.testBit i = true then 1 else 0
theorem bit_eq {m i : Nat} (hm : m ≤ 4096) (hi : i ≤ 12) : Go.bits .and .i64 (shr .i64 (m : Int) (i : Int)) 1 = bi m i := by
  have e : shr .i64 (m : Int) (i : Int) = ((m / 2 ^ i : Nat) : Int) := by
    unfold shr
    have e : min ((i : Int).toNat) IntKind.i64.bits = i := by
      have : IntKind.i64.bits = 64 := rfl
      omega
    rw [e, Int.natCast_ediv]
    simp
  have hle : m / 2 ^ i ≤ m := Nat.div_le_self _ _
  rw [e]
  unfold bi
  rw [Nat.testBit_eq_decide_div_mod_eq]
  simp only [decide_eq_true_eq]
  generalize m / 2 ^ i = q at hle ⊢
  have h := bits_mask .i64 62 (by decide) (fun n h0 h1 => by rw [IntKind.wrap_i64]; omega) 1 (by decide) (q : Int) (by omega) (by omega)
  have e2 : (2 : Int) ^ 1 - 1 = 1 := by decide
  rw [e2] at h
  rw [h]
  split <;> omega

/-- The literals of a clause under an assignment. -/
def lit (m : Nat) (n : Int) : Bool := if n > 0 then m.testBit (n - 1).toNat else !m.testBit (-n - 1).toNat
def sat (m : Nat) (cs : List (List Int)) : Bool := cs.all fun c => c.any (lit m)
def pmS (a : Nat) (n : Int) : Nat := if n > 0 then a ||| 2 ^ (n - 1).toNat else a
def nmS (a : Nat) (n : Int) : Nat := if n > 0 then a else a ||| 2 ^ (-n - 1).toNat
def pm (c : List Int) : Nat := c.foldl pmS 0
def nm (c : List Int) : Nat := c.foldl nmS 0
/-- Each literal of the clause names one of v variables. -/
def Lits (v : Nat) (c : List Int) : Prop := ∀ n ∈ c, n ≠ 0 ∧ -(v : Int) ≤ n ∧ n ≤ v
theorem cl_lits {v : Nat} (hv : v ≤ 400) : ∀ (c : List Int) (s : Int), 0 ≤ s → cl v s c = true → Lits v c
  | [], _, _, _ => fun _ h => by cases h
  | n :: r, s, hs, h => by
    unfold cl at h
    by_cases c : -(v : Int) ≤ n ∧ n ≤ v
    · rw [if_pos c] at h
      have hab := ab_eq (a := n) (by omega) (by omega)
      by_cases c2 : ab n ≤ s
      · rw [if_pos c2] at h; cases h
      · rw [if_neg c2] at h
        intro d hd
        rcases List.mem_cons.1 hd with rfl | hd
        · refine ⟨fun e => c2 ?_, c⟩
          rw [hab, e]; simpa using hs
        · exact cl_lits hv r (ab n) (by rw [hab]; split <;> omega) h d hd
    · rw [if_neg c] at h; cases h
theorem pmS_lt {v a : Nat} {n : Int} (hv : v ≤ 12) (ha : a < 4096) (h : n ≤ v) : pmS a n < 4096 := by
  unfold pmS
  split
  · exact Nat.or_lt_two_pow (n := 12) ha (Nat.pow_lt_pow_right (by decide) (by omega))
  · exact ha
theorem nmS_lt {v a : Nat} {n : Int} (hv : v ≤ 12) (ha : a < 4096) (h0 : n ≠ 0) (h : -(v : Int) ≤ n) : nmS a n < 4096 := by
  unfold nmS
  split
  · exact ha
  · exact Nat.or_lt_two_pow (n := 12) ha (Nat.pow_lt_pow_right (by decide) (by omega))
theorem pm_lt {v : Nat} (hv : v ≤ 12) : ∀ (c : List Int) (a : Nat), Lits v c → a < 4096 → c.foldl pmS a < 4096
  | [], _, _, h => h
  | n :: r, a, hc, h => pm_lt hv r _ (fun d hd => hc d (List.mem_cons_of_mem _ hd)) (pmS_lt hv h (hc n List.mem_cons_self).2.2)
theorem nm_lt {v : Nat} (hv : v ≤ 12) : ∀ (c : List Int) (a : Nat), Lits v c → a < 4096 → c.foldl nmS a < 4096
  | [], _, _, h => h
  | n :: r, a, hc, h => nm_lt hv r _ (fun d hd => hc d (List.mem_cons_of_mem _ hd)) (nmS_lt hv h (hc n List.mem_cons_self).1 (hc n List.mem_cons_self).2.1)
theorem pm_bit : ∀ (c : List Int) (a j : Nat), (c.foldl pmS a).testBit j = (a.testBit j || c.any fun n => decide (n > 0 ∧ (n - 1).toNat = j))
  | [], a, j => by simp
  | n :: r, a, j => by
    rw [List.foldl_cons, pm_bit r, List.any_cons, ← Bool.or_assoc]
    congr 1
    unfold pmS
    by_cases h : n > 0
    · rw [if_pos h, Nat.testBit_or, Nat.testBit_two_pow]
      simp [h]
    · rw [if_neg h]
      simp [h]
theorem nm_bit : ∀ (c : List Int) (a j : Nat), (c.foldl nmS a).testBit j = (a.testBit j || c.any fun n => decide (¬ n > 0 ∧ (-n - 1).toNat = j))
  | [], a, j => by simp
  | n :: r, a, j => by
    rw [List.foldl_cons, nm_bit r, List.any_cons, ← Bool.or_assoc]
    congr 1
    unfold nmS
    by_cases h : n > 0
    · rw [if_pos h]
      simp [h]
    · rw [if_neg h, Nat.testBit_or, Nat.testBit_two_pow]
      simp [h]
theorem and_ne {x y : Nat} : x &&& y ≠ 0 ↔ ∃ j, x.testBit j = true ∧ y.testBit j = true := by
  constructor
  · intro h
    apply Classical.byContradiction
    intro hn
    apply h
    apply Nat.eq_of_testBit_eq
    intro j
    rw [Nat.testBit_and, Nat.zero_testBit]
    cases h1 : x.testBit j
    · rfl
    · cases h2 : y.testBit j
      · rfl
      · exact absurd ⟨j, h1, h2⟩ hn
  · rintro ⟨j, h1, h2⟩ h
    have := congrArg (fun z => Nat.testBit z j) h
    simp [Nat.testBit_and, h1, h2] at this
/-- A clause is true exactly if one of its masks meets the assignment. -/
theorem any_masks (m : Nat) (hm : m ≤ 4096) {v : Nat} (hv : v ≤ 12) (c : List Int) (hc : Lits v c) : c.any (lit m) = true ↔ m &&& pm c ≠ 0 ∨ (18446744073709551615 ^^^ m) &&& nm c ≠ 0 := by
  rw [and_ne, and_ne, List.any_eq_true]
  unfold pm nm
  simp only [pm_bit, nm_bit, Nat.zero_testBit, Bool.false_or, List.any_eq_true, decide_eq_true_eq]
  have hx : ∀ j, j ≤ 12 → (18446744073709551615 ^^^ m).testBit j = !m.testBit j := by
    intro j hj
    have e : 18446744073709551615 = 2 ^ 64 - 1 := by decide
    rw [e, Nat.testBit_xor, Nat.testBit_two_pow_sub_one]
    have : decide (j < 64) = true := by simp; omega
    rw [this]
    simp
  constructor
  · rintro ⟨n, hn, hl⟩
    have hb := hc n hn
    unfold lit at hl
    by_cases h : n > 0
    · rw [if_pos h] at hl
      exact Or.inl ⟨_, hl, n, hn, h, rfl⟩
    · rw [if_neg h] at hl
      exact Or.inr ⟨_, by rw [hx _ (by omega)]; exact hl, n, hn, h, rfl⟩
  · rintro (⟨j, h1, n, hn, h, rfl⟩ | ⟨j, h1, n, hn, h, rfl⟩)
    · refine ⟨n, hn, ?_⟩
      unfold lit
      rw [if_pos h]
      exact h1
    · refine ⟨n, hn, ?_⟩
      have hb := hc n hn
      unfold lit
      rw [if_neg h, ← hx _ (by omega)]
      exact h1

/-- The values that a number tells. -/
def vals (v m : Nat) : List Int := (List.range v).map (bi m)
theorem vals_len (v m : Nat) : (vals v m).length = v := by simp [vals]
theorem vals_get (v m i : Nat) (h : i < v) : (vals v m).getD i 0 = bi m i := by
  rw [gd _ _ _ (by rw [vals_len]; exact h)]
  simp [vals]
theorem bi_cases (m i : Nat) : bi m i = 0 ∨ bi m i = 1 := by unfold bi; split <;> simp
theorem l20Values_eq (v m : Nat) (hv : v ≤ 400) : Evt (fun k => spec_l20Values.f k (vals v m) v) true := by
  unfold spec_l20Values.f
  have hl := vals_len v m
  refine Evt.up (g := fun k i => spec_l20Values.l0 k (vals v m) (v : Int) (i : Int)) (R := fun _ => true) (n := v) ?_ ?_ 0 (Nat.zero_le _)
  · refine Evt.step (fun k => rfl) ?_
    simp only [spec_l20Values.l0]
    refine Evt.ite_neg (by omega) (Evt.const ?_)
    rw [hl]
    simp
  · intro i hi ih
    refine Evt.step (fun k => rfl) ?_
    simp only [spec_l20Values.l0, rdN, in_eq, Option.bind_some]
    refine Evt.ite_pos (by omega) (Evt.ite_pos (by omega) (Evt.ite_pos ?_ ?_))
    · rw [vals_get v m i hi]
      rcases bi_cases m i with h | h <;> rw [h] <;> decide
    · rw [wrap_succ hi (by omega)]
      exact ih
theorem l20Value_eq (v m : Nat) (hv : v ≤ 400) (n : Int) (h0 : n ≠ 0) (h1 : -(v : Int) ≤ n) (h2 : n ≤ v) : spec_l20Value.f (vals v m) n = some (if lit m n = true then 1 else 0) := by
  have hl := vals_len v m
  have hab := ab_eq (a := n) (by omega) (by omega)
  unfold spec_l20Value.f
  rw [l01Abs_eq]
  simp only [Option.bind_some]
  obtain ⟨j, hj, hjv⟩ : ∃ j : Nat, ab n - 1 = (j : Int) ∧ j < v := ⟨(ab n - 1).toNat, by rw [hab]; split <;> omega, by rw [hab]; split <;> omega⟩
  rw [w64 (n := ab n - 1) (by omega) (by omega), hj, rdN, vals_get v m j hjv, if_pos (by omega), if_pos (by omega)]
  have hb := bi_cases m j
  rw [if_pos (by omega)]
  by_cases hn : n < 0
  · rw [if_pos hn]
    have e : (-n - 1).toNat = j := by rw [if_pos hn] at hab; omega
    have el : lit m n = !m.testBit j := by
      unfold lit
      rw [if_neg (by omega), e]
    rw [el, w64 (n := 1 - bi m j) (by omega) (by omega)]
    unfold bi
    cases m.testBit j <;> rfl
  · rw [if_neg hn]
    have e : (n - 1).toNat = j := by rw [if_neg hn] at hab; omega
    have el : lit m n = m.testBit j := by
      unfold lit
      rw [if_pos (by omega), e]
    rw [el]
    unfold bi
    cases m.testBit j <;> rfl
theorem l20State_eq (v m : Nat) (hv : v ≤ 400) (c : List Int) (hc : Lits v c) (hl : c.length ≤ 1000000000) : Evt (fun k => spec_l20State.f k (vals v m) c) (c.any (lit m), 0, 0) := by
  unfold spec_l20State.f
  refine Evt.up (g := fun k i => spec_l20State.l0 k (vals v m) c 0 0 (i : Int)) (R := fun i => ((c.drop i).any (lit m), 0, 0)) (n := c.length) ?_ ?_ 0 (Nat.zero_le _)
  · refine Evt.step (fun k => rfl) ?_
    simp only [spec_l20State.l0]
    rw [List.drop_length]
    exact Evt.ite_neg (by omega) Evt.pure
  · intro i hi ih
    have hb := hc _ (getD_mem c i 0 hi)
    refine Evt.step (fun k => rfl) ?_
    simp only [spec_l20State.l0, rdN, l20Value_eq v m hv _ hb.1 hb.2.1 hb.2.2, Option.bind_some]
    refine Evt.ite_pos (by omega) (Evt.ite_pos (by omega) ?_)
    rw [wrap_succ hi (by omega), dropD c i 0 hi, List.any_cons]
    cases lit m (c.getD i 0)
    · exact Evt.ite_neg (by simp) (Evt.ite_neg (by simp) ih)
    · exact Evt.ite_pos (by simp) Evt.pure
theorem Satisfies_eq (v m : Nat) (cs : List (List Int)) (hL : LL cs) (h : fm v cs = true) : Evt (fun k => spec_Satisfies.f k v cs (vals v m)) (sat m cs) := by
  obtain ⟨⟨hv0, hv⟩, hl, hcl⟩ := fm_iff.1 h
  unfold spec_Satisfies.f
  have e : Evt (fun k => spec_l20Code.f k v cs (vals v m)) 0 := by
    unfold spec_l20Code.f
    have h1 := IsFormula_spec v cs hL
    rw [h] at h1
    exact h1.bind (Evt.ite_pos rfl ((l20Values_eq v m (by omega)).bind (Evt.ite_pos rfl Evt.pure)))
  refine e.bind (Evt.ite_pos rfl ?_)
  refine Evt.up (g := fun k i => spec_Satisfies.l0 k (vals v m) (i : Int) v cs) (R := fun i => sat m (cs.drop i)) (n := cs.length) ?_ ?_ 0 (Nat.zero_le _)
  · refine Evt.step (fun k => rfl) ?_
    simp only [spec_Satisfies.l0]
    rw [List.drop_length]
    exact Evt.ite_neg (by omega) Evt.pure
  · intro i hi ih
    have hm := getD_mem cs i [] hi
    refine Evt.step (fun k => rfl) ?_
    simp only [spec_Satisfies.l0, rdL1]
    refine Evt.ite_pos (by omega) (Evt.ite_pos (by omega) ?_)
    refine (l20State_eq v m (by omega) _ (cl_lits (by omega) _ 0 (by omega) (hcl _ hm)) (hL.2 _ hm)).bind ?_
    rw [wrap_succ hi (by omega), dropD cs i [] hi]
    unfold sat
    rw [List.all_cons]
    cases (cs.getD i []).any (lit m)
    · exact Evt.ite_neg (by simp) Evt.pure
    · refine Evt.ite_pos (by simp) ?_
      rw [Bool.true_and]
      exact ih

end Go.Proofs.Ytabmmhkikemdjaa.Pure

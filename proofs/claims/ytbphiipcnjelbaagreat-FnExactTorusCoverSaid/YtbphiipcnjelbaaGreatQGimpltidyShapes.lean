/- Written by a program of this session (wip/tools/pp.py) out of the translation, with the kit's printer. -/
import Derived.Test.YtbphiipcnjelbaaGreatQ0
import Derived.Test.YtbphiipcnjelbaaGreatQ10
import Derived.Test.YtbphiipcnjelbaaGreatQGimplcompareShapes
import Derived.LoopTactic
import Derived.Shelf.SlSortCmp.Whole1
import Derived.Test.YtbphiipcnjelbaaGreatShl
namespace Go.Proofs.YtbphiipcnjelbaaGreat.Q
open Go.RowKit Go.Proofs.YtbphiipcnjelbaaGreatW.PrintWords Go.Proofs.YtbphiipcnjelbaaGreatW.PrintLast Go.Proofs.YtbphiipcnjelbaaGreatW.PrintMore
attribute [local go_sem] max2_int min2_int max_two min_two max_three min_three max_four min_four
set_option linter.unusedVariables false
set_option linter.unusedSimpArgs false
def eqL : List S66 → List S66 → Bool
 | [], [] => true
 | a :: r, b :: s => (a.f0 == b.f0 && a.f1 == b.f1) && eqL r s
 | _, _ => false
theorem eqL_eq : ∀ (a b : List S66), eqL a b = true → a = b
 | [], [], _ => rfl
 | a :: r, b :: s, h => by
  simp only [eqL, Bool.and_eq_true, beq_iff_eq] at h
  obtain ⟨⟨h0, h1⟩, h2⟩ := h
  rw [eqL_eq r s h2]
  cases a; cases b
  simp at h0 h1
  rw [h0, h1]
 | [], _ :: _, h => by cases h
 | _ :: _, [], h => by cases h
theorem R_down {w : World} {base g n cap : Nat} {ok : Nat → Prop} {xs : List (List S66)} (h : Kd.R (Kd.slice 66 k66) 29 w base ok (.slice (some ⟨g, 0, none⟩) n cap) xs) :
  ∃ (enc : Nat → Value) (h1 : ∀ x, (enc x).oneCell' = true), (∀ x, ∃ A m c, enc x = .slice A m c) ∧ enc xs.length = .slice none 0 0 ∧ Kd.R (Kd.scalar enc h1) 29 w base ok (.slice (some ⟨g, 0, none⟩) n cap) (List.range xs.length) ∧ ∀ i, Kd.R k66 66 w base (fun k => ok k ∧ some k ≠ some g) (enc i) (xs.getD i []) := by
 obtain ⟨hok, inner, ho, hl, hr⟩ := h
 have hs : (Kd.slice 66 k66).sz = 1 := rfl
 rw [hs, Nat.mul_one] at hl
 have key : ∀ i, i < xs.length → ∃ v, inner[i]? = some v ∧ Kd.R k66 66 w base (fun k => ok k ∧ some k ≠ some g) v (xs.getD i []) := by
  intro i hi
  obtain ⟨v, e, hv⟩ := hr i _ (List.getElem?_eq_getElem hi)
  refine ⟨v, ?_, ?_⟩
  ·rw [hs, Nat.mul_one] at e
   rw [List.getElem?_eq_getElem (by omega)]
   rw [List.drop_eq_getElem_cons (show i < inner.length by omega), List.take_succ_cons] at e
   injection e with e _
   rw [e]
  ·have : xs.getD i [] = xs[i] := by simp [List.getD_eq_getElem?_getD, List.getElem?_eq_getElem hi]
   rw [this]
   exact hv
 have hrow : ∀ i, Kd.R k66 66 w base (fun k => ok k ∧ some k ≠ some g) (inner.getD i (.slice none 0 0)) (xs.getD i []) := by
  intro i
  by_cases hi : i < xs.length
  ·obtain ⟨v, e, hv⟩ := key i hi
   rw [List.getD_eq_getElem?_getD, e]
   exact hv
  ·have e1 : inner.getD i (.slice none 0 0) = .slice none 0 0 := by rw [List.getD_eq_getElem?_getD, List.getElem?_eq_none (by omega)]; rfl
   have e2 : xs.getD i [] = [] := by rw [List.getD_eq_getElem?_getD, List.getElem?_eq_none (by omega)]; rfl
   rw [e1, e2]
   exact Kd.R_nil _ _ _ _ _
 have hsl : ∀ x, ∃ A m c, inner.getD x (.slice none 0 0) = .slice A m c := by
  intro x
  obtain ⟨A, c, e⟩ := Kd.R_slice (hrow x)
  exact ⟨A, _, c, e⟩
 refine ⟨fun i => inner.getD i (.slice none 0 0), fun x => ?_, hsl, ?_, ⟨hok, inner, ?_, ?_, ?_⟩, hrow⟩
 ·obtain ⟨A, m, c, e⟩ := hsl x
  show (inner.getD x (.slice none 0 0)).oneCell' = true
  rw [e]
  rfl
 ·show inner.getD xs.length (.slice none 0 0) = _
  rw [List.getD_eq_getElem?_getD, List.getElem?_eq_none (by omega)]
  rfl
 ·rw [List.length_range]
  exact ho
 ·rw [List.length_range, hl]
  exact (Nat.mul_one _).symm
 ·intro j p hp
  obtain ⟨hj, e⟩ := List.getElem?_eq_some_iff.mp hp
  rw [List.getElem_range] at e
  subst e
  rw [List.length_range] at hj
  show (inner.drop (j * 1)).take 1 = [inner.getD j (.slice none 0 0)]
  rw [Nat.mul_one, List.drop_eq_getElem_cons (show j < inner.length by omega), List.take_succ_cons, List.take_zero, List.getD_eq_getElem?_getD, List.getElem?_eq_getElem (show j < inner.length by omega)]
  rfl
theorem R_up {w w' : World} {base g : Nat} {v : Value} {ok : Nat → Prop} {xs : List (List S66)} {enc : Nat → Value} {h1 : ∀ x, (enc x).oneCell' = true} {is : List Nat} (hv : v.ownBlock = some g) (h : Kd.R (Kd.scalar enc h1) 29 w' base ok v is) (hrow : ∀ i, Kd.R k66 66 w base (fun k => ok k ∧ some k ≠ some g) (enc i) (xs.getD i [])) (hg : w.grownBy w' (some g)) :
  Kd.R (Kd.slice 66 k66) 29 w' base ok v (is.map fun i => xs.getD i []) := by
 obtain ⟨hok, inner, ho, hl, hr⟩ := h
 refine ⟨hok, inner, ?_, ?_, ?_⟩
 ·rw [List.length_map]
  exact ho
 ·rw [List.length_map]
  exact hl
 ·intro j p hp
  rw [List.getElem?_map] at hp
  obtain ⟨i, hi, rfl⟩ := Option.map_eq_some_iff.mp hp
  have e : (inner.drop (j * 1)).take 1 = [enc i] := hr j i hi
  refine ⟨enc i, e, ?_⟩
  rw [hv]
  exact Kd.R_step (hrow i) (fun k hk hlt => hg.block k hlt hk.2)
theorem cmpC2_anti (a b : S66) : cmpC2 b a = - cmpC2 a b := by
 unfold cmpC2
 repeat (split)
 all_goals omega
theorem cmpC2_zero (a b : S66) : cmpC2 a b = 0 ↔ a.f1 = b.f1 ∧ a.f0 = b.f0 := by
 unfold cmpC2
 repeat (split)
 all_goals omega
theorem cmpC2_neg (a b : S66) : cmpC2 a b < 0 ↔ a.f1 < b.f1 ∨ (a.f1 = b.f1 ∧ a.f0 < b.f0) := by
 unfold cmpC2
 repeat (split)
 all_goals omega
theorem lexC_refl : ∀ a : List S66, lexC a a = 0
 | [] => rfl
 | a :: r => by
  unfold lexC
  rw [if_pos ((cmpC2_zero a a).2 ⟨rfl, rfl⟩)]
  exact lexC_refl r
theorem lexC_anti : ∀ a b : List S66, lexC b a = - lexC a b
 | [], [] => rfl
 | [], _ :: _ => rfl
 | _ :: _, [] => rfl
 | a :: r, b :: s => by
  unfold lexC
  rw [cmpC2_anti a b]
  by_cases h : cmpC2 a b = 0
  ·rw [if_pos (by omega), if_pos h]
   exact lexC_anti r s
  ·rw [if_neg (by omega), if_neg h]
theorem lexC_trans : ∀ a b c : List S66, lexC a b ≤ 0 → lexC b c ≤ 0 → lexC a c ≤ 0 ∧ (lexC a b < 0 ∨ lexC b c < 0 → lexC a c < 0)
 | [], b, [], h, h2 => by
  refine ⟨Int.le_refl _, fun hh => ?_⟩
  cases b with
  | nil => rcases hh with hh | hh <;> (simp [lexC] at hh)
  | cons y s => simp [lexC] at h2
 | [], b, z :: t, h, h2 => by simp [lexC]
 | x :: r, [], c, h, h2 => by simp [lexC] at h
 | x :: r, y :: s, [], h, h2 => by simp [lexC] at h2
 | x :: r, y :: s, z :: t, h, h2 => by
  unfold lexC at h h2 ⊢
  have e1 := cmpC2_zero x y
  have e2 := cmpC2_zero y z
  have e3 := cmpC2_zero x z
  have n1 := cmpC2_neg x y
  have n2 := cmpC2_neg y z
  have n3 := cmpC2_neg x z
  by_cases c1 : cmpC2 x y = 0
  ·rw [if_pos c1] at h ⊢
   by_cases c2 : cmpC2 y z = 0
   ·rw [if_pos c2] at h2 ⊢
    rw [if_pos (e3.2 ⟨(e1.1 c1).1.trans (e2.1 c2).1, (e1.1 c1).2.trans (e2.1 c2).2⟩)]
    exact lexC_trans r s t h h2
   ·rw [if_neg c2] at h2 ⊢
    have g1 := e1.1 c1
    have g2 := n2.1 (by omega)
    have g3 := n3.2 (by omega)
    rw [if_neg (by omega)]
    exact ⟨by omega, fun _ => g3⟩
  ·rw [if_neg c1] at h ⊢
   have g1 := n1.1 (by omega)
   by_cases c2 : cmpC2 y z = 0
   ·have g2 := e2.1 c2
    have g3 := n3.2 (by omega)
    rw [if_neg (show ¬ cmpC2 x z = 0 by omega)]
    exact ⟨by omega, fun _ => g3⟩
   ·rw [if_neg c2] at h2
    have g2 := n2.1 (by omega)
    have g3 := n3.2 (by omega)
    rw [if_neg (show ¬ cmpC2 x z = 0 by omega)]
    exact ⟨by omega, fun _ => g3⟩
theorem cmpS_neg (a b : List S66) : cmpS a b < 0 ↔ a.length < b.length ∨ (a.length = b.length ∧ lexC a b < 0) := by
 unfold cmpS
 split
 ·omega
 ·split <;> omega
theorem cmpS_swo (x : Nat → List S66) : Sort.SWO (ltOf fun i j => cmpS (x i) (x j)) where
 irrefl i := by
  unfold ltOf
  rw [decide_eq_false_iff_not, cmpS_neg, lexC_refl]
  omega
 trans i j k h1 h2 := by
  unfold ltOf at *
  rw [decide_eq_true_eq, cmpS_neg] at *
  rcases h1 with h1 | ⟨h1, g1⟩ <;> rcases h2 with h2 | ⟨h2, g2⟩
  ·omega
  ·omega
  ·omega
  ·exact Or.inr ⟨by omega, (lexC_trans _ _ _ (by omega) (by omega)).2 (Or.inl g1)⟩
 ntrans i j k h1 h2 := by
  unfold ltOf at *
  rw [decide_eq_false_iff_not, cmpS_neg] at *
  rintro (h3 | ⟨h3, g3⟩)
  ·omega
  ·by_cases e1 : (x i).length = (x j).length
   ·have a1 : 0 ≤ lexC (x i) (x j) := by omega
    have a2 : 0 ≤ lexC (x j) (x k) := by omega
    have b1 := lexC_anti (x i) (x j)
    have b2 := lexC_anti (x j) (x k)
    have b3 := lexC_anti (x i) (x k)
    have := (lexC_trans (x k) (x j) (x i) (by omega) (by omega)).1
    omega
   ·omega
theorem holdsH {w : World} {base g n cap : Nat} {ok : Nat → Prop} {enc : Nat → Value} {h1 : ∀ x, (enc x).oneCell' = true} {is : List Nat} (h : Kd.R (Kd.scalar enc h1) 29 w base ok (.slice (some ⟨g, 0, none⟩) n cap) is) : Sort.Holds enc w g 0 is.toArray := by
 intro j hj
 have hn := (Kd.R_reads' h).1
 have hj2 : j < n := by simpa [hn] using hj
 obtain ⟨c0, f0⟩ := cellsH h j hj2
 rw [Nat.zero_add]
 have e : is.toArray[j]! = is.getD j 0 := by
  rw [getElem!_pos is.toArray j hj]
  simp [List.getD_eq_getElem?_getD, List.getElem?_eq_getElem (show j < is.length by omega)]
 rw [e]
 exact ⟨c0, f0⟩
theorem putRowH {w : World} {base g n cap : Nat} {ok : Nat → Prop} {enc : Nat → Value} {h1 : ∀ x, (enc x).oneCell' = true} {is : List Nat} (h : Kd.R (Kd.scalar enc h1) 29 w base ok (.slice (some ⟨g, 0, none⟩) n cap) is) (ys : List Nat) (hl : ys.length = is.length) :
  Kd.R (Kd.scalar enc h1) 29 (Sort.putRow enc w g 0 ys.toArray) base ok (.slice (some ⟨g, 0, none⟩) n cap) ys ∧ w.grownBy (Sort.putRow enc w g 0 ys.toArray) (some g) := by
 have hn := (Kd.R_reads' h).1
 have key : ∀ i, i ≤ n → Kd.R (Kd.scalar enc h1) 29 (Sort.putRow enc w g 0 (ys.take i ++ is.drop i).toArray) base ok (.slice (some ⟨g, 0, none⟩) n cap) (ys.take i ++ is.drop i) ∧ w.grownBy (Sort.putRow enc w g 0 (ys.take i ++ is.drop i).toArray) (some g) := by
  intro i
  induction i with
  | zero =>
   intro _
   rw [List.take_zero, List.drop_zero, List.nil_append]
   have e : Sort.putRow enc w g 0 is.toArray = w := Sort.putRow_self _ _ _ _ _ (holdsH h)
   rw [e]
   exact ⟨h, ⟨rfl, rfl, rfl, Nat.le_refl _, fun _ _ _ => rfl⟩⟩
  | succ i ih =>
   intro hi
   obtain ⟨h2, g1⟩ := ih (by omega)
   have hy : i < ys.length := by omega
   have hxs : i < is.length := by omega
   have hlen : (ys.take i).length = i := by rw [List.length_take]; omega
   have hcat : (ys.take i ++ is.drop i).set i ys[i] = ys.take (i + 1) ++ is.drop (i + 1) := by
    rw [List.drop_eq_getElem_cons hxs, List.set_append_right _ _ (by omega), hlen, Nat.sub_self, List.set_cons_zero, List.take_add_one, List.getElem?_eq_getElem hy]
    simp only [Option.toList_some, List.append_assoc, List.cons_append, List.nil_append]
   obtain ⟨h3, g2⟩ := putH h2 i (by omega) ys[i]
   have hw : (Sort.putRow enc w g 0 (ys.take i ++ is.drop i).toArray).setCell ⟨g, i, none⟩ (enc ys[i]) = Sort.putRow enc w g 0 (ys.take (i + 1) ++ is.drop (i + 1)).toArray := by
    have hsz : i < (ys.take i ++ is.drop i).toArray.size := by simp; omega
    have e1 := Sort.putRow_set enc w g 0 (ys.take i ++ is.drop i).toArray i ys[i] hsz
    rw [Nat.zero_add] at e1
    rw [e1]
    congr 1
    rw [← hcat]
    simp
   rw [hw, hcat] at h3
   rw [hw] at g2
   exact ⟨h3, grown_thenH g1 g2⟩
 have := key n (Nat.le_refl _)
 rw [List.take_of_length_le (by omega), List.drop_of_length_le (by omega), List.append_nil] at this
 exact this
theorem cmpH_mem {x : Nat → List S66} {E : Nat → Nat → Bool} (hE : ∀ i j, E i j = true → x i = x j) (is : List Nat) : ∀ m, m ≤ is.length → ∀ a, a ∈ (cmpH E is m).map x ↔ a ∈ (is.take m).map x
 | 0, _, a => by simp [cmpH]
 | m + 1, hm, a => by
  have ih := cmpH_mem hE is m (by omega)
  have ht : is.take (m + 1) = is.take m ++ [is.getD m 0] := by
   rw [List.take_succ_eq_append_getElem (by omega)]
   simp [List.getD_eq_getElem?_getD, List.getElem?_eq_getElem (show m < is.length by omega)]
  rw [ht, cmpH, List.map_append, List.mem_append, List.map_append, List.mem_append, ih a]
  by_cases h : 0 < m ∧ E (is.getD m 0) (is.getD (m - 1) 0) = true
  ·rw [if_pos h]
   have e := hE _ _ h.2
   have hin : x (is.getD (m - 1) 0) ∈ (is.take m).map x := by
    refine List.mem_map.2 ⟨_, ?_, rfl⟩
    rw [List.mem_take_iff_getElem]
    refine ⟨m - 1, by omega, ?_⟩
    simp [List.getD_eq_getElem?_getD, List.getElem?_eq_getElem (show m - 1 < is.length by omega)]
   constructor
   ·rintro (h1 | h1)
    ·exact Or.inl h1
    ·simp at h1
   ·rintro (h1 | h1)
    ·exact Or.inl h1
    ·simp only [List.map_cons, List.map_nil, List.mem_singleton] at h1
     rw [h1, e]
     exact Or.inl hin
  ·rw [if_neg h]
theorem cmpH_len (E : Nat → Nat → Bool) (is : List Nat) : ∀ m, (cmpH E is m).length ≤ m
 | 0 => Nat.le_refl _
 | m + 1 => by
  have := cmpH_len E is m
  rw [cmpH, List.length_append]
  split
  ·simp; omega
  ·simp; omega
theorem range_map (xs : List (List S66)) : (List.range xs.length).map (fun i => xs.getD i []) = xs := by
 refine List.ext_getElem (by simp) fun i h1 h2 => ?_
 simp [List.getD_eq_getElem?_getD, List.getElem?_eq_getElem h2]
set_option maxRecDepth 100000 in
set_option maxHeartbeats 1600000 in
theorem impl_tidyShapes.own (w : World) (base : Nat) (ok : Nat → Prop) (v : Value) (xs : List (List S66)) (h : Kd.R (Kd.slice 66 k66) 29 w base ok v xs) (hp : 0 < xs.length) (hl : xs.length ≤ 1000)
  (hE : ∀ i j, ∃ k, impl_equalShapes.f k (xs.getD i []) (xs.getD j []) = some (eqL (xs.getD i []) (xs.getD j []))) :
  Calls Tryz.prog 68 #[v] w fun e w' => ∃ v' ys, e = .returned v' ∧ ((∀ a, a ∈ ys ↔ a ∈ xs) ∧ ys.length ≤ xs.length) ∧ Kd.R (Kd.slice 66 k66) 29 w' base ok v' ys ∧ w.grownBy w' v.ownBlock := by
 obtain ⟨g, cap, rfl, hb, hg, _⟩ := Kd.R_form h hp
 obtain ⟨enc, h1, hsl, hnz, hR, hrow⟩ := R_down h
 have HROW := Aside0.mk hrow
 have HE := Aside0.mk hE
 have HSL := Aside0.mk hsl
 have HNZ := Aside0.mk hnz
 have HR := Aside0.mk hR
 clear h hrow hE hsl hnz hR
 have hread : ∀ (W : World), w.grownBy W (some g) → ∀ i, ∃ A c, enc i = .slice A (xs.getD i []).length c ∧ (xs.getD i []).length ≤ c ∧ Kd.C k66 W A (xs.getD i []).length (xs.getD i []) := by
  intro W hW i
  have h2 := Kd.R_step (w1 := W) (HROW.out i) (fun k hk hlt => hW.block k hlt hk.2)
  exact Kd.R_reads h2
 have hcmp : CmpLays1 Tryz.prog 87 #[] enc (fun i j => cmpS (xs.getD i []) (xs.getD j [])) g 0 (List.range xs.length).toArray.size w := by
  intro m os dk hdk i j
  have hW : w.grownBy (sortWorld enc w g 0 m dk os) (some g) := by
   have hA : Kd.R (Kd.scalar enc h1) 29 (Sort.ahead w m) base ok (.slice (some ⟨g, 0, none⟩) xs.length cap) (List.range xs.length) := Kd.R_drewN HR.out m
   obtain ⟨_, g1⟩ := putRowH hA dk.toList (by simpa using hdk)
   refine ⟨g1.os, g1.tape, g1.output, Nat.le_trans g1.size (by
    have h9 := Sort.size_grow (Sort.putRow enc (Sort.ahead w m) g 0 dk.toList.toArray) os
    show _ ≤ (Sort.grow (Sort.putRow enc (Sort.ahead w m) g 0 dk.toList.toArray) os).heap.size
    omega), fun k hk hne => (Sort.heap_grow_old _ _ (Nat.lt_of_lt_of_le hk g1.size)).trans (g1.block k hk hne)⟩
  obtain ⟨A, ca, ea, la, ra⟩ := hread _ hW i
  obtain ⟨B, cb, eb, lb, rb⟩ := hread _ hW j
  rw [ea, eb]
  exact impl_compareShapes.lays _ _ A B ca cb _ ra rb la lb
 have eg : ∀ args w, (callFunc 87 args).run Tryz.prog w = .ok (.enter 87 args) w := enters_of Tryz.func87 (by kernel_rfl) rfl
 have hcon := Any.slices_SortFunc Tryz.sortS enc (fun x => h1 x) (fun i j => cmpS (xs.getD i []) (xs.getD j [])) (cmpS_swo fun i => xs.getD i []) 87 #[] g 0 cap (List.range xs.length).toArray w eg hcmp (holdsH HR.out) hg (by simp; omega)
 change Calls Tryz.prog 86 _ _ _ at hcon
 have hsz : (List.range xs.length).toArray.size = xs.length := by simp
 rw [hsz] at hcon
 have HC := Aside0.mk hcon
 clear hcmp hcon
 have hcm := fun (W : World) (is : List Nat) (hW : w.grownBy W (some g)) (hI : Kd.R (Kd.scalar enc h1) 29 W base ok (.slice (some ⟨g, 0, none⟩) is.length cap) is) (hil : is.length ≤ 1000) =>
  compactH (fun i j => eqL (xs.getD i []) (xs.getD j [])) xs.length HNZ.out HSL.out W base g cap ok is hI hil (fun W' i j hW' => by
   obtain ⟨A, ca, ea, la, ra⟩ := hread W' (grown_thenH hW hW') i
   obtain ⟨B, cb, eb, lb, rb⟩ := hread W' (grown_thenH hW hW') j
   obtain ⟨k, hk⟩ := HE.out i j
   rw [ea, eb]
   exact impl_equalShapes.calls k A ca _ B cb _ _ W' ra la rb lb hk)
 have HCM := Aside0.mk hcm
 clear hcm eg
 go_enter Tryz.func68, Tryz.ntmps68
 go_wp2_with (go_at_call 86; fail)
 refine HC.out.mono ?_
 rintro e w1 ⟨rfl, d, n, os, hperm, _, hw1⟩
 obtain ⟨hds, _, hp2⟩ := hperm
 have hdl : d.toList.length = xs.length := by simpa using hds
 have hP : d.toList.Perm (List.range xs.length) := by
  have hdz : d.size = xs.length := by simpa using hds
  have e1 : d.extract 0 xs.length = d := by rw [← hdz]; simp
  have e2 : ((List.range xs.length).toArray.extract 0 xs.length).toList = List.range xs.length := by
   have e3 : (List.range xs.length).toArray.extract 0 (List.range xs.length).toArray.size = (List.range xs.length).toArray := by simp
   rw [hsz] at e3
   rw [e3]
  rw [e1, e2] at hp2
  exact hp2
 have hA : Kd.R (Kd.scalar enc h1) 29 (Sort.ahead w n) base ok (.slice (some ⟨g, 0, none⟩) xs.length cap) (List.range xs.length) := Kd.R_drewN HR.out n
 obtain ⟨h2, g1⟩ := putRowH hA d.toList (by rw [hdl]; simp)
 have hR1 : Kd.R (Kd.scalar enc h1) 29 w1 base ok (.slice (some ⟨g, 0, none⟩) xs.length cap) d.toList := by
  rw [hw1]
  exact Kd.R_step h2 (fun k _ hk => Sort.heap_grow_old _ _ hk)
 have hG1 : w.grownBy w1 (some g) := by
  rw [hw1]
  refine ⟨g1.os, g1.tape, g1.output, Nat.le_trans g1.size (by
   have h9 := Sort.size_grow (Sort.putRow enc (Sort.ahead w n) g 0 d.toList.toArray) os
   show _ ≤ (Sort.grow (Sort.putRow enc (Sort.ahead w n) g 0 d.toList.toArray) os).heap.size
   omega), fun k hk hne => (Sort.heap_grow_old _ _ (Nat.lt_of_lt_of_le hk g1.size)).trans (g1.block k hk hne)⟩
 rw [← hdl] at hR1
 have hc2 := HCM.out w1 d.toList hG1 hR1 (by omega)
 rw [hdl] at hc2
 have HC2 := Aside0.mk hc2
 have HG1 := Aside0.mk hG1
 have HP := Aside0.mk hP
 have HDL := Aside0.mk hdl
 clear hc2 hG1 hR1 h2 g1 hA hP hw1 hp2 hds hdl HC HCM
 go_wp2_with (go_at_call 88; fail)
 refine HC2.out.mono ?_
 rintro e w2 ⟨v2, rfl, hR2, hv2, hG2⟩
 have HF := Aside0.mk (R_up hv2 hR2 HROW.out (grown_thenH HG1.out hG2))
 have HG := Aside0.mk (grown_thenH HG1.out hG2)
 clear hR2 hv2 hG2
 go_wp2
 go_ret
 refine ⟨_, _, rfl, ⟨fun a => ?_, by rw [List.length_map, ← HDL.out]; exact cmpH_len _ _ _⟩, HF.out, HG.out⟩
 have h1 := cmpH_mem (x := fun i => xs.getD i []) (E := fun i j => eqL (xs.getD i []) (xs.getD j [])) (fun i j h => eqL_eq _ _ h) d.toList xs.length (by rw [HDL.out]; exact Nat.le_refl _) a
 rw [h1, List.take_of_length_le (by rw [HDL.out]; exact Nat.le_refl _)]
 have h2 := (HP.out.map fun i => xs.getD i []).mem_iff (a := a)
 rw [h2, range_map]
end Go.Proofs.YtbphiipcnjelbaaGreat.Q

/- Written by a program of this session (wip/tools/pp.py) out of the translation, with the kit's printer. -/
import Derived.Test.YtlnhjaokcgcdpaaQ0
import Derived.Test.YtlnhjaokcgcdpaaQ7
import Derived.Shelf.SlSortCmp.NoneTotal
import Derived.Test.YtlnhjaokcgcdpaaShl
namespace Go.Proofs.Ytlnhjaokcgcdpaa.Q
open Go.RowKit Go.Proofs.YtlnhjaokcgcdpaaW.PrintWords Go.Proofs.YtlnhjaokcgcdpaaW.PrintLast Go.Proofs.YtlnhjaokcgcdpaaW.PrintMore
attribute [local go_sem] max2_int min2_int max_two min_two max_three min_three max_four min_four
set_option linter.unusedVariables false
set_option linter.unusedSimpArgs false

/-! ### slices.SortFunc of cells by compareCells: the shelf's contract, told of an own row -/
instance : Inhabited S34 := ⟨z34⟩
def encC (x : S34) : List Value := [.int .i64 x.f0, .int .i64 x.f1]
/-- What compareCells gives. -/
def cmpC2 (a b : S34) : Int := if a.f1 < b.f1 then -1 else if b.f1 < a.f1 then 1 else if a.f0 < b.f0 then -1 else if b.f0 < a.f0 then 1 else 0
theorem cmpI_ok (x y : Int) : cmp_Compare_int64.f x y = some (if x < y then -1 else if y < x then 1 else 0) := by
  unfold cmp_Compare_int64.f cmp_isNaN_int64.f
  simp
  split <;> (try split) <;> (try rfl) <;> omega
theorem drew_grow (W : World) (os : Array Obj) (n : Nat) : (Sort.grow W os).drewN n = Sort.grow (W.drewN n) os := rfl
set_option maxRecDepth 100000 in
set_option maxHeartbeats 1000000 in
theorem cmp_lays (a b : S34) (W : World) : Calls Try.prog 24 #[.agg #[.int .i64 a.f0, .int .i64 a.f1], .agg #[.int .i64 b.f0, .int .i64 b.f1]] W fun e w' => e = .returned (.int .i64 (cmpC2 a b)) ∧ ∃ q os', w' = Sort.grow (W.drewN q) os' := by
  have hu34 := Try.underlying34
  have h1 := cmpI_ok a.f1 b.f1
  have h2 := cmpI_ok a.f0 b.f0
  generalize hr : (if a.f1 < b.f1 then (-1 : Int) else if b.f1 < a.f1 then 1 else 0) = r at h1
  generalize hs : (if a.f0 < b.f0 then (-1 : Int) else if b.f0 < a.f0 then 1 else 0) = s at h2
  have e : cmpC2 a b = if r = 0 then s else r := by
    unfold cmpC2
    rw [← hr, ← hs]
    split
    · rfl
    · split
      · rfl
      · rfl
  rw [e]
  have HA := Aside0.mk h1
  have HB := Aside0.mk h2
  clear h1 h2 hr hs e
  by_cases h0 : r = 0
  · rw [if_pos h0]
    subst h0
    go_enter Try.func24, Try.ntmps24
    go_wp2_with (first
      | (go_at_call 29; (with_reducible refine (cmp_Compare_int64.calls a.f1 b.f1 0 _ HA.out).mono ?_); rintro e w' ⟨rfl, ⟨n1, rfl⟩⟩)
      | (go_at_call 29; (with_reducible refine (cmp_Compare_int64.calls a.f0 b.f0 s _ HB.out).mono ?_); rintro e w' ⟨rfl, ⟨n2, rfl⟩⟩))
    go_ret
    exact ⟨rfl, _, _, by simp only [Sort.alloc_eq_grow, Sort.grow_grow, drew_grow]; rfl⟩
  · rw [if_neg h0]
    have hb0 : (r == 0) = false := by simpa using h0
    have hb1 : (r != 0) = true := by simpa using h0
    go_enter Try.func24, Try.ntmps24
    go_wp2_with (go_at_call 29; (with_reducible refine (cmp_Compare_int64.calls a.f1 b.f1 r _ HA.out).mono ?_); rintro e w' ⟨rfl, ⟨n1, rfl⟩⟩)
    go_ret
    exact ⟨rfl, _, _, by simp only [Sort.alloc_eq_grow, Sort.grow_grow, drew_grow]; rfl⟩
theorem holdsC {w : World} {base g n cap : Nat} {ok : Nat → Prop} {xs : List S34} (h : Kd.R k34 34 w base ok (.slice (some ⟨g, 0, none⟩) n cap) xs) : Sort.HoldsK encC 2 w g 0 xs.toArray := by
  intro j hj
  have hn := (Kd.R_reads' h).1
  have hj2 : j < xs.toArray.size * 2 := by simpa using hj
  have hi : j / 2 < n := by simp at hj2; omega
  obtain ⟨ce, hcl, hM, hcc, hfr⟩ := Kd.R_elem h z34 ((j / 2 : Nat) : Int) (by omega) (by omega)
  obtain rfl := k34_openM hM
  rw [Sort.get_flatK _ _ _ _ hj2]
  have hx : xs.toArray[j / 2]! = xs.getD (j / 2) z34 := by
    rw [getElem!_pos _ _ (by simp; omega)]
    simp [List.getD_eq_getElem?_getD, List.getElem?_eq_getElem (show j / 2 < xs.length by omega)]
  rw [hx]
  have hm : j % 2 = 0 ∨ j % 2 = 1 := by omega
  rw [Int.toNat_natCast] at hcc hfr
  rcases hm with hm | hm
  · have e : 0 + j = j / 2 * 2 + 0 := by omega
    rw [hm, e]
    exact ⟨hcc 0 _ rfl, hfr 0⟩
  · have e : 0 + j = j / 2 * 2 + 1 := by omega
    rw [hm, e]
    exact ⟨hcc 1 _ rfl, hfr 1⟩
theorem flat_set (d : Array S34) (i : Nat) (hi : i < d.size) (x : S34) : Sort.setMany (Sort.flatK encC 2 d) (i * 2) (encC x) = Sort.flatK encC 2 (d.set i x) := by
  refine Sort.ext_get! (by simp) fun t ht => ?_
  have ht' : t < d.size * 2 := by simpa using ht
  rw [Sort.get_setMany _ _ _ t (by simpa using ht'), Sort.get_flatK encC 2 d t ht', Sort.get_flatK encC 2 (d.set i x) t (by simpa using ht')]
  have hl : (encC x).length = 2 := rfl
  rw [hl]
  by_cases b : t / 2 = i
  · rw [if_pos (by omega), show t - i * 2 = t % 2 by omega]
    subst b
    simp [getElem!_pos, hi]
  · rw [if_neg (by omega)]
    have : (d.set i x)[t / 2]! = d[t / 2]! := by
      rw [getElem!_pos _ _ (by simp; omega), getElem!_pos d _ (by omega)]
      rw [Array.getElem_set_ne _ _ (fun e => b e.symm)]
    rw [this]
theorem putC {w : World} {base g n cap : Nat} {ok : Nat → Prop} {xs : List S34} (h : Kd.R k34 34 w base ok (.slice (some ⟨g, 0, none⟩) n cap) xs) (ys : List S34) (hl : ys.length = xs.length) :
    Kd.R k34 34 (Sort.putRowK encC 2 w g 0 ys.toArray) base ok (.slice (some ⟨g, 0, none⟩) n cap) ys ∧ w.grownBy (Sort.putRowK encC 2 w g 0 ys.toArray) (some g) := by
  have hn := (Kd.R_reads' h).1
  have key : ∀ i, i ≤ n → Kd.R k34 34 (Sort.putRowK encC 2 w g 0 (ys.take i ++ xs.drop i).toArray) base ok (.slice (some ⟨g, 0, none⟩) n cap) (ys.take i ++ xs.drop i) ∧ w.grownBy (Sort.putRowK encC 2 w g 0 (ys.take i ++ xs.drop i).toArray) (some g) := by
    intro i
    induction i with
    | zero =>
      intro _
      rw [List.take_zero, List.drop_zero, List.nil_append]
      have e : Sort.putRowK encC 2 w g 0 xs.toArray = w := Sort.putRow_self _ _ _ _ _ (holdsC h)
      rw [e]
      exact ⟨h, ⟨rfl, rfl, rfl, Nat.le_refl _, fun _ _ _ => rfl⟩⟩
    | succ i ih =>
      intro hi
      obtain ⟨h1, g1⟩ := ih (by omega)
      have hy : i < ys.length := by omega
      have hxs : i < xs.length := by omega
      have hlen : (ys.take i).length = i := by rw [List.length_take]; omega
      have hcat : (ys.take i ++ xs.drop i).set i ys[i] = ys.take (i + 1) ++ xs.drop (i + 1) := by
        rw [List.drop_eq_getElem_cons hxs, List.set_append_right _ _ (by omega), hlen, Nat.sub_self, List.set_cons_zero, List.take_add_one, List.getElem?_eq_getElem hy]
        simp only [Option.toList_some, List.append_assoc, List.cons_append, List.nil_append]
      obtain ⟨ce, hcl, hM, hcc, hfr⟩ := Kd.R_elem h1 z34 (i : Int) (by omega) (by omega)
      have hs := Kd.R_seg h1 (i : Int) (by omega) (by omega) (seg := encC ys[i]) (j := 0) (x' := ys[i]) (okp := fun k => ok k ∧ k ≠ g) hcl hcc (show 2 ≤ 2 from Nat.le_refl _) (by
        have hce : ce.length = 2 := hcl
        have e3 : ce.take 0 ++ encC ys[i] ++ ce.drop (0 + (encC ys[i]).length) = encC ys[i] := by
          have e4 : ce.drop (0 + (encC ys[i]).length) = [] := List.drop_of_length_le (by rw [hce]; exact Nat.le_refl 2)
          rw [e4, List.take_zero, List.nil_append, List.append_nil]
        rw [e3]
        exact k34_mkM _ _ _ ys[i]) (fun _ h => h)
      have hw : (Sort.putRowK encC 2 w g 0 (ys.take i ++ xs.drop i).toArray).setCells g ((i : Int).toNat * 2 + 0) (encC ys[i]) = Sort.putRowK encC 2 w g 0 (ys.take (i + 1) ++ xs.drop (i + 1)).toArray := by
        have e1 := Sort.setCells_putRow w g 0 (encC ys[i]) (i * 2) (Sort.flatK encC 2 (ys.take i ++ xs.drop i).toArray) (by
          have : (encC ys[i]).length = 2 := rfl
          rw [this, Sort.size_flatK]
          simp
          omega)
        rw [flat_set _ i (by simp; omega)] at e1
        have e2 : ((ys.take i ++ xs.drop i).toArray.set i ys[i] (by simp; omega)) = (ys.take (i + 1) ++ xs.drop (i + 1)).toArray := by
          rw [← hcat]
          simp
        rw [e2] at e1
        rw [Int.toNat_natCast, Nat.add_zero]
        rw [Nat.zero_add] at e1
        exact e1
      have hd : k34.sz = 2 := rfl
      rw [hd, hw, Int.toNat_natCast, hcat] at hs
      exact ⟨hs.1, ⟨hs.2.os.trans g1.os, hs.2.tape.trans g1.tape, hs.2.output.trans g1.output, Nat.le_trans g1.size hs.2.size, fun k hk hne => (hs.2.block k (Nat.lt_of_lt_of_le hk g1.size) hne).trans (g1.block k hk hne)⟩⟩
  have := key n (Nat.le_refl _)
  rw [List.take_of_length_le (by omega), List.drop_of_length_le (by omega), List.append_nil] at this
  exact this
theorem cmp_lt (x y : S34) : ltOf cmpC2 x y = decide (x.f1 < y.f1 ∨ (x.f1 = y.f1 ∧ x.f0 < y.f0)) := by
  unfold ltOf cmpC2
  congr 1
  apply propext
  split
  · constructor <;> intro <;> omega
  · split
    · constructor <;> intro <;> omega
    · split
      · constructor <;> intro <;> omega
      · split
        · constructor <;> intro <;> omega
        · constructor <;> intro <;> omega
theorem cmp_swo : Sort.SWO (ltOf cmpC2) where
  irrefl x := by rw [cmp_lt]; simp
  trans x y z h1 h2 := by rw [cmp_lt] at *; simp at *; omega
  ntrans x y z h1 h2 := by rw [cmp_lt] at *; simp at *; omega
theorem cmp_tot (x y : S34) (h1 : ltOf cmpC2 x y = false) (h2 : ltOf cmpC2 y x = false) : x = y := by
  rw [cmp_lt] at h1 h2
  simp at h1 h2
  cases x; cases y
  simp at *
  omega
/-- Cells in order. -/
def sortC (xs : List S34) : List S34 := xs.mergeSort fun x y => !(ltOf cmpC2) y x
theorem sortC_len (xs : List S34) : (sortC xs).length = xs.length := List.length_mergeSort _
set_option maxRecDepth 100000 in
set_option maxHeartbeats 1000000 in
theorem impl_Cell_26.own (w : World) (base : Nat) (ok : Nat → Prop) (v : Value) (xs : List S34) (h : Kd.R k34 34 w base ok v xs) (hl : xs.length ≤ 1000000000) :
    Calls Try.prog 26 #[v, .func (.func 24) #[] #[]] w fun e w' => e = .returned (.tuple #[]) ∧ Kd.R k34 34 w' base ok v (sortC xs) ∧ w.grownBy w' v.ownBlock := by
  by_cases hp : 0 < xs.length
  · obtain ⟨g, cap, rfl, hb, hg, _⟩ := Kd.R_form h hp
    have eg : ∀ args w, (callFunc 24 args).run Try.prog w = .ok (.enter 24 args) w := enters_of Try.func24 (by kernel_rfl) rfl
    have hcon := AnyQ.slices_SortFunc_total Try.sortC 2 Try.isAgg34 Try.sizeOf34 encC (fun _ => rfl) (fun x v hv => by simp [encC] at hv; rcases hv with rfl | rfl <;> rfl) cmpC2 cmp_swo 24 #[] g 0 cap xs.toArray w eg (fun _ _ _ _ x y => cmp_lays x y _) (holdsC h) hg (by simp; omega) cmp_tot
    change Calls Try.prog 26 _ _ _ at hcon
    have hsz : xs.toArray.size = xs.length := by simp
    rw [hsz] at hcon
    refine hcon.mono ?_
    rintro e w' ⟨rfl, n, os, rfl⟩
    have hA : Kd.R k34 34 (Sort.ahead w n) base ok (.slice (some ⟨g, 0, none⟩) xs.length cap) xs := Kd.R_drewN h n
    obtain ⟨h1, g1⟩ := putC hA (sortC xs) (sortC_len xs)
    refine ⟨rfl, Kd.R_step h1 (fun k _ hk => Sort.heap_grow_old _ _ hk), ⟨g1.os, g1.tape, g1.output, Nat.le_trans g1.size (by
      have h9 := Sort.size_grow (Sort.putRowK encC 2 (Sort.ahead w n) g 0 (sortC xs).toArray) os
      show _ ≤ (Sort.grow (Sort.putRowK encC 2 (Sort.ahead w n) g 0 (sortC xs).toArray) os).heap.size
      omega), fun k hk hne => (Sort.heap_grow_old _ _ (Nat.lt_of_lt_of_le hk g1.size)).trans (g1.block k hk hne)⟩⟩
  · obtain rfl : xs = [] := List.length_eq_zero_iff.mp (by omega)
    obtain ⟨A, c, rfl⟩ := Kd.R_slice h
    have hcon := AnyF.slices_SortFunc_none { Try.sortC with } A c (.func (.func 24) #[] #[]) w
    change Calls Try.prog 26 _ _ _ at hcon
    refine hcon.mono ?_
    rintro e w' ⟨rfl, rfl⟩
    have e0 : sortC [] = [] := by unfold sortC; simp
    rw [e0]
    exact ⟨rfl, h, ⟨rfl, rfl, rfl, Nat.le_refl _, fun _ _ _ => rfl⟩⟩

end Go.Proofs.Ytlnhjaokcgcdpaa.Q

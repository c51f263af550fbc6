/- Written by a program of this session (wip/tools/pp.py) out of the translation, with the kit's printer. -/
import Derived.Test.YtbphiipcnjelbaaGreatQ0
import Derived.Test.YtbphiipcnjelbaaGreatQGimplcompareShapes
import Derived.Laws.Cover3
import Derived.LoopTactic
import Derived.Shelf.SlSortCmp.NoneTotal
import Derived.Test.YtbphiipcnjelbaaGreatShl
namespace Go.Proofs.YtbphiipcnjelbaaGreat.Q
open Go.RowKit Go.Proofs.YtbphiipcnjelbaaGreatW.PrintWords Go.Proofs.YtbphiipcnjelbaaGreatW.PrintLast Go.Proofs.YtbphiipcnjelbaaGreatW.PrintMore
attribute [local go_sem] max2_int min2_int max_two min_two max_three min_three max_four min_four
set_option linter.unusedVariables false
set_option linter.unusedSimpArgs false
instance : Inhabited S66 := ⟨z66⟩
def encC (x : S66) : List Value := [.int .i64 x.f0, .int .i64 x.f1]
theorem holdsC {w : World} {base g n cap : Nat} {ok : Nat → Prop} {xs : List S66} (h : Kd.R k66 66 w base ok (.slice (some ⟨g, 0, none⟩) n cap) xs) : Sort.HoldsK encC 2 w g 0 xs.toArray := by
 intro j hj
 have hn := (Kd.R_reads' h).1
 have hj2 : j < xs.toArray.size * 2 := by simpa using hj
 have hi : j / 2 < n := by simp at hj2; omega
 obtain ⟨ce, hcl, hM, hcc, hfr⟩ := Kd.R_elem h z66 ((j / 2 : Nat) : Int) (by omega) (by omega)
 obtain rfl := k66_openM hM
 rw [Sort.get_flatK _ _ _ _ hj2]
 have hx : xs.toArray[j / 2]! = xs.getD (j / 2) z66 := by
  rw [getElem!_pos _ _ (by simp; omega)]
  simp [List.getD_eq_getElem?_getD, List.getElem?_eq_getElem (show j / 2 < xs.length by omega)]
 rw [hx]
 have hm : j % 2 = 0 ∨ j % 2 = 1 := by omega
 rw [Int.toNat_natCast] at hcc hfr
 rcases hm with hm | hm
 ·have e : 0 + j = j / 2 * 2 + 0 := by omega
  rw [hm, e]
  exact ⟨hcc 0 _ rfl, hfr 0⟩
 ·have e : 0 + j = j / 2 * 2 + 1 := by omega
  rw [hm, e]
  exact ⟨hcc 1 _ rfl, hfr 1⟩
theorem flat_set (d : Array S66) (i : Nat) (hi : i < d.size) (x : S66) : Sort.setMany (Sort.flatK encC 2 d) (i * 2) (encC x) = Sort.flatK encC 2 (d.set i x) := by
 refine Sort.ext_get! (by simp) fun t ht => ?_
 have ht' : t < d.size * 2 := by simpa using ht
 rw [Sort.get_setMany _ _ _ t (by simpa using ht'), Sort.get_flatK encC 2 d t ht', Sort.get_flatK encC 2 (d.set i x) t (by simpa using ht')]
 have hl : (encC x).length = 2 := rfl
 rw [hl]
 by_cases b : t / 2 = i
 ·rw [if_pos (by omega), show t - i * 2 = t % 2 by omega]
  subst b
  simp [getElem!_pos, hi]
 ·rw [if_neg (by omega)]
  have : (d.set i x)[t / 2]! = d[t / 2]! := by
   rw [getElem!_pos _ _ (by simp; omega), getElem!_pos d _ (by omega)]
   rw [Array.getElem_set_ne _ _ (fun e => b e.symm)]
  rw [this]
theorem putC {w : World} {base g n cap : Nat} {ok : Nat → Prop} {xs : List S66} (h : Kd.R k66 66 w base ok (.slice (some ⟨g, 0, none⟩) n cap) xs) (ys : List S66) (hl : ys.length = xs.length) :
  Kd.R k66 66 (Sort.putRowK encC 2 w g 0 ys.toArray) base ok (.slice (some ⟨g, 0, none⟩) n cap) ys ∧ w.grownBy (Sort.putRowK encC 2 w g 0 ys.toArray) (some g) := by
 have hn := (Kd.R_reads' h).1
 have key : ∀ i, i ≤ n → Kd.R k66 66 (Sort.putRowK encC 2 w g 0 (ys.take i ++ xs.drop i).toArray) base ok (.slice (some ⟨g, 0, none⟩) n cap) (ys.take i ++ xs.drop i) ∧ w.grownBy (Sort.putRowK encC 2 w g 0 (ys.take i ++ xs.drop i).toArray) (some g) := by
  intro i
  induction i with
  | zero =>
   intro _
   rw [List.take_zero, List.drop_zero, List.nil_append]
   have e : Sort.putRowK encC 2 w g 0 xs.toArray = w := Sort.putRow_self _ _ _ _ _ (holdsC h)
   rw [e]
   exact ⟨h, ⟨rfl, rfl, rfl, Nat.le_refl _, fun _ _ _ => rfl⟩⟩
  | succ i ih =>
   intro hi
   obtain ⟨h1, g1⟩ := ih (by omega)
   have hy : i < ys.length := by omega
   have hxs : i < xs.length := by omega
   have hlen : (ys.take i).length = i := by rw [List.length_take]; omega
   have hcat : (ys.take i ++ xs.drop i).set i ys[i] = ys.take (i + 1) ++ xs.drop (i + 1) := by
    rw [List.drop_eq_getElem_cons hxs, List.set_append_right _ _ (by omega), hlen, Nat.sub_self, List.set_cons_zero, List.take_add_one, List.getElem?_eq_getElem hy]
    simp only [Option.toList_some, List.append_assoc, List.cons_append, List.nil_append]
   obtain ⟨ce, hcl, hM, hcc, hfr⟩ := Kd.R_elem h1 z66 (i : Int) (by omega) (by omega)
   have hs := Kd.R_seg h1 (i : Int) (by omega) (by omega) (seg := encC ys[i]) (j := 0) (x' := ys[i]) (okp := fun k => ok k ∧ k ≠ g) hcl hcc (show 2 ≤ 2 from Nat.le_refl _) (by
    have hce : ce.length = 2 := hcl
    have e3 : ce.take 0 ++ encC ys[i] ++ ce.drop (0 + (encC ys[i]).length) = encC ys[i] := by
     have e4 : ce.drop (0 + (encC ys[i]).length) = [] := List.drop_of_length_le (by rw [hce]; exact Nat.le_refl 2)
     rw [e4, List.take_zero, List.nil_append, List.append_nil]
    rw [e3]
    exact k66_mkM _ _ _ ys[i]) (fun _ h => h)
   have hw : (Sort.putRowK encC 2 w g 0 (ys.take i ++ xs.drop i).toArray).setCells g ((i : Int).toNat * 2 + 0) (encC ys[i]) = Sort.putRowK encC 2 w g 0 (ys.take (i + 1) ++ xs.drop (i + 1)).toArray := by
    have e1 := Sort.setCells_putRow w g 0 (encC ys[i]) (i * 2) (Sort.flatK encC 2 (ys.take i ++ xs.drop i).toArray) (by
     have : (encC ys[i]).length = 2 := rfl
     rw [this, Sort.size_flatK]
     simp
     omega)
    rw [flat_set _ i (by simp; omega)] at e1
    have e2 : ((ys.take i ++ xs.drop i).toArray.set i ys[i] (by simp; omega)) = (ys.take (i + 1) ++ xs.drop (i + 1)).toArray := by
     rw [← hcat]
     simp
    rw [e2] at e1
    rw [Int.toNat_natCast, Nat.add_zero]
    rw [Nat.zero_add] at e1
    exact e1
   have hd : k66.sz = 2 := rfl
   rw [hd, hw, Int.toNat_natCast, hcat] at hs
   exact ⟨hs.1, ⟨hs.2.os.trans g1.os, hs.2.tape.trans g1.tape, hs.2.output.trans g1.output, Nat.le_trans g1.size hs.2.size, fun k hk hne => (hs.2.block k (Nat.lt_of_lt_of_le hk g1.size) hne).trans (g1.block k hk hne)⟩⟩
 have := key n (Nat.le_refl _)
 rw [List.take_of_length_le (by omega), List.drop_of_length_le (by omega), List.append_nil] at this
 exact this
theorem cmp_lt (x y : S66) : ltOf cmpC2 x y = decide (x.f1 < y.f1 ∨ (x.f1 = y.f1 ∧ x.f0 < y.f0)) := by
 unfold ltOf cmpC2
 congr 1
 apply propext
 split
 ·constructor <;> intro <;> omega
 ·split
  ·constructor <;> intro <;> omega
  ·split
   ·constructor <;> intro <;> omega
   ·split
    ·constructor <;> intro <;> omega
    ·constructor <;> intro <;> omega
theorem cmp_swo : Sort.SWO (ltOf cmpC2) where
 irrefl x := by rw [cmp_lt]; simp
 trans x y z h1 h2 := by rw [cmp_lt] at *; simp at *; omega
 ntrans x y z h1 h2 := by rw [cmp_lt] at *; simp at *; omega
theorem cmp_tot (x y : S66) (h1 : ltOf cmpC2 x y = false) (h2 : ltOf cmpC2 y x = false) : x = y := by
 rw [cmp_lt] at h1 h2
 simp at h1 h2
 cases x; cases y
 simp at *
 omega
def sortC (xs : List S66) : List S66 := xs.mergeSort fun x y => !(ltOf cmpC2) y x
theorem sortC_len (xs : List S66) : (sortC xs).length = xs.length := List.length_mergeSort _
set_option maxRecDepth 100000 in
set_option maxHeartbeats 1000000 in
theorem impl_sorted.own (w : World) (base : Nat) (ok : Nat → Prop) (v : Value) (xs : List S66) (h : Kd.R k66 66 w base ok v xs) (hl : xs.length ≤ 1000000000) :
  Calls Tryz.prog 147 #[v, .func (.func 120) #[] #[]] w fun e w' => e = .returned (.tuple #[]) ∧ Kd.R k66 66 w' base ok v (sortC xs) ∧ w.grownBy w' v.ownBlock := by
 by_cases hp : 0 < xs.length
 ·obtain ⟨g, cap, rfl, hb, hg, _⟩ := Kd.R_form h hp
  have eg : ∀ args w, (callFunc 120 args).run Tryz.prog w = .ok (.enter 120 args) w := enters_of Tryz.func120 (by kernel_rfl) rfl
  have hcon := AnyQ.slices_SortFunc_total Tryz.sortC 2 Tryz.isAgg66 Tryz.sizeOf66 encC (fun _ => rfl) (fun x v hv => by simp [encC] at hv; rcases hv with rfl | rfl <;> rfl) cmpC2 cmp_swo 120 #[] g 0 cap xs.toArray w eg (fun _ _ _ _ x y => cmp_lays x y _) (holdsC h) hg (by simp; omega) cmp_tot
  change Calls Tryz.prog 147 _ _ _ at hcon
  have hsz : xs.toArray.size = xs.length := by simp
  rw [hsz] at hcon
  refine hcon.mono ?_
  rintro e w' ⟨rfl, n, os, rfl⟩
  have hA : Kd.R k66 66 (Sort.ahead w n) base ok (.slice (some ⟨g, 0, none⟩) xs.length cap) xs := Kd.R_drewN h n
  obtain ⟨h1, g1⟩ := putC hA (sortC xs) (sortC_len xs)
  refine ⟨rfl, Kd.R_step h1 (fun k _ hk => Sort.heap_grow_old _ _ hk), ⟨g1.os, g1.tape, g1.output, Nat.le_trans g1.size (by
   have h9 := Sort.size_grow (Sort.putRowK encC 2 (Sort.ahead w n) g 0 (sortC xs).toArray) os
   show _ ≤ (Sort.grow (Sort.putRowK encC 2 (Sort.ahead w n) g 0 (sortC xs).toArray) os).heap.size
   omega), fun k hk hne => (Sort.heap_grow_old _ _ (Nat.lt_of_lt_of_le hk g1.size)).trans (g1.block k hk hne)⟩⟩
 ·obtain rfl : xs = [] := List.length_eq_zero_iff.mp (by omega)
  obtain ⟨A, c, rfl⟩ := Kd.R_slice h
  have hcon := AnyF.slices_SortFunc_none { Tryz.sortC with } A c (.func (.func 120) #[] #[]) w
  change Calls Tryz.prog 147 _ _ _ at hcon
  refine hcon.mono ?_
  rintro e w' ⟨rfl, rfl⟩
  have e0 : sortC [] = [] := by unfold sortC; simp
  rw [e0]
  exact ⟨rfl, h, ⟨rfl, rfl, rfl, Nat.le_refl _, fun _ _ _ => rfl⟩⟩
theorem nil_eqC (A : Option Addr) (m c : Nat) (w : World) : (binOp BinOp.eql 29 (.slice A m c) (.slice none 0 0)).run Tryz.prog w = .ok (.bool A.isNone) w := by
 simp [binOp, run_equal_slice_nil w _ _ A m c Tryz.underlying29]
set_option maxRecDepth 100000 in
set_option maxHeartbeats 1000000 in
theorem impl_sorted.clone (A0 : Option Addr) (c0 : Nat) (l0 : List S66) (w : World) (hr0 : Kd.C k66 w A0 l0.length l0) (hc0 : l0.length ≤ c0) (hl : l0.length ≤ 1000000000) :
  Calls Tryz.prog 146 #[.slice A0 l0.length c0] w fun e w' => ∃ v_ : Value, e = .returned v_ ∧ Kd.R k66 66 w' w.heap.size (fun _ => True) v_ l0 ∧ Below w.heap.size w w' := by
 have HR := Aside0.mk hr0
 clear hr0
 cases A0 with
 | none =>
  have e : l0 = [] := by
   by_cases hp : 0 < l0.length
   ·obtain ⟨ad, e, _⟩ := at_T66 HR.out (0 : Int) (by omega) (by omega)
    cases e
   ·exact List.length_eq_zero_iff.mp (by omega)
  subst e
  have hq := fun (w : World) => nil_eqC none 0 c0 w
  go_enter Tryz.func146, Tryz.ntmps146
  go_wp2
  go_ret
  exact ⟨_, rfl, Kd.R_nil _ _ _ _ _, Below.refl _ _⟩
 | some a0 =>
  have hq := fun (w : World) => nil_eqC (some a0) l0.length c0 w
  go_enter Tryz.func146, Tryz.ntmps146
  go_wp2_with (first
   | ((with_reducible refine gate_dst (N := 5) rfl ?_); refine Kd.R_lit k66 w.heap.size 66 ?hg (N := 5) ?hd (xs := ([] : List S66)) (inner := []) (ok := fun _ => True) (okp := fun _ => True) ?hr ?hp (fun _ hk => hk) trivial (Below.refl w.heap.size w) (Nat.le_refl _) (by simp) ?_; (case hd => rfl); (case hg => rfl); (case hr => first | (go_simp; done) | (go_simp; rfl)); (case hp => exact (Reps.none _ _)); intro v7 w7 ho7 hb7 hg_ hnew_; clear hg_ hnew_; have HO7 := Aside0.mk ho7; have HB7 := Aside0.mk hb7; clear ho7 hb7)
   | ((with_reducible refine gate_builtin (b := .append) (xs := #[.tmp 5, .tmp 6]) rfl ?_); at_builtin; refine Kd.R_append_rows k66 (w0 := w) w.heap.size rfl (.tmp 5) (.tmp 6) 29 66 (.agg #[(.int .i64 0), (.int .i64 0)]) 16 rfl Tryz.underlying29 info66 rfl (by decide) (by omega) v7 ([] : List S66) l0 _ _ _ (fun _ => True) (fun _ => False) rfl rfl ?aO ?aR (fun _ _ h => h) (fun _ h => h.elim) ?aF ?aB ?aS ?aL ?_; (case aR => exact (Kd.C_below HR.out HB7.out)); (case aB => exact HB7.out); (case aF => exact fun _ _ => trivial); (case aO => exact HO7.out); (case aS => exact HB7.out.size); (case aL => (simp only [List.length_nil]; omega)); intro v9 w9 ho hb hg hat; have HO9 := Aside0.mk ho; have HB9 := Aside0.mk hb; clear ho hb hg hat))
  go_ret
  exact ⟨_, rfl, HO9.out, HB9.out⟩
theorem below_grownC {w W V : World} {row : Option Nat} (h : Below w.heap.size w W) (g : W.grownBy V row) (hr : ∀ k, row = some k → w.heap.size ≤ k) : Below w.heap.size w V :=
 ⟨g.os.trans h.os, g.tape.trans h.tape, g.output.trans h.output, Nat.le_trans h.size g.size, fun k hk => (g.block k (Nat.lt_of_lt_of_le hk h.size) (fun e => by have := hr k e.symm; omega)).trans (h.block k hk)⟩
theorem baseC {W : World} {base : Nat} {ok : Nat → Prop} {v : Value} {xs : List S66} (h : Kd.R k66 66 W base ok v xs) {k : Nat} (hk : v.ownBlock = some k) : base ≤ k := ((Kd.R_bound h).1 k hk).2.1
def impl_sorted.f (l0 : List S66) : Option (List S66) := if l0.length ≤ 1000000 then some (sortC l0) else none
set_option maxHeartbeats 1600000 in
theorem impl_sorted.calls (A0 : Option Addr) (c0 : Nat) (l0 : List S66) (r : List S66) (w : World) (hr0 : Kd.C k66 w A0 l0.length l0) (hc0 : l0.length ≤ c0) (h : impl_sorted.f l0 = some r) :
  Calls Tryz.prog 126 #[.slice A0 l0.length c0] w fun e w' => ∃ v0_ : Value, e = .returned (v0_) ∧ Kd.R k66 66 w' w.heap.size (fun _ => True) v0_ r ∧ Below w.heap.size w w' := by
 have HR := Aside0.mk hr0
 clear hr0
 unfold impl_sorted.f at h
 by_cases hn : l0.length ≤ 1000000
 case neg => rw [if_neg hn] at h; cases h
 rw [if_pos hn] at h
 obtain rfl := Option.some.inj h
 clear h
 go_enter Tryz.func126, Tryz.ntmps126
 go_wp2_with (first
  | (go_at_call 146; refine (impl_sorted.clone A0 c0 l0 _ HR.out hc0 (by omega)).mono ?_; rintro e w1 ⟨v1, rfl, ho1, hb1⟩; have HO1 := Aside0.mk ho1; have HB1 := Aside0.mk hb1; clear ho1 hb1)
  | (go_at_call 147; refine (impl_sorted.own _ w.heap.size (fun _ => True) v1 l0 HO1.out (by omega)).mono ?_; rintro e w2 ⟨rfl, hR2, hG2⟩; have HO2 := Aside0.mk hR2; have HB2 := Aside0.mk (below_grownC HB1.out hG2 (fun k hk => baseC HO1.out hk)); clear hR2 hG2))
 go_ret
 exact ⟨_, rfl, HO2.out, HB2.out⟩
end Go.Proofs.YtbphiipcnjelbaaGreat.Q

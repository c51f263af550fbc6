/- Written by a program of this session (wip/tools/pp.py) out of the translation, with the kit's printer. -/
import Derived.Test.YtbphiipcnjelbaaGreatQ0
import Derived.Test.YtbphiipcnjelbaaGreatQGspecl18Add
import Derived.Test.YtbphiipcnjelbaaGreatQGspecl25Spots
import Derived.Test.YtbphiipcnjelbaaGreatQGimplcompareShapes
import Derived.Test.YtbphiipcnjelbaaGreatQ15
import Derived.LoopTactic
import Derived.Deep.RegionWith
import Derived.Deep.RegionLaw
import Derived.Test.YtbphiipcnjelbaaGreatShl
namespace Go.Proofs.YtbphiipcnjelbaaGreat.Q
open Go.RowKit Go.Proofs.YtbphiipcnjelbaaGreatW.PrintWords Go.Proofs.YtbphiipcnjelbaaGreatW.PrintLast Go.Proofs.YtbphiipcnjelbaaGreatW.PrintMore
attribute [local go_sem] max2_int min2_int max_two min_two max_three min_three max_four min_four
set_option linter.unusedVariables false
set_option linter.unusedSimpArgs false
section
variable {α : Type} [Inhabited α] {enc : α → Value} {h1 : ∀ x, (enc x).oneCell' = true} {e : Nat}
theorem gdX (xs : List α) {i : Nat} (h : i < xs.length) : xs.getD i default = xs[i] := by simp [List.getD_eq_getElem?_getD, List.getElem?_eq_getElem h]
theorem cellsX {w : World} {base g n cap : Nat} {ok : Nat → Prop} {l : List α} (h : Kd.R (Kd.scalar enc h1) e w base ok (.slice (some ⟨g, 0, none⟩) n cap) l) (kk : Nat) (hk : kk < n) :
  w.cell? ⟨g, kk, none⟩ = some (enc (l.getD kk default)) ∧ w.frozen? ⟨g, kk, none⟩ = false := by
 obtain ⟨ce, hcl, hM, hcc, hfr⟩ := Kd.R_elem h default (kk : Int) (by omega) (by omega)
 have e : ce = [enc (l.getD kk default)] := hM
 have h2 := hcc 0 (enc (l.getD kk default)) (by rw [e]; rfl)
 have h3 := hfr 0
 have hs : (Kd.scalar enc h1).sz = 1 := rfl
 rw [hs, Int.toNat_natCast, Nat.mul_one, Nat.add_zero] at h2 h3
 exact ⟨h2, h3⟩
theorem putX {w : World} {base g n cap : Nat} {ok : Nat → Prop} {l : List α} (h : Kd.R (Kd.scalar enc h1) e w base ok (.slice (some ⟨g, 0, none⟩) n cap) l) (kk : Nat) (hk : kk < n) (q : α) :
  Kd.R (Kd.scalar enc h1) e (w.setCell ⟨g, kk, none⟩ (enc q)) base ok (.slice (some ⟨g, 0, none⟩) n cap) (l.set kk q) ∧ w.grownBy (w.setCell ⟨g, kk, none⟩ (enc q)) (some g) := by
 obtain ⟨ce, hcl, hM, hcc, hfr⟩ := Kd.R_elem h default (kk : Int) (by omega) (by omega)
 have e : ce = [enc (l.getD kk default)] := hM
 have h2 := Kd.R_seg h (kk : Int) (by omega) (by omega) (seg := [enc q]) (j := 0) (x' := q) (okp := fun k => ok k ∧ k ≠ g) hcl hcc (show 1 ≤ 1 from by omega) (show _ = [enc q] by rw [e]; rfl) (fun _ h => h)
 have hs : (Kd.scalar enc h1).sz = 1 := rfl
 rw [hs, Int.toNat_natCast, Nat.mul_one, Nat.add_zero] at h2
 exact h2
theorem grown_X {w W V : World} {row : Option Nat} (h1 : w.grownBy W row) (h2 : W.grownBy V row) : w.grownBy V row := ⟨h2.os.trans h1.os, h2.tape.trans h1.tape, h2.output.trans h1.output, Nat.le_trans h1.size h2.size, fun k hk hne => (h2.block k (Nat.lt_of_lt_of_le hk h1.size) hne).trans (h1.block k hk hne)⟩
theorem holdsX {w : World} {base g n cap : Nat} {ok : Nat → Prop} {is : List α} (h : Kd.R (Kd.scalar enc h1) e w base ok (.slice (some ⟨g, 0, none⟩) n cap) is) : Sort.Holds enc w g 0 is.toArray := by
 intro j hj
 have hn := (Kd.R_reads' h).1
 have hj2 : j < n := by simpa [hn] using hj
 obtain ⟨c0, f0⟩ := cellsX h j hj2
 rw [Nat.zero_add]
 have e : is.toArray[j]! = is.getD j default := by
  rw [getElem!_pos is.toArray j hj]
  simp [List.getD_eq_getElem?_getD, List.getElem?_eq_getElem (show j < is.length by omega)]
 rw [e]
 exact ⟨c0, f0⟩
theorem putRowX {w : World} {base g n cap : Nat} {ok : Nat → Prop} {is : List α} (h : Kd.R (Kd.scalar enc h1) e w base ok (.slice (some ⟨g, 0, none⟩) n cap) is) (ys : List α) (hl : ys.length = is.length) :
  Kd.R (Kd.scalar enc h1) e (Sort.putRow enc w g 0 ys.toArray) base ok (.slice (some ⟨g, 0, none⟩) n cap) ys ∧ w.grownBy (Sort.putRow enc w g 0 ys.toArray) (some g) := by
 have hn := (Kd.R_reads' h).1
 have key : ∀ i, i ≤ n → Kd.R (Kd.scalar enc h1) e (Sort.putRow enc w g 0 (ys.take i ++ is.drop i).toArray) base ok (.slice (some ⟨g, 0, none⟩) n cap) (ys.take i ++ is.drop i) ∧ w.grownBy (Sort.putRow enc w g 0 (ys.take i ++ is.drop i).toArray) (some g) := by
  intro i
  induction i with
  | zero =>
   intro _
   rw [List.take_zero, List.drop_zero, List.nil_append]
   have e : Sort.putRow enc w g 0 is.toArray = w := Sort.putRow_self _ _ _ _ _ (holdsX h)
   rw [e]
   exact ⟨h, ⟨rfl, rfl, rfl, Nat.le_refl _, fun _ _ _ => rfl⟩⟩
  | succ i ih =>
   intro hi
   obtain ⟨h2, g1⟩ := ih (by omega)
   have hy : i < ys.length := by omega
   have hxs : i < is.length := by omega
   have hlen : (ys.take i).length = i := by rw [List.length_take]; omega
   have hcat : (ys.take i ++ is.drop i).set i ys[i] = ys.take (i + 1) ++ is.drop (i + 1) := by
    rw [List.drop_eq_getElem_cons hxs, List.set_append_right _ _ (by omega), hlen, Nat.sub_self, List.set_cons_zero, List.take_add_one, List.getElem?_eq_getElem hy]
    simp only [Option.toList_some, List.append_assoc, List.cons_append, List.nil_append]
   obtain ⟨h3, g2⟩ := putX h2 i (by omega) ys[i]
   have hw : (Sort.putRow enc w g 0 (ys.take i ++ is.drop i).toArray).setCell ⟨g, i, none⟩ (enc ys[i]) = Sort.putRow enc w g 0 (ys.take (i + 1) ++ is.drop (i + 1)).toArray := by
    have hsz : i < (ys.take i ++ is.drop i).toArray.size := by simp; omega
    have e1 := Sort.putRow_set enc w g 0 (ys.take i ++ is.drop i).toArray i ys[i] hsz
    rw [Nat.zero_add] at e1
    rw [e1]
    congr 1
    rw [← hcat]
    simp
   rw [hw, hcat] at h3
   rw [hw] at g2
   exact ⟨h3, grown_X g1 g2⟩
 have := key n (Nat.le_refl _)
 rw [List.take_of_length_le (by omega), List.drop_of_length_le (by omega), List.append_nil] at this
 exact this
end
theorem intI (k : IntKind) : ∀ x : Int, (Value.int k x).oneCell' = true := fun _ => rfl
def sortI (xs : List Int) : List Int := xs.mergeSort fun x y => decide (x ≤ y)
theorem sortI_len (xs : List Int) : (sortI xs).length = xs.length := List.length_mergeSort _
theorem sortI_own (w : World) (base : Nat) (ok : Nat → Prop) (v : Value) (xs : List Int) (h : Kd.R kI 2 w base ok v xs) (hl : xs.length ≤ 1000000000) :
  Calls Tryz.prog 50 #[v] w fun e w' => e = .returned (.tuple #[]) ∧ Kd.R kI 2 w' base ok v (sortI xs) ∧ w.grownBy w' v.ownBlock := by
 by_cases hp : 0 < xs.length
 ·obtain ⟨g, cap, rfl, hb, hg, _⟩ := Kd.R_form h hp
  have h' : Kd.R (Kd.scalar (Value.int .i64) (intI .i64)) 2 w base ok (.slice (some ⟨g, 0, none⟩) xs.length cap) xs := h
  have hcon := AnyM.slices_Sort_int Tryz.sortI g 0 cap xs w (holdsX h') hg (by omega)
  change Calls Tryz.prog 50 _ _ _ at hcon
  refine hcon.mono ?_
  rintro e w' ⟨rfl, n, os, rfl⟩
  have hA : Kd.R (Kd.scalar (Value.int .i64) (intI .i64)) 2 (Sort.ahead w n) base ok (.slice (some ⟨g, 0, none⟩) xs.length cap) xs := Kd.R_drewN h' n
  obtain ⟨h1, g1⟩ := putRowX hA (sortI xs) (sortI_len xs)
  exact ⟨rfl, Kd.R_step h1 (fun k _ hk => Sort.heap_grow_old _ _ hk), ⟨g1.os, g1.tape, g1.output, Nat.le_trans g1.size (by
   have h9 := Sort.size_grow (Sort.putRow (Value.int .i64) (Sort.ahead w n) g 0 (sortI xs).toArray) os
   show _ ≤ (Sort.grow (Sort.putRow (Value.int .i64) (Sort.ahead w n) g 0 (sortI xs).toArray) os).heap.size
   omega), fun k hk hne => (Sort.heap_grow_old _ _ (Nat.lt_of_lt_of_le hk g1.size)).trans (g1.block k hk hne)⟩⟩
 ·obtain rfl : xs = [] := List.length_eq_zero_iff.mp (by omega)
  obtain ⟨A, c, rfl⟩ := Kd.R_slice h
  have hcon := AnyM.slices_Sort_int_none Tryz.sortI A c w
  change Calls Tryz.prog 50 _ _ _ at hcon
  refine hcon.mono ?_
  rintro e w' ⟨rfl, rfl⟩
  have e0 : sortI [] = [] := by unfold sortI; simp
  rw [e0]
  exact ⟨rfl, h, ⟨rfl, rfl, rfl, Nat.le_refl _, fun _ _ _ => rfl⟩⟩
theorem cptI_own (w : World) (base : Nat) (ok : Nat → Prop) (v : Value) (xs : List Int) (h : Kd.R kI 2 w base ok v xs) (hl : xs.length ≤ 1000000000) :
  Calls Tryz.prog 51 #[v] w fun e w' => ∃ A c, e = .returned (.slice A (Lib.compact xs).length c) ∧ w.grownBy w' v.ownBlock := by
 by_cases hp : 0 < xs.length
 ·obtain ⟨g, cap, rfl, hb, hg, _⟩ := Kd.R_form h hp
  have hcap := (Kd.R_reads' h).2.1
  have h' : Kd.R (Kd.scalar (Value.int .i64) (intI .i64)) 2 w base ok (.slice (some ⟨g, 0, none⟩) xs.length cap) xs := h
  have hcon := AnyG.slices_Compact_int Tryz.cptI g 0 cap xs w (holdsX h') (by omega) hcap
  change Calls Tryz.prog 51 _ _ _ at hcon
  refine hcon.mono ?_
  rintro e w' ⟨rfl, q, rfl⟩
  have hA : Kd.R (Kd.scalar (Value.int .i64) (intI .i64)) 2 (Sort.ahead w q) base ok (.slice (some ⟨g, 0, none⟩) xs.length cap) xs := Kd.R_drewN h' q
  have hcl : (Lib.compact xs).length ≤ xs.length := by
   unfold Lib.compact Lib.compactUpTo
   rw [List.length_map]
   exact Nat.le_trans (List.length_filter_le _ _) (by simp)
  obtain ⟨h1, g1⟩ := putRowX hA (Lib.compact xs ++ List.replicate (xs.length - (Lib.compact xs).length) 0) (by rw [List.length_append, List.length_replicate]; omega)
  exact ⟨_, _, rfl, ⟨g1.os, g1.tape, g1.output, g1.size, g1.block⟩⟩
 ·obtain rfl : xs = [] := List.length_eq_zero_iff.mp (by omega)
  obtain ⟨A, c, rfl⟩ := Kd.R_slice h
  have hcon := AnyG.slices_Compact_int_empty Tryz.cptI A c w
  change Calls Tryz.prog 51 _ _ _ at hcon
  refine hcon.mono ?_
  rintro e w' ⟨rfl, rfl⟩
  exact ⟨A, c, rfl, ⟨rfl, rfl, rfl, Nat.le_refl _, fun _ _ _ => rfl⟩⟩
section
variable {enc : Nat → Value} {h1 : ∀ x, (enc x).oneCell' = true}
theorem cellsI {w : World} {base g n cap : Nat} {ok : Nat → Prop} {l : List Nat} (h : Kd.R (Kd.scalar enc h1) 38 w base ok (.slice (some ⟨g, 0, none⟩) n cap) l) (kk : Nat) (hk : kk < n) :
  w.cell? ⟨g, kk, none⟩ = some (enc (l.getD kk 0)) ∧ w.frozen? ⟨g, kk, none⟩ = false := cellsX h kk hk
theorem putI {w : World} {base g n cap : Nat} {ok : Nat → Prop} {l : List Nat} (h : Kd.R (Kd.scalar enc h1) 38 w base ok (.slice (some ⟨g, 0, none⟩) n cap) l) (kk : Nat) (hk : kk < n) (q : Nat) :
  Kd.R (Kd.scalar enc h1) 38 (w.setCell ⟨g, kk, none⟩ (enc q)) base ok (.slice (some ⟨g, 0, none⟩) n cap) (l.set kk q) ∧ w.grownBy (w.setCell ⟨g, kk, none⟩ (enc q)) (some g) := putX h kk hk q
theorem clearI (nz : Nat) {base g n cap : Nat} {ok : Nat → Prop} (hnz : enc nz = .slice none 0 0) : ∀ (m : Nat) (w : World) (k : Nat) (l : List Nat), Kd.R (Kd.scalar enc h1) 38 w base ok (.slice (some ⟨g, 0, none⟩) n cap) l → k + m ≤ n →
  ∃ l', l'.take k = l.take k ∧ Kd.R (Kd.scalar enc h1) 38 (w.setCells g k (List.replicate m (.slice none 0 0))) base ok (.slice (some ⟨g, 0, none⟩) n cap) l' ∧ w.grownBy (w.setCells g k (List.replicate m (.slice none 0 0))) (some g)
 | 0, w, k, l, h, _ => ⟨l, rfl, h, ⟨rfl, rfl, rfl, Nat.le_refl _, fun _ _ _ => rfl⟩⟩
 | m + 1, w, k, l, h, hk => by
  obtain ⟨h2, g1⟩ := putI h k (by omega) nz
  rw [hnz] at h2 g1
  obtain ⟨l', e, h3, g2⟩ := clearI nz hnz m _ (k + 1) _ h2 (by omega)
  have hw : w.setCells g k (List.replicate (m + 1) (.slice none 0 0)) = (w.setCell ⟨g, k, none⟩ (.slice none 0 0)).setCells g (k + 1) (List.replicate m (.slice none 0 0)) := rfl
  rw [hw]
  refine ⟨l', ?_, h3, grown_thenH g1 g2⟩
  have e2 := congrArg (List.take k) e
  rw [List.take_take, List.take_take, Nat.min_eq_left (by omega), List.take_set_of_le (Nat.le_refl _)] at e2
  exact e2
theorem clear_runI {base g n cap : Nat} {ok : Nat → Prop} {l : List Nat} (w : World) (k m c : Nat) (h0 : 0 < m) (h : Kd.R (Kd.scalar enc h1) 38 w base ok (.slice (some ⟨g, 0, none⟩) n cap) l) (hk : k + m ≤ n) :
  (Builtin.clear_ #[26] 0 #[.slice (some ⟨g, k, none⟩) m c]).run Tryz.prog w = .ok (.tuple #[]) (w.setCells g k (List.replicate m (.slice none 0 0))) := by
 have hc : ∀ j, j < m → (w.cell? ⟨g, k + j, none⟩).isSome = true ∧ w.frozen? ⟨g, k + j, none⟩ = false := by
  intro j hj
  obtain ⟨c0, hf⟩ := cellsI h (k + j) (by omega)
  exact ⟨by rw [c0]; rfl, hf⟩
 have hst := run_storeCells_cells (P := Tryz.prog) g k (List.replicate m (.slice none 0 0)) 0 w (by rw [List.length_replicate]; intro j hj; exact (hc j hj).1) (by rw [List.length_replicate]; intro j hj; exact (hc j hj).2) (by
  intro v hv
  rw [List.eq_of_mem_replicate hv]
  rfl)
 simp only [Nat.add_zero] at hst
 have hz : (zeroValue 38).run Tryz.prog w = .ok (.slice none 0 0) w := Tryz.zeroValue38 w
 have hcl : (Value.slice none 0 0).cells = #[.slice none 0 0] := by rfl
 obtain ⟨m, rfl⟩ : ∃ q, m = q + 1 := ⟨m - 1, by omega⟩
 have hu := Tryz.underlying26
 simp [Builtin.clear_, run_underlying hu, hz, hcl, zeroH, hst]
set_option maxRecDepth 100000 in
set_option maxHeartbeats 4000000 in
theorem compactI (E : Nat → Nat → Bool) (nz : Nat) (hnz : enc nz = .slice none 0 0) (hsl : ∀ x, ∃ A n c, enc x = .slice A n c) (w : World) (base g cap : Nat) (ok : Nat → Prop) (xs : List Nat) (h : Kd.R (Kd.scalar enc h1) 38 w base ok (.slice (some ⟨g, 0, none⟩) xs.length cap) xs) (hl : xs.length ≤ 1000000)
  (hq : ∀ (W' : World) (i j : Nat), w.grownBy W' (some g) → Calls Tryz.prog 57 #[enc i, enc j] W' fun e w' => e = .returned (.bool (E i j)) ∧ Drawn0 W' w') :
  Calls Tryz.prog 56 #[.slice (some ⟨g, 0, none⟩) xs.length cap, .func (.func 57) #[] #[]] w fun e w' => ∃ v', e = .returned v' ∧ Kd.R (Kd.scalar enc h1) 38 w' base ok v' (cmpH E xs xs.length) ∧ v'.ownBlock = some g ∧ w.grownBy w' (some g) := by
 have hcap := (Kd.R_reads' h).2.1
 have HR := Aside0.mk h
 have HQ := Aside0.mk hq
 clear h hq
 by_cases h2 : xs.length < 2
 ·have e : cmpH E xs xs.length = xs := by
   match xs, h2 with
   | [], _ => rfl
   | [a], _ => simp [cmpH]
  rw [e]
  clear e
  go_enter Tryz.func56, Tryz.ntmps56
  go_wp2
  go_ret
  exact ⟨_, rfl, HR.out, rfl, ⟨rfl, rfl, rfl, Nat.le_refl _, fun _ _ _ => rfl⟩⟩
 ·go_enter Tryz.func56, Tryz.ntmps56
  go_wp2
  go_loopw [5] (fun i wr => ∃ kk : Nat, 1 ≤ kk ∧ kk ≤ xs.length ∧ i = .int .i64 (kk : Int) ∧ Aside0 (cmpH E xs kk = xs.take kk) ∧ Aside0 (Kd.R (Kd.scalar enc h1) 38 wr base ok (.slice (some ⟨g, 0, none⟩) xs.length cap) xs) ∧ Aside0 (w.grownBy wr (some g))) (fun i _ => xs.length - (intOf i).toNat)
  case atStart => exact ⟨1, Nat.le_refl _, by omega, rfl, ⟨by
   rw [cmpH, cmpH, if_neg (by omega), gdH xs (by omega), List.take_add_one, List.getElem?_eq_getElem (show 0 < xs.length by omega)]
   simp⟩, HR, ⟨⟨rfl, rfl, rfl, Nat.le_refl _, fun _ _ _ => rfl⟩⟩⟩
  case round =>
   obtain ⟨kk, hk1, hm, rfl, HC, HR1, HG⟩ := hrel
   by_cases hlt : kk < xs.length
   ·obtain ⟨m, hkm⟩ : ∃ m, kk = m + 1 := ⟨kk - 1, by omega⟩
    obtain ⟨x0, _⟩ := cellsI HR1.out kk hlt
    obtain ⟨y0, _⟩ := cellsI HR1.out m (by omega)
    have hC2 : cmpH E xs (kk + 1) = xs.take kk ++ (if E (xs.getD kk 0) (xs.getD m 0) = true then [] else [xs.getD kk 0]) := by
     rw [cmpH, HC.out, hkm, Nat.add_sub_cancel]
     congr 1
     by_cases he : E (xs.getD (m + 1) 0) (xs.getD m 0) = true
     ·rw [if_pos he, if_pos ⟨by omega, he⟩]
     ·rw [if_neg he, if_neg (fun c => he c.2)]
    have hrd : xs[kk]? = some (xs.getD kk 0) := by rw [gdH xs hlt, List.getElem?_eq_getElem hlt]
    have HC2 := Aside0.mk hC2
    have HRD := Aside0.mk hrd
    clear hC2 hrd
    generalize ha : xs.getD kk 0 = a at x0 HC2 HRD
    generalize hb' : xs.getD m 0 = b at y0 HC2
    have hsub : IntKind.i64.wrap ((kk : Int) - 1) = (m : Int) := (i64_w _).trans (by unfold wrap64; omega)
    have p1 : ((0 : Int) ≤ (kk : Int)) = True := eq_true (by omega)
    have q1 : ((kk : Int) < (xs.length : Int)) = True := eq_true (by omega)
    have p2 : ((0 : Int) ≤ (m : Int)) = True := eq_true (by omega)
    have q2 : ((m : Int) < (xs.length : Int)) = True := eq_true (by omega)
    have q3 : (kk < xs.length) = True := eq_true hlt
    have q4 : (m < xs.length) = True := eq_true (by omega)
    have HKM := Aside0.mk hkm
    have HLT := Aside0.mk hlt
    have HCA := Aside0.mk (fun W' hW => HQ.out W' a b hW)
    clear ha hb' hkm hlt
    go_upto_region 6 with (fail)
    go_cut [28] (fun v wc => v = .bool (E a b) ∧ Aside0 (Kd.R (Kd.scalar enc h1) 38 wc base ok (.slice (some ⟨g, 0, none⟩) xs.length cap) xs) ∧ Aside0 (w.grownBy wc (some g)))
    case first =>
     go_region_with (first
      | (go_at_call 57; refine (HCA.out _ (by first | exact grown_drewH HG.out | exact HG.out | exact grown_drewNH _ HG.out)).mono ?_; rintro e w5 ⟨rfl, n5, rfl⟩)
      | fail)
     all_goals (
      go_wp2
      go_meet
      case rel => exact ⟨rfl, ⟨Kd.R_drewN HR1.out _⟩, ⟨grown_drewNH _ HG.out⟩⟩)
    case rest =>
     obtain ⟨rfl, HR0, HG0⟩ := hcut
     clear x0 y0 HR1 HG HCA
     cases he : E a b with
     | false =>
      go_wp2
      go_roundw
      case rel => exact ⟨kk + 1, by omega, by have := HLT.out; omega, by go_num, ⟨by
       rw [HC2.out, he, if_neg (by simp), List.take_add_one, HRD.out]
       simp only [Option.toList_some]⟩, HR0, HG0⟩
      case measure => have := HLT.out; simp [intOf]; omega
     | true =>
      have hcc : kk ≤ cap := by have := HLT.out; omega
      have hkl : kk ≤ xs.length := hm
      have hnc : (cap = kk) = False := eq_false (by have := HLT.out; omega)
      have hnc2 : (kk = cap) = False := eq_false (by have := HLT.out; omega)
      go_wp2
      obtain ⟨n2, hn2⟩ : ∃ n2, xs.length - kk = n2 := ⟨_, rfl⟩
      have hn3 : xs.length = kk + n2 := by omega
      rw [hn2]
      have HN := Aside0.mk hn3
      clear hn2 p1 q1 p2 q2 q3 q4 hsub
      go_loopw [5, 7] (fun i j wr => ∃ (k k2 : Nat) (ys : List Nat), 1 ≤ k2 ∧ k2 ≤ n2 ∧ 1 ≤ k ∧ k + 1 ≤ kk + k2 ∧ i = .int .i64 (k : Int) ∧ j = .int .i64 (k2 : Int) ∧ Aside0 (ys.length = xs.length) ∧ Aside0 (∀ j : Nat, kk + k2 ≤ j + 1 → ys.getD j 0 = xs.getD j 0) ∧ Aside0 (cmpH E xs (kk + k2) = ys.take k) ∧ Aside0 (Kd.R (Kd.scalar enc h1) 38 wr base ok (.slice (some ⟨g, 0, none⟩) xs.length cap) ys) ∧ Aside0 (w.grownBy wr (some g))) (fun _ j _ => n2 - (intOf j).toNat)
      case atStart => exact ⟨kk, 1, xs, Nat.le_refl _, by have := HLT.out; omega, hk1, Nat.le_refl _, rfl, rfl, ⟨rfl⟩, ⟨fun _ _ => rfl⟩, ⟨by rw [HC2.out, he, if_pos rfl, List.append_nil]⟩, HR0, HG0⟩
      case round =>
       clear HR0 HG0
       obtain ⟨k, k2, ys, h21, h2n, hk0, hkk, rfl, rfl, HYL, HYX, HCM, HR2, HG2⟩ := hrel
       by_cases hlt2 : k2 < n2
       ·obtain ⟨m2, hkm2⟩ : ∃ m2, k2 = m2 + 1 := ⟨k2 - 1, by omega⟩
        obtain ⟨x0, _⟩ := cellsI HR2.out (kk + k2) (by omega)
        obtain ⟨y0, _⟩ := cellsI HR2.out (kk + m2) (by omega)
        obtain ⟨z0, f0⟩ := cellsI HR2.out k (by omega)
        have ea := HYX.out (kk + k2) (by omega)
        have eb := HYX.out (kk + m2) (by omega)
        have hC4 : cmpH E xs (kk + k2 + 1) = ys.take k ++ (if E (ys.getD (kk + k2) 0) (ys.getD (kk + m2) 0) = true then [] else [ys.getD (kk + k2) 0]) := by
         rw [cmpH, HCM.out, ea, eb, show kk + k2 - 1 = kk + m2 by omega]
         congr 1
         by_cases he : E (xs.getD (kk + k2) 0) (xs.getD (kk + m2) 0) = true
         ·rw [if_pos he, if_pos ⟨by omega, he⟩]
         ·rw [if_neg he, if_neg (fun c => he c.2)]
        have HC4 := Aside0.mk hC4
        clear hC4 ea eb
        generalize hya : ys.getD (kk + k2) 0 = a2 at x0 HC4
        have HYA := Aside0.mk hya
        clear hya
        generalize ys.getD (kk + m2) 0 = b2 at y0 HC4
        have hsub : IntKind.i64.wrap ((k2 : Int) - 1) = (m2 : Int) := (i64_w _).trans (by unfold wrap64; omega)
        have p1 : ((0 : Int) ≤ (k2 : Int)) = True := eq_true (by omega)
        have q1 : ((k2 : Int) < (n2 : Int)) = True := eq_true (by omega)
        have p2 : ((0 : Int) ≤ (m2 : Int)) = True := eq_true (by omega)
        have q2 : ((m2 : Int) < (n2 : Int)) = True := eq_true (by omega)
        have q3 : (k2 < n2) = True := eq_true hlt2
        have q4 : (m2 < n2) = True := eq_true (by omega)
        have hkx : k < xs.length := by omega
        have HLT2 := Aside0.mk hlt2
        have HKM2 := Aside0.mk hkm2
        have HCA := Aside0.mk (fun W' hW => HQ.out W' a2 b2 hW)
        have hn2b : n2 ≤ 1000000 := by omega
        clear hlt2 hkm2 hn3
        go_upto_region 11 with (fail)
        go_cut [49] (fun v wc => v = .bool (!E a2 b2) ∧ Aside0 (Kd.R (Kd.scalar enc h1) 38 wc base ok (.slice (some ⟨g, 0, none⟩) xs.length cap) ys) ∧ Aside0 (w.grownBy wc (some g)))
        case first =>
         go_region_with (first
          | (go_at_call 57; refine (HCA.out _ (by first | exact grown_drewH HG2.out | exact HG2.out | exact grown_drewNH _ HG2.out)).mono ?_; rintro e w5 ⟨rfl, n5, rfl⟩)
          | fail)
         all_goals (
          go_wp2
          go_meet
          case rel => exact ⟨by first | rfl | (simp; done) | (cases E a2 b2 <;> rfl), ⟨Kd.R_drewN HR2.out _⟩, ⟨grown_drewNH _ HG2.out⟩⟩)
        case rest =>
         obtain ⟨rfl, HR3, HG3⟩ := hcut
         clear x0 y0 z0 f0 HR2 HG2 HCA
         obtain ⟨x0, _⟩ := cellsI HR3.out (kk + k2) (by have := HLT2.out; have := HN.out; omega)
         obtain ⟨z0, f0⟩ := cellsI HR3.out k (by have := HLT2.out; have := HN.out; omega)
         cases he2 : E a2 b2 with
         | true =>
          clear x0 z0 f0
          go_wp2
          go_roundw
          case rel => exact ⟨k, k2 + 1, ys, by omega, by have := HLT2.out; omega, hk0, by omega, rfl, by go_num, HYL, ⟨fun j hj => HYX.out j (by omega)⟩, ⟨by rw [← Nat.add_assoc, HC4.out, he2, if_pos rfl, List.append_nil]⟩, HR3, HG3⟩
          case measure => have := HLT2.out; simp [intOf]; omega
         | false =>
          rw [HYA.out] at x0
          have hp := putI HR3.out k hkx a2
          obtain ⟨A9, n9, c9, e9⟩ := hsl a2
          rw [e9] at x0 hp
          have HP := Aside0.mk hp
          clear hp e9
          go_wp2
          go_roundw
          case rel => exact ⟨k + 1, k2 + 1, ys.set k a2, by omega, by have := HLT2.out; omega, by omega, by omega, by go_num, by go_num, ⟨by rw [List.length_set]; exact HYL.out⟩, ⟨fun j hj => by
           rw [List.getD_eq_getElem?_getD, List.getElem?_set_ne (by omega), ← List.getD_eq_getElem?_getD]
           exact HYX.out j (by omega)⟩, ⟨by
           rw [← Nat.add_assoc, HC4.out, he2, if_neg (by simp), List.take_add_one, List.take_set_of_le (Nat.le_refl _), List.getElem?_set_self (by rw [HYL.out]; exact hkx)]
           rfl⟩, ⟨HP.out.1⟩, ⟨grown_thenH HG3.out HP.out.2⟩⟩
          case measure => have := HLT2.out; simp [intOf]; omega
       ·have hk2e : k2 = n2 := by omega
        have hkx : k < xs.length := by omega
        have HKN := Aside0.mk hk2e
        have hclr := clear_runI wr k (kk + n2 - k) (cap - k) (by omega) HR2.out (by omega)
        obtain ⟨ls, hlt, hls, hgs⟩ := clearI nz hnz (kk + n2 - k) wr k ys HR2.out (by omega)
        have HLS := Aside0.mk hls
        have HGS := Aside0.mk hgs
        have HTK := Aside0.mk hlt
        clear hls hgs hlt hk2e
        go_wp2
        go_ret
        exact ⟨_, rfl, by
         have e := HCM.out
         rw [HKN.out, ← HN.out] at e
         rw [e, ← HTK.out]
         exact Kd.R_take HLS.out (by have := (Kd.R_reads' HLS.out).1; omega), rfl, grown_thenH HG2.out HGS.out⟩
   ·have hkx : kk = xs.length := by omega
    have HKX := Aside0.mk hkx
    have hnl : ¬ kk < xs.length := hlt
    clear hkx
    go_wp2
    go_ret
    exact ⟨_, rfl, by
     have := HC.out
     rw [HKX.out, List.take_length] at this
     rw [this]
     exact HR1.out, rfl, HG.out⟩
end
theorem S_downI {w : World} {base : Nat} {v : Value} {ok : Nat → Prop} {xs : List (List Int)} (h : Kd.S (Kd.slice 2 kI) 38 w base ok v xs) :
  ∃ (enc : Nat → Value) (h1 : ∀ x, (enc x).oneCell' = true) (f : Nat → Nat), (∀ x, ∃ A m c, enc x = .slice A m c) ∧ (∀ i, xs.length ≤ i → enc i = .slice none 0 0) ∧ Kd.R (Kd.scalar enc h1) 38 w base ok v (List.range xs.length) ∧ ∀ i, i < xs.length → Kd.R kI 2 w base (fun k => (ok k ∧ some k ≠ v.ownBlock) ∧ f k = i) (enc i) (xs.getD i []) := by
 obtain ⟨f, h0⟩ := h
 obtain ⟨hok, inner, ho, hl, hr⟩ := h0
 have hs : (Kd.tag f (Kd.slice 2 kI)).sz = 1 := rfl
 have hzl : xs.zipIdx.length = xs.length := List.length_zipIdx
 rw [hs, Nat.mul_one, hzl] at hl
 have key : ∀ i, i < xs.length → ∃ u, inner[i]? = some u ∧ Kd.R kI 2 w base (fun k => (ok k ∧ some k ≠ v.ownBlock) ∧ f k = i) u (xs.getD i []) := by
  intro i hi
  have hz : xs.zipIdx[i]? = some (xs.getD i [], i) := Kd.zip_at (by rw [List.getD_eq_getElem?_getD, List.getElem?_eq_getElem hi]; rfl)
  obtain ⟨u, e, hv⟩ : ∃ u, ((inner.drop (i * 1)).take 1 = [u]) ∧ Kd.R kI 2 w base (fun k => (ok k ∧ some k ≠ v.ownBlock) ∧ f k = i) u (xs.getD i []) := hr i _ hz
  refine ⟨u, ?_, hv⟩
  rw [Nat.mul_one] at e
  rw [List.getElem?_eq_getElem (by omega)]
  rw [List.drop_eq_getElem_cons (show i < inner.length by omega), List.take_succ_cons] at e
  injection e with e _
  rw [e]
 have hsl : ∀ x, ∃ A m c, inner.getD x (.slice none 0 0) = .slice A m c := by
  intro x
  by_cases hx : x < xs.length
  ·obtain ⟨u, e, hv⟩ := key x hx
   obtain ⟨A, c, eu⟩ := Kd.R_slice hv
   exact ⟨A, _, c, by rw [List.getD_eq_getElem?_getD, e]; exact eu⟩
  ·rw [List.getD_eq_getElem?_getD, List.getElem?_eq_none (by omega)]
   exact ⟨_, _, _, rfl⟩
 refine ⟨fun i => inner.getD i (.slice none 0 0), fun x => ?_, f, hsl, fun i hi => ?_, ⟨hok, inner, ?_, ?_, ?_⟩, fun i hi => ?_⟩
 ·obtain ⟨A, m, c, e⟩ := hsl x
  show (inner.getD x (.slice none 0 0)).oneCell' = true
  rw [e]
  rfl
 ·show inner.getD i (.slice none 0 0) = _
  rw [List.getD_eq_getElem?_getD, List.getElem?_eq_none (by omega)]
  rfl
 ·rw [List.length_range]
  rw [hzl] at ho
  exact ho
 ·rw [List.length_range, hl]
  exact (Nat.mul_one _).symm
 ·intro j p hp
  obtain ⟨hj, e⟩ := List.getElem?_eq_some_iff.mp hp
  rw [List.getElem_range] at e
  subst e
  rw [List.length_range] at hj
  show (inner.drop (j * 1)).take 1 = [inner.getD j (.slice none 0 0)]
  rw [Nat.mul_one, List.drop_eq_getElem_cons (show j < inner.length by omega), List.take_succ_cons, List.take_zero, List.getD_eq_getElem?_getD, List.getElem?_eq_getElem (show j < inner.length by omega)]
  rfl
 ·obtain ⟨u, e, hv⟩ := key i hi
  show Kd.R kI 2 w base _ (inner.getD i (.slice none 0 0)) _
  rw [List.getD_eq_getElem?_getD, e]
  exact hv
theorem S_upI {W : World} {base : Nat} {v : Value} {ok : Nat → Prop} {enc : Nat → Value} {h1 : ∀ x, (enc x).oneCell' = true} {f : Nat → Nat} {is : List Nat} {rows : Nat → List Int} (hn : is.Nodup) (h : Kd.R (Kd.scalar enc h1) 38 W base ok v is) (hrow : ∀ i, i ∈ is → Kd.R kI 2 W base (fun k => (ok k ∧ some k ≠ v.ownBlock) ∧ f k = i) (enc i) (rows i)) :
  Kd.S (Kd.slice 2 kI) 38 W base ok v (is.map rows) := by
 obtain ⟨hok, inner, ho, hl, hr⟩ := h
 refine ⟨fun k => is.idxOf (f k), hok, inner, ?_, ?_, ?_⟩
 ·rw [List.length_zipIdx, List.length_map]
  exact ho
 ·rw [List.length_zipIdx, List.length_map]
  exact hl
 ·intro j p hp
  have hj : j < is.length := by
   have := (List.getElem?_eq_some_iff.1 hp).1
   rwa [List.length_zipIdx, List.length_map] at this
  have hp2 : p = (rows is[j], j) := by
   have hz : (is.map rows).zipIdx[j]? = some (rows is[j], j) := Kd.zip_at (by rw [List.getElem?_map, List.getElem?_eq_getElem hj]; rfl)
   rw [hz] at hp
   exact (Option.some.inj hp).symm
  subst hp2
  have e : (inner.drop (j * 1)).take 1 = [enc is[j]] := hr j is[j] (List.getElem?_eq_getElem hj)
  refine ⟨enc is[j], e, Kd.R_mono (hrow is[j] (List.getElem_mem hj)) (fun k hk => ⟨hk.1, ?_⟩)⟩
  show is.idxOf (f k) = j
  rw [hk.2]
  exact hn.idxOf_getElem j hj
theorem cmpL_refl : ∀ a : List Int, cmpL a a = 0
 | [] => rfl
 | a :: r => by
  unfold cmpL
  rw [if_neg (by omega), if_neg (by omega)]
  exact cmpL_refl r
theorem cmpL_anti : ∀ a b : List Int, cmpL b a = - cmpL a b
 | [], [] => rfl
 | [], _ :: _ => rfl
 | _ :: _, [] => rfl
 | a :: r, b :: s => by
  unfold cmpL
  by_cases h : a < b
  ·rw [if_neg (by omega), if_pos h, if_pos h]
   rfl
  ·by_cases h2 : b < a
   ·rw [if_pos h2, if_neg h, if_pos h2]
   ·rw [if_neg h2, if_neg h, if_neg h, if_neg h2]
    exact cmpL_anti r s
theorem cmpL_zero : ∀ a b : List Int, cmpL a b = 0 → a = b
 | [], [], _ => rfl
 | [], _ :: _, h => by simp [cmpL] at h
 | _ :: _, [], h => by simp [cmpL] at h
 | a :: r, b :: s, h => by
  unfold cmpL at h
  by_cases h1 : a < b
  ·rw [if_pos h1] at h; omega
  ·rw [if_neg h1] at h
   by_cases h2 : b < a
   ·rw [if_pos h2] at h; omega
   ·rw [if_neg h2] at h
    rw [cmpL_zero r s h, show a = b by omega]
theorem cmpL_trans : ∀ a b c : List Int, cmpL a b ≤ 0 → cmpL b c ≤ 0 → cmpL a c ≤ 0 ∧ (cmpL a b < 0 ∨ cmpL b c < 0 → cmpL a c < 0)
 | [], b, [], h, h2 => by
  refine ⟨Int.le_refl _, fun hh => ?_⟩
  cases b with
  | nil => rcases hh with hh | hh <;> (simp [cmpL] at hh)
  | cons y s => simp [cmpL] at h2
 | [], b, z :: t, h, h2 => by simp [cmpL]
 | x :: r, [], c, h, h2 => by simp [cmpL] at h
 | x :: r, y :: s, [], h, h2 => by simp [cmpL] at h2
 | x :: r, y :: s, z :: t, h, h2 => by
  unfold cmpL at h h2 ⊢
  by_cases c1 : x < y
  ·rw [if_pos c1] at h ⊢
   by_cases c2 : y < z
   ·rw [if_pos (show x < z by omega)]
    exact ⟨by omega, fun _ => by omega⟩
   ·rw [if_neg c2] at h2
    by_cases c3 : z < y
    ·rw [if_pos c3] at h2; omega
    ·rw [if_pos (show x < z by omega)]
     exact ⟨by omega, fun _ => by omega⟩
  ·rw [if_neg c1] at h ⊢
   by_cases c2 : y < x
   ·rw [if_pos c2] at h; omega
   ·rw [if_neg c2] at h ⊢
    have e : x = y := by omega
    subst e
    by_cases c3 : x < z
    ·rw [if_pos c3, if_pos c3]
     exact ⟨by omega, fun _ => by omega⟩
    ·rw [if_neg c3] at h2 ⊢
     by_cases c4 : z < x
     ·rw [if_pos c4] at h2; omega
     ·rw [if_neg c4] at h2 ⊢
      rw [if_neg c3, if_neg c4]
      exact cmpL_trans r s t h h2
theorem cmpL_swo (x : Nat → List Int) : Sort.SWO (ltOf fun i j => cmpL (x i) (x j)) where
 irrefl i := by
  unfold ltOf
  rw [decide_eq_false_iff_not]
  show ¬ cmpL (x i) (x i) < 0
  rw [cmpL_refl]
  omega
 trans i j k h1 h2 := by
  unfold ltOf at *
  rw [decide_eq_true_eq] at *
  dsimp only at h1 h2 ⊢
  exact (cmpL_trans _ _ _ (by omega) (by omega)).2 (Or.inl h1)
 ntrans i j k h1 h2 := by
  unfold ltOf at *
  rw [decide_eq_false_iff_not] at *
  dsimp only at h1 h2 ⊢
  have b1 := cmpL_anti (x i) (x j)
  have b2 := cmpL_anti (x j) (x k)
  have b3 := cmpL_anti (x i) (x k)
  have := (cmpL_trans (x k) (x j) (x i) (by omega) (by omega)).1
  omega
theorem strict_ext : ∀ (a b : List (List Int)), a.Pairwise (fun x y => cmpL x y < 0) → b.Pairwise (fun x y => cmpL x y < 0) → (∀ x, x ∈ a ↔ x ∈ b) → a = b
 | [], [], _, _, _ => rfl
 | [], y :: s, _, _, h => by
  have := (h y).2 List.mem_cons_self
  simp at this
 | x :: r, [], _, _, h => by
  have := (h x).1 List.mem_cons_self
  simp at this
 | x :: r, y :: s, ha, hb, h => by
  rw [List.pairwise_cons] at ha hb
  have hxy : x = y := by
   rcases List.mem_cons.1 ((h x).1 List.mem_cons_self) with e | e
   ·exact e
   ·rcases List.mem_cons.1 ((h y).2 List.mem_cons_self) with e2 | e2
    ·exact e2.symm
    ·have h1 := hb.1 x e
     have h2 := ha.1 y e2
     have := cmpL_anti x y
     omega
  subst hxy
  have hn : ∀ z, cmpL x z < 0 → z ≠ x := fun z hz e => by
   rw [e, cmpL_refl] at hz
   omega
  rw [strict_ext r s ha.2 hb.2 (fun z => ?_)]
  constructor
  ·intro hz
   rcases List.mem_cons.1 ((h z).1 (List.mem_cons_of_mem _ hz)) with e | e
   ·exact absurd e (hn z (ha.1 z hz))
   ·exact e
  ·intro hz
   rcases List.mem_cons.1 ((h z).2 (List.mem_cons_of_mem _ hz)) with e | e
   ·exact absurd e (hn z (hb.1 z hz))
   ·exact e
theorem cmpH_memI {x : Nat → List Int} {E : Nat → Nat → Bool} (hE : ∀ i j, E i j = true ↔ x i = x j) (is : List Nat) : ∀ m, m ≤ is.length → ∀ a, a ∈ (cmpH E is m).map x ↔ a ∈ (is.take m).map x
 | 0, _, a => by simp [cmpH]
 | m + 1, hm, a => by
  have ih := cmpH_memI hE is m (by omega)
  have ht : is.take (m + 1) = is.take m ++ [is.getD m 0] := by
   rw [List.take_succ_eq_append_getElem (by omega)]
   simp [List.getD_eq_getElem?_getD, List.getElem?_eq_getElem (show m < is.length by omega)]
  rw [ht, cmpH, List.map_append, List.mem_append, List.map_append, List.mem_append, ih a]
  by_cases h : 0 < m ∧ E (is.getD m 0) (is.getD (m - 1) 0) = true
  ·rw [if_pos h]
   have e := (hE _ _).1 h.2
   have hin : x (is.getD (m - 1) 0) ∈ (is.take m).map x := by
    refine List.mem_map.2 ⟨_, ?_, rfl⟩
    rw [List.mem_take_iff_getElem]
    refine ⟨m - 1, by omega, ?_⟩
    simp [List.getD_eq_getElem?_getD, List.getElem?_eq_getElem (show m - 1 < is.length by omega)]
   constructor
   ·rintro (h1 | h1)
    ·exact Or.inl h1
    ·simp at h1
   ·rintro (h1 | h1)
    ·exact Or.inl h1
    ·simp only [List.map_cons, List.map_nil, List.mem_singleton] at h1
     rw [h1, e]
     exact Or.inl hin
  ·rw [if_neg h]
theorem cmpH_sub (E : Nat → Nat → Bool) (is : List Nat) : ∀ m, m ≤ is.length → (cmpH E is m).Sublist (is.take m)
 | 0, _ => by simp [cmpH]
 | m + 1, hm => by
  have ht : is.take (m + 1) = is.take m ++ [is.getD m 0] := by
   rw [List.take_succ_eq_append_getElem (by omega)]
   simp [List.getD_eq_getElem?_getD, List.getElem?_eq_getElem (show m < is.length by omega)]
  rw [ht, cmpH]
  refine (cmpH_sub E is m (by omega)).append ?_
  split
  ·exact List.nil_sublist _
  ·exact List.Sublist.refl _
theorem cmpH_strict {x : Nat → List Int} {E : Nat → Nat → Bool} (hE : ∀ i j, E i j = true ↔ x i = x j) (is : List Nat) (hs : ∀ i j, i < j → j < is.length → cmpL (x (is.getD i 0)) (x (is.getD j 0)) ≤ 0) : ∀ m, m ≤ is.length → (cmpH E is m).Pairwise (fun i j => cmpL (x i) (x j) < 0)
 | 0, _ => List.Pairwise.nil
 | m + 1, hm => by
  have ih := cmpH_strict hE is hs m (by omega)
  rw [cmpH]
  by_cases h : 0 < m ∧ E (is.getD m 0) (is.getD (m - 1) 0) = true
  ·rw [if_pos h, List.append_nil]
   exact ih
  ·rw [if_neg h, List.pairwise_append]
   refine ⟨ih, List.pairwise_singleton _ _, fun a ha b hb => ?_⟩
   obtain rfl := List.mem_singleton.1 hb
   have ha2 := (cmpH_sub E is m (by omega)).subset ha
   rw [List.mem_take_iff_getElem] at ha2
   obtain ⟨i, hi, rfl⟩ := ha2
   have him : i < m := by omega
   have e1 : is[i] = is.getD i 0 := by simp [List.getD_eq_getElem?_getD, List.getElem?_eq_getElem (show i < is.length by omega)]
   rw [e1]
   have hne : x (is.getD m 0) ≠ x (is.getD (m - 1) 0) := fun e => h ⟨by omega, (hE _ _).2 e⟩
   have h1 : cmpL (x (is.getD (m - 1) 0)) (x (is.getD m 0)) < 0 := by
    have h2 := hs (m - 1) m (by omega) (by omega)
    have h3 : cmpL (x (is.getD (m - 1) 0)) (x (is.getD m 0)) ≠ 0 := fun e => hne (cmpL_zero _ _ e).symm
    omega
   by_cases hi2 : i = m - 1
   ·rw [hi2]; exact h1
   ·exact (cmpL_trans _ _ _ (hs i (m - 1) (by omega) (by omega)) (by omega)).2 (Or.inr h1)
theorem cpr_run (a b : List Int) (ha : a.length ≤ 1000000) : ∀ (d i : Nat), i + d = a.length → i ≤ b.length → slices_Compare_int64_int64.l0 (d + 1) a b a (a.length : Int) (i : Int) = some (cmpL (a.drop i) (b.drop i))
 | 0, i, h, hb => by
  unfold slices_Compare_int64_int64.l0
  rw [if_neg (by omega), List.drop_of_length_le (show a.length ≤ i by omega)]
  by_cases hl : a.length < b.length
  ·rw [if_pos (by omega), List.drop_eq_getElem_cons (show i < b.length by omega)]
   rfl
  ·rw [if_neg (by omega), List.drop_of_length_le (by omega)]
   rfl
 | d + 1, i, h, hb => by
  have hi : i < a.length := by omega
  unfold slices_Compare_int64_int64.l0
  rw [if_pos (by omega), if_pos (by omega), if_pos (by omega), List.drop_eq_getElem_cons hi]
  by_cases hl : i < b.length
  ·have ea : rd a (i : Int) = a[i] := by simp [rd, List.getD_eq_getElem?_getD, List.getElem?_eq_getElem hi]
   have eb : rd b (i : Int) = b[i] := by simp [rd, List.getD_eq_getElem?_getD, List.getElem?_eq_getElem hl]
   rw [if_neg (by omega), if_pos (by omega), List.drop_eq_getElem_cons hl, cmpL, ea, eb, cmpI_ok, Option.bind_some, show wrap64 ((i : Int) + 1) = ((i + 1 : Nat) : Int) by unfold wrap64; omega]
   by_cases h1 : a[i] < b[i]
   ·rw [if_pos h1, if_pos h1, if_neg (by omega)]
   ·rw [if_neg h1, if_neg h1]
    by_cases h2 : b[i] < a[i]
    ·rw [if_pos h2, if_pos h2, if_neg (by omega)]
    ·rw [if_neg h2, if_neg h2, if_pos rfl]
     exact cpr_run a b ha d (i + 1) (by omega) (by omega)
  ·rw [if_pos (by omega), List.drop_of_length_le (show b.length ≤ i by omega)]
   rfl
theorem cpr_f (a b : List Int) (ha : a.length ≤ 1000000) : slices_Compare_int64_int64.f (a.length + 1) a b = some (cmpL a b) := by
 unfold slices_Compare_int64_int64.f
 have h := cpr_run a b ha a.length 0 (by omega) (by omega)
 rwa [List.drop_zero, List.drop_zero] at h
theorem eqI_run (a b : List Int) (hl : a.length = b.length) (ha : a.length ≤ 1000000) : ∀ (d i : Nat), i + d = a.length → slices_Equal_int64_int64.l0 (d + 1) a b (a.length : Int) (i : Int) = some (decide (a.drop i = b.drop i))
 | 0, i, h => by
  unfold slices_Equal_int64_int64.l0
  rw [if_neg (by omega), List.drop_of_length_le (by omega), List.drop_of_length_le (by omega)]
  simp
 | d + 1, i, h => by
  have hi : i < a.length := by omega
  have hj : i < b.length := by omega
  have ea : rd a (i : Int) = a[i] := by simp [rd, List.getD_eq_getElem?_getD, List.getElem?_eq_getElem hi]
  have eb : rd b (i : Int) = b[i] := by simp [rd, List.getD_eq_getElem?_getD, List.getElem?_eq_getElem hj]
  unfold slices_Equal_int64_int64.l0
  rw [if_pos (by omega), if_pos (by omega), if_pos (by omega), if_pos (by omega), ea, eb, List.drop_eq_getElem_cons hi, List.drop_eq_getElem_cons hj, show wrap64 ((i : Int) + 1) = ((i + 1 : Nat) : Int) by unfold wrap64; omega]
  by_cases h0 : a[i] = b[i]
  ·rw [if_pos h0, eqI_run a b hl ha d (i + 1) (by omega)]
   exact congrArg some (decide_eq_decide.2 ⟨fun h => by rw [h, h0], fun h => (List.cons.inj h).2⟩)
  ·rw [if_neg h0]
   exact congrArg some (decide_eq_false (fun h => h0 (List.cons.inj h).1)).symm
theorem eqI_f (a b : List Int) (ha : a.length ≤ 1000000) : slices_Equal_int64_int64.f (a.length + 1) a b = some (decide (a = b)) := by
 unfold slices_Equal_int64_int64.f
 by_cases hl : a.length = b.length
 ·rw [if_pos (by omega)]
  have h := eqI_run a b hl ha a.length 0 (by omega)
  rwa [List.drop_zero, List.drop_zero] at h
 ·rw [if_neg (by omega), decide_eq_false (fun e => hl (by rw [e]))]
set_option maxHeartbeats 1600000 in
theorem spots1_lays (a b : List Int) (A B : Option Addr) (ca cb : Nat) (W : World) (hA : Kd.C kI W A a.length a) (hB : Kd.C kI W B b.length b) (hca : a.length ≤ ca) (hcb : b.length ≤ cb) (hl : a.length ≤ 1000000) :
  Calls Tryz.prog 54 #[.slice A a.length ca, .slice B b.length cb] W fun e w' => e = .returned (.int .i64 (cmpL a b)) ∧ ∃ q os', w' = Sort.grow (W.drewN q) os' := by
 have HA := Aside0.mk hA
 have HB := Aside0.mk hB
 have HF := Aside0.mk (cpr_f a b hl)
 clear hA hB
 go_enter Tryz.func54, Tryz.ntmps54
 go_wp2_with (go_at_call 55; (with_reducible refine (slices_Compare_int64_int64.calls _ _ _ a _ _ b _ _ HA.out hca HB.out hcb HF.out).mono ?_); rintro e w5 ⟨rfl, n5, rfl⟩)
 go_ret
 exact ⟨rfl, n5, #[], by rw [Sort.grow_empty]⟩
set_option maxHeartbeats 1600000 in
theorem spots2_eq (a b : List Int) (A B : Option Addr) (ca cb : Nat) (W : World) (hA : Kd.C kI W A a.length a) (hB : Kd.C kI W B b.length b) (hca : a.length ≤ ca) (hcb : b.length ≤ cb) (hl : a.length ≤ 1000000) :
  Calls Tryz.prog 57 #[.slice A a.length ca, .slice B b.length cb] W fun e w' => e = .returned (.bool (decide (a = b))) ∧ Drawn0 W w' := by
 have HA := Aside0.mk hA
 have HB := Aside0.mk hB
 have HF := Aside0.mk (eqI_f a b hl)
 clear hA hB
 generalize decide (a = b) = r at HF ⊢
 go_enter Tryz.func57, Tryz.ntmps57
 go_wp2_with (go_at_call 58; (with_reducible refine (slices_Equal_int64_int64.calls _ _ _ a _ _ b _ _ HA.out hca HB.out hcb HF.out).mono ?_); rintro e w5 ⟨rfl, n5, rfl⟩)
 go_ret
 exact ⟨rfl, n5, rfl⟩
theorem hreadI {w : World} {base g n cap : Nat} {ok : Nat → Prop} {xs : List (List Int)} {enc : Nat → Value} {f : Nat → Nat} (hnil : ∀ i, xs.length ≤ i → enc i = .slice none 0 0) (hrow : ∀ i, i < xs.length → Kd.R kI 2 w base (fun k => (ok k ∧ some k ≠ (Value.slice (some ⟨g, 0, none⟩) n cap).ownBlock) ∧ f k = i) (enc i) (xs.getD i [])) (W : World) (hW : w.grownBy W (some g)) (i : Nat) :
  ∃ A c, enc i = .slice A (xs.getD i []).length c ∧ (xs.getD i []).length ≤ c ∧ Kd.C kI W A (xs.getD i []).length (xs.getD i []) := by
 by_cases hi : i < xs.length
 ·have h2 := Kd.R_step (w1 := W) (hrow i hi) (fun k hk hlt => hW.block k hlt (fun e => hk.1.2 (by rw [e]; rfl)))
  exact Kd.R_reads h2
 ·have e2 : xs.getD i [] = [] := by rw [List.getD_eq_getElem?_getD, List.getElem?_eq_none (by omega)]; rfl
  rw [e2, hnil i (by omega)]
  exact ⟨none, 0, rfl, Nat.le_refl _, Kd.C_nil _ _⟩
theorem sortR_own (xs : List (List Int)) (hxl : ∀ i, (xs.getD i []).length ≤ 1000000) (w : World) (base g cap : Nat) (ok : Nat → Prop) {enc : Nat → Value} {h1 : ∀ x, (enc x).oneCell' = true}
  (hR : Kd.R (Kd.scalar enc h1) 38 w base ok (.slice (some ⟨g, 0, none⟩) xs.length cap) (List.range xs.length)) (hread : ∀ W, w.grownBy W (some g) → ∀ i, ∃ A c, enc i = .slice A (xs.getD i []).length c ∧ (xs.getD i []).length ≤ c ∧ Kd.C kI W A (xs.getD i []).length (xs.getD i [])) (hl : xs.length ≤ 1000000) :
  Calls Tryz.prog 53 #[.slice (some ⟨g, 0, none⟩) xs.length cap, .func (.func 54) #[] #[]] w fun e w' => e = .returned (.tuple #[]) ∧ ∃ d : List Nat, d.length = xs.length ∧ d.Perm (List.range xs.length) ∧ (∀ i j, i < j → j < d.length → cmpL (xs.getD (d.getD i 0) []) (xs.getD (d.getD j 0) []) ≤ 0) ∧ Kd.R (Kd.scalar enc h1) 38 w' base ok (.slice (some ⟨g, 0, none⟩) xs.length cap) d ∧ w.grownBy w' (some g) := by
 have hg : g < w.heap.size := Kd.R_lt hR g rfl
 have hcmp : CmpLays1 Tryz.prog 54 #[] enc (fun i j => cmpL (xs.getD i []) (xs.getD j [])) g 0 (List.range xs.length).toArray.size w := by
  intro m os dk hdk i j
  have hW : w.grownBy (sortWorld enc w g 0 m dk os) (some g) := by
   have hA : Kd.R (Kd.scalar enc h1) 38 (Sort.ahead w m) base ok (.slice (some ⟨g, 0, none⟩) xs.length cap) (List.range xs.length) := Kd.R_drewN hR m
   obtain ⟨_, g1⟩ := putRowX hA dk.toList (by simpa using hdk)
   refine ⟨g1.os, g1.tape, g1.output, Nat.le_trans g1.size (by
    have h9 := Sort.size_grow (Sort.putRow enc (Sort.ahead w m) g 0 dk.toList.toArray) os
    show _ ≤ (Sort.grow (Sort.putRow enc (Sort.ahead w m) g 0 dk.toList.toArray) os).heap.size
    omega), fun k hk hne => (Sort.heap_grow_old _ _ (Nat.lt_of_lt_of_le hk g1.size)).trans (g1.block k hk hne)⟩
  obtain ⟨A, ca, ea, la, ra⟩ := hread _ hW i
  obtain ⟨B, cb, eb, lb, rb⟩ := hread _ hW j
  rw [ea, eb]
  exact spots1_lays _ _ A B ca cb _ ra rb la lb (hxl i)
 have eg : ∀ args w, (callFunc 54 args).run Tryz.prog w = .ok (.enter 54 args) w := enters_of Tryz.func54 (by kernel_rfl) rfl
 have hcon := Any.slices_SortFunc Tryz.sortR enc (fun x => h1 x) (fun i j => cmpL (xs.getD i []) (xs.getD j [])) (cmpL_swo fun i => xs.getD i []) 54 #[] g 0 cap (List.range xs.length).toArray w eg hcmp (holdsX hR) hg (by simp; omega)
 change Calls Tryz.prog 53 _ _ _ at hcon
 have hsz : (List.range xs.length).toArray.size = xs.length := by simp
 rw [hsz] at hcon
 refine hcon.mono ?_
 rintro e w1 ⟨rfl, d, n, os, hperm, hsrt, hw1⟩
 obtain ⟨hds, _, hp2⟩ := hperm
 have hdl : d.toList.length = xs.length := by simpa using hds
 have hP : d.toList.Perm (List.range xs.length) := by
  have hdz : d.size = xs.length := by simpa using hds
  have e1 : d.extract 0 xs.length = d := by rw [← hdz]; simp
  have e2 : ((List.range xs.length).toArray.extract 0 xs.length).toList = List.range xs.length := by
   have e3 : (List.range xs.length).toArray.extract 0 (List.range xs.length).toArray.size = (List.range xs.length).toArray := by simp
   rw [hsz] at e3
   rw [e3]
  rw [e1, e2] at hp2
  exact hp2
 have hA : Kd.R (Kd.scalar enc h1) 38 (Sort.ahead w n) base ok (.slice (some ⟨g, 0, none⟩) xs.length cap) (List.range xs.length) := Kd.R_drewN hR n
 obtain ⟨h2, g1⟩ := putRowX hA d.toList (by rw [hdl]; simp)
 refine ⟨rfl, d.toList, hdl, hP, ?_, ?_, ?_⟩
 ·intro i j hij hj
  have h3 := hsrt i j (Nat.zero_le _) hij (by rw [← hdl]; exact hj)
  unfold ltOf at h3
  rw [decide_eq_false_iff_not] at h3
  dsimp only at h3
  have e : ∀ q, q < d.toList.length → d[q]! = d.toList.getD q 0 := fun q hq => by
   rw [getElem!_pos d q (by simpa using hq)]
   simp [List.getD_eq_getElem?_getD, List.getElem?_eq_getElem hq]
  rw [e i (by omega), e j hj] at h3
  have := cmpL_anti (xs.getD (d.toList.getD i 0) []) (xs.getD (d.toList.getD j 0) [])
  omega
 ·rw [hw1]
  exact Kd.R_step h2 (fun k _ hk => Sort.heap_grow_old _ _ hk)
 ·rw [hw1]
  exact ⟨g1.os, g1.tape, g1.output, Nat.le_trans g1.size (by
   have h9 := Sort.size_grow (Sort.putRow enc (Sort.ahead w n) g 0 d.toList.toArray) os
   show _ ≤ (Sort.grow (Sort.putRow enc (Sort.ahead w n) g 0 d.toList.toArray) os).heap.size
   omega), fun k hk hne => (Sort.heap_grow_old _ _ (Nat.lt_of_lt_of_le hk g1.size)).trans (g1.block k hk hne)⟩
def okSp (m : List Int) : Prop := (Lib.compact (sortI m)).length = m.length
instance (m : List Int) : Decidable (okSp m) := by unfold okSp; exact inferInstance
def spotI1 (W H : Nat) (f : List S66) (out : List (List Int)) (n : Nat) : List (List Int) := if okSp (f.map (torAt W H n)) then out ++ [sortI (f.map (torAt W H n))] else out
def spotIF (W H : Nat) (out : List (List Int)) (f : List S66) : List (List Int) := (List.range (W * H)).foldl (spotI1 W H f) out
def spotsI (W H : Nat) (fs : List (List S66)) : List (List Int) := fs.foldl (spotIF W H) []
theorem spotI1_mem (W H : Nat) (f : List S66) (a : List Int) : ∀ (l : List Nat) (out : List (List Int)), a ∈ l.foldl (spotI1 W H f) out ↔ a ∈ out ∨ ∃ n ∈ l, okSp (f.map (torAt W H n)) ∧ a = sortI (f.map (torAt W H n))
 | [], out => by simp
 | n :: r, out => by
  rw [List.foldl_cons, spotI1_mem W H f a r]
  unfold spotI1
  by_cases h : okSp (f.map (torAt W H n))
  ·rw [if_pos h, List.mem_append, List.mem_singleton]
   constructor
   ·rintro ((h1 | h1) | ⟨m, h1, h2⟩)
    ·exact Or.inl h1
    ·exact Or.inr ⟨n, List.mem_cons_self, h, h1⟩
    ·exact Or.inr ⟨m, List.mem_cons_of_mem _ h1, h2⟩
   ·rintro (h1 | ⟨m, h1, h2⟩)
    ·exact Or.inl (Or.inl h1)
    ·rcases List.mem_cons.1 h1 with e | e
     ·subst e
      exact Or.inl (Or.inr h2.2)
     ·exact Or.inr ⟨m, e, h2⟩
  ·rw [if_neg h]
   constructor
   ·rintro (h1 | ⟨m, h1, h2⟩)
    ·exact Or.inl h1
    ·exact Or.inr ⟨m, List.mem_cons_of_mem _ h1, h2⟩
   ·rintro (h1 | ⟨m, h1, h2⟩)
    ·exact Or.inl h1
    ·rcases List.mem_cons.1 h1 with e | e
     ·subst e
      exact absurd h2.1 h
     ·exact Or.inr ⟨m, e, h2⟩
theorem spotsI_mem (W H : Nat) (a : List Int) : ∀ (fs : List (List S66)) (out : List (List Int)), a ∈ fs.foldl (spotIF W H) out ↔ a ∈ out ∨ ∃ f ∈ fs, ∃ n, n < W * H ∧ okSp (f.map (torAt W H n)) ∧ a = sortI (f.map (torAt W H n))
 | [], out => by simp
 | f :: r, out => by
  rw [List.foldl_cons, spotsI_mem W H a r]
  unfold spotIF
  rw [spotI1_mem]
  constructor
  ·rintro ((h1 | ⟨n, h1, h2⟩) | ⟨g, h1, h2⟩)
   ·exact Or.inl h1
   ·exact Or.inr ⟨f, List.mem_cons_self, n, List.mem_range.1 h1, h2⟩
   ·exact Or.inr ⟨g, List.mem_cons_of_mem _ h1, h2⟩
  ·rintro (h1 | ⟨g, h1, n, h2, h3⟩)
   ·exact Or.inl (Or.inl h1)
   ·rcases List.mem_cons.1 h1 with e | e
    ·subst e
     exact Or.inl (Or.inr ⟨n, List.mem_range.2 h2, h3⟩)
    ·exact Or.inr ⟨g, e, n, h2, h3⟩
end Go.Proofs.YtbphiipcnjelbaaGreat.Q

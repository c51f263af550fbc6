/- Written by a program of this session (wip/tools/pp.py) out of the translation, with the kit's printer. -/
import Derived.Test.YtbphiipcnjelbaaGreatQ0
import Derived.Test.YtbphiipcnjelbaaGreatQ8
import Derived.LoopTactic
import Derived.Deep.RegionWith
import Derived.Shelf.SlSortCmp.Kit1
namespace Go.Proofs.YtbphiipcnjelbaaGreat.Q
open Go.RowKit Go.Proofs.YtbphiipcnjelbaaGreatW.PrintWords Go.Proofs.YtbphiipcnjelbaaGreatW.PrintLast Go.Proofs.YtbphiipcnjelbaaGreatW.PrintMore
attribute [local go_sem] max2_int min2_int max_two min_two max_three min_three max_four min_four
set_option linter.unusedVariables false
set_option linter.unusedSimpArgs false
def cmpC2 (a b : S66) : Int := if a.f1 < b.f1 then -1 else if b.f1 < a.f1 then 1 else if a.f0 < b.f0 then -1 else if b.f0 < a.f0 then 1 else 0
theorem cmpI_ok (x y : Int) : cmp_Compare_int64.f x y = some (if x < y then -1 else if y < x then 1 else 0) := by
 unfold cmp_Compare_int64.f cmp_isNaN_int64.f
 simp
 split <;> (try split) <;> (try rfl) <;> omega
theorem drew_grow (W : World) (os : Array Obj) (n : Nat) : (Sort.grow W os).drewN n = Sort.grow (W.drewN n) os := rfl
set_option maxRecDepth 100000 in
set_option maxHeartbeats 1000000 in
theorem cmp_lays (a b : S66) (W : World) : Calls Tryz.prog 120 #[.agg #[.int .i64 a.f0, .int .i64 a.f1], .agg #[.int .i64 b.f0, .int .i64 b.f1]] W fun e w' => e = .returned (.int .i64 (cmpC2 a b)) ∧ ∃ q os', w' = Sort.grow (W.drewN q) os' := by
 have hu34 := Tryz.underlying66
 have h1 := cmpI_ok a.f1 b.f1
 have h2 := cmpI_ok a.f0 b.f0
 generalize hr : (if a.f1 < b.f1 then (-1 : Int) else if b.f1 < a.f1 then 1 else 0) = r at h1
 generalize hs : (if a.f0 < b.f0 then (-1 : Int) else if b.f0 < a.f0 then 1 else 0) = s at h2
 have e : cmpC2 a b = if r = 0 then s else r := by
  unfold cmpC2
  rw [← hr, ← hs]
  split
  ·rfl
  ·split
   ·rfl
   ·rfl
 rw [e]
 have HA := Aside0.mk h1
 have HB := Aside0.mk h2
 clear h1 h2 hr hs e
 by_cases h0 : r = 0
 ·rw [if_pos h0]
  subst h0
  go_enter Tryz.func120, Tryz.ntmps120
  go_wp2_with (first
   | (go_at_call 73; (with_reducible refine (cmp_Compare_int64.calls a.f1 b.f1 0 _ HA.out).mono ?_); rintro e w' ⟨rfl, ⟨n1, rfl⟩⟩)
   | (go_at_call 73; (with_reducible refine (cmp_Compare_int64.calls a.f0 b.f0 s _ HB.out).mono ?_); rintro e w' ⟨rfl, ⟨n2, rfl⟩⟩))
  go_ret
  exact ⟨rfl, _, _, by simp only [Sort.alloc_eq_grow, Sort.grow_grow, drew_grow]; rfl⟩
 ·rw [if_neg h0]
  have hb0 : (r == 0) = false := by simpa using h0
  have hb1 : (r != 0) = true := by simpa using h0
  go_enter Tryz.func120, Tryz.ntmps120
  go_wp2_with (go_at_call 73; (with_reducible refine (cmp_Compare_int64.calls a.f1 b.f1 r _ HA.out).mono ?_); rintro e w' ⟨rfl, ⟨n1, rfl⟩⟩)
  go_ret
  exact ⟨rfl, _, _, by simp only [Sort.alloc_eq_grow, Sort.grow_grow, drew_grow]; rfl⟩
def lexC : List S66 → List S66 → Int
 | [], [] => 0
 | [], _ :: _ => -1
 | _ :: _, [] => 1
 | a :: r, b :: s => if cmpC2 a b = 0 then lexC r s else cmpC2 a b
def cmpS (a b : List S66) : Int := if a.length = b.length then lexC a b else if a.length < b.length then -1 else 1
theorem drewN2 (W : World) (a b : Nat) : (W.drewN a).drewN b = W.drewN (a + b) := by simp [World.drewN, Nat.add_assoc]
theorem growB (W : World) (q : Nat) (os : Array Obj) : Below W.heap.size W (Sort.grow (W.drewN q) os) :=
 ⟨rfl, rfl, rfl, by have h := Sort.size_grow (W.drewN q) os; have h2 : (W.drewN q).heap.size = W.heap.size := rfl; omega, fun k hk => (Sort.heap_grow_old _ _ hk).trans rfl⟩
set_option maxRecDepth 100000 in
set_option maxHeartbeats 1600000 in
theorem impl_compareShapes.lex (a b : List S66) (A B : Option Addr) (ca cb : Nat) (W : World) (hA : Kd.C k66 W A a.length a) (hB : Kd.C k66 W B b.length b) (hca : a.length ≤ ca) (hcb : b.length ≤ cb) (hl : a.length = b.length) :
  Calls Tryz.prog 122 #[.slice A a.length ca, .slice B b.length cb, .func (.func 120) #[] #[]] W fun e w' => e = .returned (.int .i64 (lexC a b)) ∧ ∃ q os', w' = Sort.grow (W.drewN q) os' := by
 have hlen := hA.2.1
 have hu34 := Tryz.underlying66
 obtain ⟨n, hn⟩ : ∃ n, n = a.length := ⟨_, rfl⟩
 have hnb : n = b.length := hn.trans hl
 rw [← hn] at hA hca hlen ⊢
 rw [← hnb] at hB hcb ⊢
 have HA := Aside0.mk hA
 have HB := Aside0.mk hB
 have HN := Aside0.mk hn
 have HNB := Aside0.mk hnb
 clear hA hB hl hn hnb
 go_enter Tryz.func122, Tryz.ntmps122
 go_wp2
 go_loopw [13] (fun i wr => ∃ kk : Nat, kk ≤ n ∧ i = .int .i64 (kk : Int) ∧ Aside0 (lexC (a.drop kk) (b.drop kk) = lexC a b) ∧ Aside0 (∃ q os', wr = Sort.grow (W.drewN q) os')) (fun i _ => n - (intOf i).toNat)
 case atStart => exact ⟨0, Nat.zero_le _, rfl, ⟨rfl⟩, ⟨0, #[], by simp [Sort.grow_empty]; rfl⟩⟩
 case round =>
  obtain ⟨kk, hk, rfl, HL, HG⟩ := hrel
  obtain ⟨q0, os0, hwr⟩ := HG.out
  have hbel : Below W.heap.size W wr := by rw [hwr]; exact growB W q0 os0
  by_cases hlt : kk < n
  ·obtain ⟨ad, e, x0, x1⟩ := at_T66 (Kd.C_below HA.out hbel) (kk : Int) (by omega) (by omega)
   obtain ⟨bd, e2, y0, y1⟩ := at_T66 (Kd.C_below HB.out hbel) (kk : Int) (by omega) (by omega)
   subst e
   subst e2
   rw [Int.toNat_natCast] at x0 x1 y0 y1
   have hda : a.drop kk = rd_T66 a kk :: a.drop (kk + 1) := by
    have hla : kk < a.length := by have := HN.out; omega
    rw [List.drop_eq_getElem_cons hla]
    simp [rd_T66, List.getD_eq_getElem?_getD, List.getElem?_eq_getElem hla]
   have hdb : b.drop kk = rd_T66 b kk :: b.drop (kk + 1) := by
    have hlb : kk < b.length := by have := HNB.out; omega
    rw [List.drop_eq_getElem_cons hlb]
    simp [rd_T66, List.getD_eq_getElem?_getD, List.getElem?_eq_getElem hlb]
   have hL := HL.out
   rw [hda, hdb, lexC] at hL
   have HL2 := Aside0.mk hL
   clear hL hda hdb HL
   generalize rd_T66 a kk = x at x0 x1 HL2
   generalize rd_T66 b kk = y at y0 y1 HL2
   have p1 : ((0 : Int) ≤ (kk : Int)) = True := eq_true (by omega)
   have q1 : ((kk : Int) < (n : Int)) = True := eq_true (by omega)
   have q3 : (kk < n) = True := eq_true hlt
   have q4 : (n ≤ kk) = False := eq_false (by omega)
   have z0 := pc (below_alloc (Below.refl wr.heap.size wr) (.cells #[.int .i64 x.f0, .int .i64 x.f1] 66)) y0
   have z1 := pc (below_alloc (Below.refl wr.heap.size wr) (.cells #[.int .i64 x.f0, .int .i64 x.f1] 66)) y1
   have HW := Aside0.mk hwr
   clear hwr HG y0 y1
   by_cases h0 : cmpC2 x y = 0
   ·have hc := cmp_lays x y ((wr.alloc (.cells #[.int .i64 x.f0, .int .i64 x.f1] 66)).alloc (.cells #[.int .i64 y.f0, .int .i64 y.f1] 66))
    rw [h0] at hc
    go_wp2_with (go_at_call 120; refine hc.mono ?_; rintro e w5 ⟨rfl, q5, os5, h5⟩; have H5 := Aside0.mk h5; clear h5)
    go_roundw
    case rel => exact ⟨kk + 1, by omega, by go_num, ⟨by have h := HL2.out; rw [if_pos h0] at h; exact h⟩, ⟨q0 + q5, _, by rw [H5.out, HW.out]; simp only [Sort.alloc_eq_grow, Sort.grow_grow, drew_grow, drewN2]; rfl⟩⟩
    case measure => simp [intOf]; omega
   ·have hc := cmp_lays x y ((wr.alloc (.cells #[.int .i64 x.f0, .int .i64 x.f1] 66)).alloc (.cells #[.int .i64 y.f0, .int .i64 y.f1] 66))
    have hres : lexC a b = cmpC2 x y := by have h := HL2.out; rw [if_neg h0] at h; exact h.symm
    have hb0 : (cmpC2 x y == 0) = false := by simpa using h0
    have hb1 : (cmpC2 x y != 0) = true := by simpa using h0
    go_wp2_with (go_at_call 120; refine hc.mono ?_; rintro e w5 ⟨rfl, q5, os5, h5⟩; have H5 := Aside0.mk h5; clear h5)
    go_ret
    exact ⟨by rw [hres]; rfl, q0 + q5, _, by rw [H5.out, HW.out]; simp only [Sort.alloc_eq_grow, Sort.grow_grow, drew_grow, drewN2]; rfl⟩
  ·have hka : kk = n := by omega
   have hL := HL.out
   rw [hka, List.drop_of_length_le (by have := HN.out; omega), List.drop_of_length_le (by have := HNB.out; omega)] at hL
   have hL0 : lexC a b = 0 := by rw [← hL]; rfl
   have HG2 := Aside0.mk hwr
   have q4 : (kk < n) = False := eq_false hlt
   clear hwr HG HL hL
   go_wp2
   go_ret
   exact ⟨by rw [hL0]; rfl, q0, os0, HG2.out⟩
set_option maxRecDepth 100000 in
set_option maxHeartbeats 1600000 in
theorem impl_compareShapes.lays (a b : List S66) (A B : Option Addr) (ca cb : Nat) (W : World) (hA : Kd.C k66 W A a.length a) (hB : Kd.C k66 W B b.length b) (hca : a.length ≤ ca) (hcb : b.length ≤ cb) :
  Calls Tryz.prog 87 #[.slice A a.length ca, .slice B b.length cb] W fun e w' => e = .returned (.int .i64 (cmpS a b)) ∧ ∃ q os', w' = Sort.grow (W.drewN q) os' := by
 have hlen := hA.2.1
 have hlen2 := hB.2.1
 have HA := Aside0.mk hA
 have HB := Aside0.mk hB
 clear hA hB
 by_cases hl : a.length = b.length
 ·have e : cmpS a b = lexC a b := by unfold cmpS; rw [if_pos hl]
  rw [e]
  have hlex := fun W2 h1 h2 => impl_compareShapes.lex a b A B ca cb W2 h1 h2 hca hcb hl
  obtain ⟨n, hn⟩ : ∃ n, n = a.length := ⟨_, rfl⟩
  have hnb : n = b.length := hn.trans hl
  rw [← hn] at HA hca hlen hlex ⊢
  rw [← hnb] at HB hcb hlen2 hlex ⊢
  have HL := Aside0.mk hlex
  clear hn hnb hl e hlex
  go_enter Tryz.func87, Tryz.ntmps87
  go_wp2_with (go_at_call 122; refine (HL.out _ HA.out HB.out).mono ?_; rintro e w5 ⟨rfl, q5, os5, h5⟩; have H5 := Aside0.mk h5; clear h5)
  go_ret
  exact ⟨rfl, q5, os5, H5.out⟩
 ·have e : cmpS a b = if a.length < b.length then -1 else 1 := by unfold cmpS; rw [if_neg hl]
  rw [e]
  clear HA HB e
  obtain ⟨n, hn⟩ : ∃ n, n = a.length := ⟨_, rfl⟩
  obtain ⟨m, hm⟩ : ∃ m, m = b.length := ⟨_, rfl⟩
  rw [← hn] at hl hca hlen ⊢
  rw [← hm] at hl hcb hlen2 ⊢
  clear hn hm
  have hq : ((n : Int) == (m : Int)) = false := by simp; omega
  have hq2 : ((n : Int) != (m : Int)) = true := by simp; omega
  have HW := Aside0.mk (show W = Sort.grow (W.drewN 0) #[] by rw [Sort.grow_empty]; rfl)
  by_cases hlt : n < m
  ·rw [if_pos hlt]
   go_enter Tryz.func87, Tryz.ntmps87
   go_wp2
   go_ret
   exact ⟨rfl, 0, #[], HW.out⟩
  ·rw [if_neg hlt]
   go_enter Tryz.func87, Tryz.ntmps87
   go_wp2
   go_ret
   exact ⟨rfl, 0, #[], HW.out⟩
section
variable {enc : Nat → Value} {h1 : ∀ x, (enc x).oneCell' = true}
def cmpH (E : Nat → Nat → Bool) (xs : List Nat) : Nat → List Nat
 | 0 => []
 | m + 1 => cmpH E xs m ++ (if 0 < m ∧ E (xs.getD m 0) (xs.getD (m - 1) 0) = true then [] else [xs.getD m 0])
theorem gdH (xs : List Nat) {i : Nat} (h : i < xs.length) : xs.getD i 0 = xs[i] := by simp [List.getD_eq_getElem?_getD, List.getElem?_eq_getElem h]
theorem cellsH {w : World} {base g n cap : Nat} {ok : Nat → Prop} {l : List Nat} (h : Kd.R (Kd.scalar enc h1) 29 w base ok (.slice (some ⟨g, 0, none⟩) n cap) l) (kk : Nat) (hk : kk < n) :
  w.cell? ⟨g, kk, none⟩ = some (enc (l.getD kk 0)) ∧ w.frozen? ⟨g, kk, none⟩ = false := by
 obtain ⟨ce, hcl, hM, hcc, hfr⟩ := Kd.R_elem h 0 (kk : Int) (by omega) (by omega)
 have e : ce = [enc (l.getD kk 0)] := hM
 have h2 := hcc 0 (enc (l.getD kk 0)) (by rw [e]; rfl)
 have h3 := hfr 0
 have hs : (Kd.scalar enc h1).sz = 1 := rfl
 rw [hs, Int.toNat_natCast, Nat.mul_one, Nat.add_zero] at h2 h3
 exact ⟨h2, h3⟩
theorem putH {w : World} {base g n cap : Nat} {ok : Nat → Prop} {l : List Nat} (h : Kd.R (Kd.scalar enc h1) 29 w base ok (.slice (some ⟨g, 0, none⟩) n cap) l) (kk : Nat) (hk : kk < n) (q : Nat) :
  Kd.R (Kd.scalar enc h1) 29 (w.setCell ⟨g, kk, none⟩ (enc q)) base ok (.slice (some ⟨g, 0, none⟩) n cap) (l.set kk q) ∧ w.grownBy (w.setCell ⟨g, kk, none⟩ (enc q)) (some g) := by
 obtain ⟨ce, hcl, hM, hcc, hfr⟩ := Kd.R_elem h 0 (kk : Int) (by omega) (by omega)
 have e : ce = [enc (l.getD kk 0)] := hM
 have h2 := Kd.R_seg h (kk : Int) (by omega) (by omega) (seg := [enc q]) (j := 0) (x' := q) (okp := fun k => ok k ∧ k ≠ g) hcl hcc (show 1 ≤ 1 from by omega) (show _ = [enc q] by rw [e]; rfl) (fun _ h => h)
 have hs : (Kd.scalar enc h1).sz = 1 := rfl
 rw [hs, Int.toNat_natCast, Nat.mul_one, Nat.add_zero] at h2
 exact h2
theorem grown_drewH {w W : World} {row : Option Nat} (h : w.grownBy W row) : w.grownBy W.drew row := ⟨h.os, h.tape, h.output, h.size, h.block⟩
theorem grown_drewNH {w W : World} {row : Option Nat} (n : Nat) (h : w.grownBy W row) : w.grownBy (W.drewN n) row := ⟨h.os, h.tape, h.output, h.size, h.block⟩
theorem grown_thenH {w W V : World} {row : Option Nat} (h1 : w.grownBy W row) (h2 : W.grownBy V row) : w.grownBy V row := ⟨h2.os.trans h1.os, h2.tape.trans h1.tape, h2.output.trans h1.output, Nat.le_trans h1.size h2.size, fun k hk hne => (h2.block k (Nat.lt_of_lt_of_le hk h1.size) hne).trans (h1.block k hk hne)⟩
theorem clearH (nz : Nat) {base g n cap : Nat} {ok : Nat → Prop} (hnz : enc nz = .slice none 0 0) : ∀ (m : Nat) (w : World) (k : Nat) (l : List Nat), Kd.R (Kd.scalar enc h1) 29 w base ok (.slice (some ⟨g, 0, none⟩) n cap) l → k + m ≤ n →
  ∃ l', l'.take k = l.take k ∧ Kd.R (Kd.scalar enc h1) 29 (w.setCells g k (List.replicate m (.slice none 0 0))) base ok (.slice (some ⟨g, 0, none⟩) n cap) l' ∧ w.grownBy (w.setCells g k (List.replicate m (.slice none 0 0))) (some g)
 | 0, w, k, l, h, _ => ⟨l, rfl, h, ⟨rfl, rfl, rfl, Nat.le_refl _, fun _ _ _ => rfl⟩⟩
 | m + 1, w, k, l, h, hk => by
  obtain ⟨h2, g1⟩ := putH h k (by omega) nz
  rw [hnz] at h2 g1
  obtain ⟨l', e, h3, g2⟩ := clearH nz hnz m _ (k + 1) _ h2 (by omega)
  have hw : w.setCells g k (List.replicate (m + 1) (.slice none 0 0)) = (w.setCell ⟨g, k, none⟩ (.slice none 0 0)).setCells g (k + 1) (List.replicate m (.slice none 0 0)) := rfl
  rw [hw]
  refine ⟨l', ?_, h3, grown_thenH g1 g2⟩
  have e2 := congrArg (List.take k) e
  rw [List.take_take, List.take_take, Nat.min_eq_left (by omega), List.take_set_of_le (Nat.le_refl _)] at e2
  exact e2
theorem zeroH (m : Nat) : (Builtin.zeroCells #[.slice none 0 0] m).toList = List.replicate m (.slice none 0 0) := by
 refine List.ext_getElem (by simp [Builtin.zeroCells]) fun i h1 h2 => ?_
 simp [Builtin.zeroCells, Nat.mod_one]
theorem clear_runH {base g n cap : Nat} {ok : Nat → Prop} {l : List Nat} (w : World) (k m c : Nat) (h0 : 0 < m) (h : Kd.R (Kd.scalar enc h1) 29 w base ok (.slice (some ⟨g, 0, none⟩) n cap) l) (hk : k + m ≤ n) :
  (Builtin.clear_ #[63] 0 #[.slice (some ⟨g, k, none⟩) m c]).run Tryz.prog w = .ok (.tuple #[]) (w.setCells g k (List.replicate m (.slice none 0 0))) := by
 have hc : ∀ j, j < m → (w.cell? ⟨g, k + j, none⟩).isSome = true ∧ w.frozen? ⟨g, k + j, none⟩ = false := by
  intro j hj
  obtain ⟨c0, hf⟩ := cellsH h (k + j) (by omega)
  exact ⟨by rw [c0]; rfl, hf⟩
 have hst := run_storeCells_cells (P := Tryz.prog) g k (List.replicate m (.slice none 0 0)) 0 w (by rw [List.length_replicate]; intro j hj; exact (hc j hj).1) (by rw [List.length_replicate]; intro j hj; exact (hc j hj).2) (by
  intro v hv
  rw [List.eq_of_mem_replicate hv]
  rfl)
 simp only [Nat.add_zero] at hst
 have hz : (zeroValue 29).run Tryz.prog w = .ok (.slice none 0 0) w := Tryz.zeroValue29 w
 have hcl : (Value.slice none 0 0).cells = #[.slice none 0 0] := by rfl
 obtain ⟨m, rfl⟩ : ∃ q, m = q + 1 := ⟨m - 1, by omega⟩
 have hu := Tryz.underlying63
 simp [Builtin.clear_, run_underlying hu, hz, hcl, zeroH, hst]
set_option maxRecDepth 100000 in
set_option maxHeartbeats 4000000 in
theorem compactH (E : Nat → Nat → Bool) (nz : Nat) (hnz : enc nz = .slice none 0 0) (hsl : ∀ x, ∃ A n c, enc x = .slice A n c) (w : World) (base g cap : Nat) (ok : Nat → Prop) (xs : List Nat) (h : Kd.R (Kd.scalar enc h1) 29 w base ok (.slice (some ⟨g, 0, none⟩) xs.length cap) xs) (hl : xs.length ≤ 1000)
  (hq : ∀ (W' : World) (i j : Nat), w.grownBy W' (some g) → Calls Tryz.prog 89 #[enc i, enc j] W' fun e w' => e = .returned (.bool (E i j)) ∧ Drawn0 W' w') :
  Calls Tryz.prog 88 #[.slice (some ⟨g, 0, none⟩) xs.length cap, .func (.func 89) #[] #[]] w fun e w' => ∃ v', e = .returned v' ∧ Kd.R (Kd.scalar enc h1) 29 w' base ok v' (cmpH E xs xs.length) ∧ v'.ownBlock = some g ∧ w.grownBy w' (some g) := by
 have hcap := (Kd.R_reads' h).2.1
 have HR := Aside0.mk h
 have HQ := Aside0.mk hq
 clear h hq
 by_cases h2 : xs.length < 2
 ·have e : cmpH E xs xs.length = xs := by
   match xs, h2 with
   | [], _ => rfl
   | [a], _ => simp [cmpH]
  rw [e]
  clear e
  go_enter Tryz.func88, Tryz.ntmps88
  go_wp2
  go_ret
  exact ⟨_, rfl, HR.out, rfl, ⟨rfl, rfl, rfl, Nat.le_refl _, fun _ _ _ => rfl⟩⟩
 ·go_enter Tryz.func88, Tryz.ntmps88
  go_wp2
  go_loopw [5] (fun i wr => ∃ kk : Nat, 1 ≤ kk ∧ kk ≤ xs.length ∧ i = .int .i64 (kk : Int) ∧ Aside0 (cmpH E xs kk = xs.take kk) ∧ Aside0 (Kd.R (Kd.scalar enc h1) 29 wr base ok (.slice (some ⟨g, 0, none⟩) xs.length cap) xs) ∧ Aside0 (w.grownBy wr (some g))) (fun i _ => xs.length - (intOf i).toNat)
  case atStart => exact ⟨1, Nat.le_refl _, by omega, rfl, ⟨by
   rw [cmpH, cmpH, if_neg (by omega), gdH xs (by omega), List.take_add_one, List.getElem?_eq_getElem (show 0 < xs.length by omega)]
   simp⟩, HR, ⟨⟨rfl, rfl, rfl, Nat.le_refl _, fun _ _ _ => rfl⟩⟩⟩
  case round =>
   obtain ⟨kk, hk1, hm, rfl, HC, HR1, HG⟩ := hrel
   by_cases hlt : kk < xs.length
   ·obtain ⟨m, hkm⟩ : ∃ m, kk = m + 1 := ⟨kk - 1, by omega⟩
    obtain ⟨x0, _⟩ := cellsH HR1.out kk hlt
    obtain ⟨y0, _⟩ := cellsH HR1.out m (by omega)
    have hC2 : cmpH E xs (kk + 1) = xs.take kk ++ (if E (xs.getD kk 0) (xs.getD m 0) = true then [] else [xs.getD kk 0]) := by
     rw [cmpH, HC.out, hkm, Nat.add_sub_cancel]
     congr 1
     by_cases he : E (xs.getD (m + 1) 0) (xs.getD m 0) = true
     ·rw [if_pos he, if_pos ⟨by omega, he⟩]
     ·rw [if_neg he, if_neg (fun c => he c.2)]
    have hrd : xs[kk]? = some (xs.getD kk 0) := by rw [gdH xs hlt, List.getElem?_eq_getElem hlt]
    have HC2 := Aside0.mk hC2
    have HRD := Aside0.mk hrd
    clear hC2 hrd
    generalize ha : xs.getD kk 0 = a at x0 HC2 HRD
    generalize hb' : xs.getD m 0 = b at y0 HC2
    have hsub : IntKind.i64.wrap ((kk : Int) - 1) = (m : Int) := (i64_w _).trans (by unfold wrap64; omega)
    have p1 : ((0 : Int) ≤ (kk : Int)) = True := eq_true (by omega)
    have q1 : ((kk : Int) < (xs.length : Int)) = True := eq_true (by omega)
    have p2 : ((0 : Int) ≤ (m : Int)) = True := eq_true (by omega)
    have q2 : ((m : Int) < (xs.length : Int)) = True := eq_true (by omega)
    have q3 : (kk < xs.length) = True := eq_true hlt
    have q4 : (m < xs.length) = True := eq_true (by omega)
    have HKM := Aside0.mk hkm
    have HLT := Aside0.mk hlt
    have HCA := Aside0.mk (fun W' hW => HQ.out W' a b hW)
    clear ha hb' hkm hlt
    go_upto_region 6 with (fail)
    go_cut [28] (fun v wc => v = .bool (E a b) ∧ Aside0 (Kd.R (Kd.scalar enc h1) 29 wc base ok (.slice (some ⟨g, 0, none⟩) xs.length cap) xs) ∧ Aside0 (w.grownBy wc (some g)))
    case first =>
     go_region_with (first
      | (go_at_call 89; refine (HCA.out _ (by first | exact grown_drewH HG.out | exact HG.out | exact grown_drewNH _ HG.out)).mono ?_; rintro e w5 ⟨rfl, n5, rfl⟩)
      | fail)
     all_goals (
      go_wp2
      go_meet
      case rel => exact ⟨rfl, ⟨Kd.R_drewN HR1.out _⟩, ⟨grown_drewNH _ HG.out⟩⟩)
    case rest =>
     obtain ⟨rfl, HR0, HG0⟩ := hcut
     clear x0 y0 HR1 HG HCA
     cases he : E a b with
     | false =>
      go_wp2
      go_roundw
      case rel => exact ⟨kk + 1, by omega, by have := HLT.out; omega, by go_num, ⟨by
       rw [HC2.out, he, if_neg (by simp), List.take_add_one, HRD.out]
       simp only [Option.toList_some]⟩, HR0, HG0⟩
      case measure => have := HLT.out; simp [intOf]; omega
     | true =>
      have hcc : kk ≤ cap := by have := HLT.out; omega
      have hkl : kk ≤ xs.length := hm
      have hnc : (cap = kk) = False := eq_false (by have := HLT.out; omega)
      have hnc2 : (kk = cap) = False := eq_false (by have := HLT.out; omega)
      go_wp2
      obtain ⟨n2, hn2⟩ : ∃ n2, xs.length - kk = n2 := ⟨_, rfl⟩
      have hn3 : xs.length = kk + n2 := by omega
      rw [hn2]
      have HN := Aside0.mk hn3
      clear hn2 p1 q1 p2 q2 q3 q4 hsub
      go_loopw [5, 7] (fun i j wr => ∃ (k k2 : Nat) (ys : List Nat), 1 ≤ k2 ∧ k2 ≤ n2 ∧ 1 ≤ k ∧ k + 1 ≤ kk + k2 ∧ i = .int .i64 (k : Int) ∧ j = .int .i64 (k2 : Int) ∧ Aside0 (ys.length = xs.length) ∧ Aside0 (∀ j : Nat, kk + k2 ≤ j + 1 → ys.getD j 0 = xs.getD j 0) ∧ Aside0 (cmpH E xs (kk + k2) = ys.take k) ∧ Aside0 (Kd.R (Kd.scalar enc h1) 29 wr base ok (.slice (some ⟨g, 0, none⟩) xs.length cap) ys) ∧ Aside0 (w.grownBy wr (some g))) (fun _ j _ => n2 - (intOf j).toNat)
      case atStart => exact ⟨kk, 1, xs, Nat.le_refl _, by have := HLT.out; omega, hk1, Nat.le_refl _, rfl, rfl, ⟨rfl⟩, ⟨fun _ _ => rfl⟩, ⟨by rw [HC2.out, he, if_pos rfl, List.append_nil]⟩, HR0, HG0⟩
      case round =>
       clear HR0 HG0
       obtain ⟨k, k2, ys, h21, h2n, hk0, hkk, rfl, rfl, HYL, HYX, HCM, HR2, HG2⟩ := hrel
       by_cases hlt2 : k2 < n2
       ·obtain ⟨m2, hkm2⟩ : ∃ m2, k2 = m2 + 1 := ⟨k2 - 1, by omega⟩
        obtain ⟨x0, _⟩ := cellsH HR2.out (kk + k2) (by omega)
        obtain ⟨y0, _⟩ := cellsH HR2.out (kk + m2) (by omega)
        obtain ⟨z0, f0⟩ := cellsH HR2.out k (by omega)
        have ea := HYX.out (kk + k2) (by omega)
        have eb := HYX.out (kk + m2) (by omega)
        have hC4 : cmpH E xs (kk + k2 + 1) = ys.take k ++ (if E (ys.getD (kk + k2) 0) (ys.getD (kk + m2) 0) = true then [] else [ys.getD (kk + k2) 0]) := by
         rw [cmpH, HCM.out, ea, eb, show kk + k2 - 1 = kk + m2 by omega]
         congr 1
         by_cases he : E (xs.getD (kk + k2) 0) (xs.getD (kk + m2) 0) = true
         ·rw [if_pos he, if_pos ⟨by omega, he⟩]
         ·rw [if_neg he, if_neg (fun c => he c.2)]
        have HC4 := Aside0.mk hC4
        clear hC4 ea eb
        generalize hya : ys.getD (kk + k2) 0 = a2 at x0 HC4
        have HYA := Aside0.mk hya
        clear hya
        generalize ys.getD (kk + m2) 0 = b2 at y0 HC4
        have hsub : IntKind.i64.wrap ((k2 : Int) - 1) = (m2 : Int) := (i64_w _).trans (by unfold wrap64; omega)
        have p1 : ((0 : Int) ≤ (k2 : Int)) = True := eq_true (by omega)
        have q1 : ((k2 : Int) < (n2 : Int)) = True := eq_true (by omega)
        have p2 : ((0 : Int) ≤ (m2 : Int)) = True := eq_true (by omega)
        have q2 : ((m2 : Int) < (n2 : Int)) = True := eq_true (by omega)
        have q3 : (k2 < n2) = True := eq_true hlt2
        have q4 : (m2 < n2) = True := eq_true (by omega)
        have hkx : k < xs.length := by omega
        have HLT2 := Aside0.mk hlt2
        have HKM2 := Aside0.mk hkm2
        have HCA := Aside0.mk (fun W' hW => HQ.out W' a2 b2 hW)
        have hn2b : n2 ≤ 1000 := by omega
        clear hlt2 hkm2 hn3
        go_upto_region 11 with (fail)
        go_cut [49] (fun v wc => v = .bool (!E a2 b2) ∧ Aside0 (Kd.R (Kd.scalar enc h1) 29 wc base ok (.slice (some ⟨g, 0, none⟩) xs.length cap) ys) ∧ Aside0 (w.grownBy wc (some g)))
        case first =>
         go_region_with (first
          | (go_at_call 89; refine (HCA.out _ (by first | exact grown_drewH HG2.out | exact HG2.out | exact grown_drewNH _ HG2.out)).mono ?_; rintro e w5 ⟨rfl, n5, rfl⟩)
          | fail)
         all_goals (
          go_wp2
          go_meet
          case rel => exact ⟨by first | rfl | (simp; done) | (cases E a2 b2 <;> rfl), ⟨Kd.R_drewN HR2.out _⟩, ⟨grown_drewNH _ HG2.out⟩⟩)
        case rest =>
         obtain ⟨rfl, HR3, HG3⟩ := hcut
         clear x0 y0 z0 f0 HR2 HG2 HCA
         obtain ⟨x0, _⟩ := cellsH HR3.out (kk + k2) (by have := HLT2.out; have := HN.out; omega)
         obtain ⟨z0, f0⟩ := cellsH HR3.out k (by have := HLT2.out; have := HN.out; omega)
         cases he2 : E a2 b2 with
         | true =>
          clear x0 z0 f0
          go_wp2
          go_roundw
          case rel => exact ⟨k, k2 + 1, ys, by omega, by have := HLT2.out; omega, hk0, by omega, rfl, by go_num, HYL, ⟨fun j hj => HYX.out j (by omega)⟩, ⟨by rw [← Nat.add_assoc, HC4.out, he2, if_pos rfl, List.append_nil]⟩, HR3, HG3⟩
          case measure => have := HLT2.out; simp [intOf]; omega
         | false =>
          rw [HYA.out] at x0
          have hp := putH HR3.out k hkx a2
          obtain ⟨A9, n9, c9, e9⟩ := hsl a2
          rw [e9] at x0 hp
          have HP := Aside0.mk hp
          clear hp e9
          go_wp2
          go_roundw
          case rel => exact ⟨k + 1, k2 + 1, ys.set k a2, by omega, by have := HLT2.out; omega, by omega, by omega, by go_num, by go_num, ⟨by rw [List.length_set]; exact HYL.out⟩, ⟨fun j hj => by
           rw [List.getD_eq_getElem?_getD, List.getElem?_set_ne (by omega), ← List.getD_eq_getElem?_getD]
           exact HYX.out j (by omega)⟩, ⟨by
           rw [← Nat.add_assoc, HC4.out, he2, if_neg (by simp), List.take_add_one, List.take_set_of_le (Nat.le_refl _), List.getElem?_set_self (by rw [HYL.out]; exact hkx)]
           rfl⟩, ⟨HP.out.1⟩, ⟨grown_thenH HG3.out HP.out.2⟩⟩
          case measure => have := HLT2.out; simp [intOf]; omega
       ·have hk2e : k2 = n2 := by omega
        have hkx : k < xs.length := by omega
        have HKN := Aside0.mk hk2e
        have hclr := clear_runH wr k (kk + n2 - k) (cap - k) (by omega) HR2.out (by omega)
        obtain ⟨ls, hlt, hls, hgs⟩ := clearH nz hnz (kk + n2 - k) wr k ys HR2.out (by omega)
        have HLS := Aside0.mk hls
        have HGS := Aside0.mk hgs
        have HTK := Aside0.mk hlt
        clear hls hgs hlt hk2e
        go_wp2
        go_ret
        exact ⟨_, rfl, by
         have e := HCM.out
         rw [HKN.out, ← HN.out] at e
         rw [e, ← HTK.out]
         exact Kd.R_take HLS.out (by have := (Kd.R_reads' HLS.out).1; omega), rfl, grown_thenH HG2.out HGS.out⟩
   ·have hkx : kk = xs.length := by omega
    have HKX := Aside0.mk hkx
    have hnl : ¬ kk < xs.length := hlt
    clear hkx
    go_wp2
    go_ret
    exact ⟨_, rfl, by
     have := HC.out
     rw [HKX.out, List.take_length] at this
     rw [this]
     exact HR1.out, rfl, HG.out⟩
end
end Go.Proofs.YtbphiipcnjelbaaGreat.Q

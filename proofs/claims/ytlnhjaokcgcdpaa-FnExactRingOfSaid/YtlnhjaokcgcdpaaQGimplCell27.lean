/- Written by a program of this session (wip/tools/pp.py) out of the translation, with the kit's printer. -/
import Derived.Test.YtlnhjaokcgcdpaaQ0
import Derived.Test.YtlnhjaokcgcdpaaQ1
import Derived.LoopTactic
namespace Go.Proofs.Ytlnhjaokcgcdpaa.Q
open Go.RowKit Go.Proofs.YtlnhjaokcgcdpaaW.PrintWords Go.Proofs.YtlnhjaokcgcdpaaW.PrintLast Go.Proofs.YtlnhjaokcgcdpaaW.PrintMore
attribute [local go_sem] max2_int min2_int max_two min_two max_three min_three max_four min_four
set_option linter.unusedVariables false
set_option linter.unusedSimpArgs false

/-! ### slices.Compact of cells: walked by hand, of an own row -/
def eqC (a b : S34) : Bool := a.f0 == b.f0 && a.f1 == b.f1
/-- The first m cells, without those that are equal to the one ahead of them. -/
def cmpN (xs : List S34) : Nat → List S34
  | 0 => []
  | m + 1 => cmpN xs m ++ (if 0 < m ∧ eqC (rd_T34 xs m) (rd_T34 xs ((m - 1 : Nat) : Int)) = true then [] else [rd_T34 xs m])
theorem rdN (xs : List S34) {i : Nat} (h : i < xs.length) : rd_T34 xs i = xs[i] := by simp [rd_T34, List.getD_eq_getElem?_getD, List.getElem?_eq_getElem h]
theorem cells2 {w : World} {base g n cap : Nat} {ok : Nat → Prop} {l : List S34} (h : Kd.R k34 34 w base ok (.slice (some ⟨g, 0, none⟩) n cap) l) (kk : Nat) (hk : kk < n) :
    (w.cell? ⟨g, kk * 2, none⟩ = some (.int .i64 (rd_T34 l kk).f0) ∧ w.cell? ⟨g, kk * 2 + 1, none⟩ = some (.int .i64 (rd_T34 l kk).f1)) ∧ ∀ j, w.frozen? ⟨g, kk * 2 + j, none⟩ = false := by
  obtain ⟨ce, hcl, hM, hcc, hfr⟩ := Kd.R_elem h z34 (kk : Int) (by omega) (by omega)
  obtain rfl := k34_openM hM
  exact ⟨⟨hcc 0 _ rfl, hcc 1 _ rfl⟩, hfr⟩
theorem put2 {w : World} {base g n cap : Nat} {ok : Nat → Prop} {l : List S34} (h : Kd.R k34 34 w base ok (.slice (some ⟨g, 0, none⟩) n cap) l) (kk : Nat) (hk : kk < n) (q : S34) :
    Kd.R k34 34 ((w.setCell ⟨g, kk * 2, none⟩ (.int .i64 q.f0)).setCell ⟨g, kk * 2 + 1, none⟩ (.int .i64 q.f1)) base ok (.slice (some ⟨g, 0, none⟩) n cap) (l.set kk q) ∧ w.grownBy ((w.setCell ⟨g, kk * 2, none⟩ (.int .i64 q.f0)).setCell ⟨g, kk * 2 + 1, none⟩ (.int .i64 q.f1)) (some g) := by
  obtain ⟨ce, hcl, hM, hcc, hfr⟩ := Kd.R_elem h z34 (kk : Int) (by omega) (by omega)
  obtain rfl := k34_openM hM
  exact Kd.R_seg h (kk : Int) (by omega) (by omega) (seg := [.int .i64 q.f0, .int .i64 q.f1]) (j := 0) (x' := q) (okp := fun k => ok k ∧ k ≠ g) hcl hcc (show 2 ≤ 2 from by omega) (k34_mkM _ _ _ q) (fun _ h => h)
theorem grown_drew {w W : World} {row : Option Nat} (h : w.grownBy W row) : w.grownBy W.drew row := ⟨h.os, h.tape, h.output, h.size, h.block⟩
theorem grown_then {w W V : World} {row : Option Nat} (h1 : w.grownBy W row) (h2 : W.grownBy V row) : w.grownBy V row := ⟨h2.os.trans h1.os, h2.tape.trans h1.tape, h2.output.trans h1.output, Nat.le_trans h1.size h2.size, fun k hk hne => (h2.block k (Nat.lt_of_lt_of_le hk h1.size) hne).trans (h1.block k hk hne)⟩
theorem grown_of_drew {w W : World} {row : Option Nat} (h : w.drew.grownBy W row) : w.grownBy W row := ⟨h.os, h.tape, h.output, h.size, h.block⟩
theorem rd_ne (ys : List S34) (k j : Nat) (a : S34) (h : k ≠ j) : rd_T34 (ys.set k a) j = rd_T34 ys j := by simp [rd_T34, List.getD_eq_getElem?_getD, List.getElem?_set_ne h]
def zs : Nat → List Value
  | 0 => []
  | m + 1 => .int .i64 0 :: .int .i64 0 :: zs m
theorem zs_len (m : Nat) : (zs m).length = m * 2 := by
  induction m with
  | zero => rfl
  | succ m ih => rw [zs, List.length_cons, List.length_cons, ih]; omega
theorem zs_get (m : Nat) : ∀ i (h : i < (zs m).length), (zs m)[i] = .int .i64 0 := by
  induction m with
  | zero => intro i h; exact absurd h (Nat.not_lt_zero _)
  | succ m ih =>
    intro i h
    match i with
    | 0 => rfl
    | 1 => rfl
    | i + 2 => exact ih i (by simpa [zs] using h)
theorem zs_zero (m : Nat) : (Builtin.zeroCells #[.int .i64 0, .int .i64 0] m).toList = zs m := by
  refine List.ext_getElem (by rw [zs_len]; simp [Builtin.zeroCells]) fun i h1 h2 => ?_
  rw [zs_get m i h2]
  simp [Builtin.zeroCells]
  rcases Nat.mod_two_eq_zero_or_one i with h | h <;> rw [h] <;> rfl
theorem clearC {base g n cap : Nat} {ok : Nat → Prop} : ∀ (m : Nat) (w : World) (k : Nat) (l : List S34), Kd.R k34 34 w base ok (.slice (some ⟨g, 0, none⟩) n cap) l → k + m ≤ n →
    ∃ l', l'.take k = l.take k ∧ Kd.R k34 34 (w.setCells g (k * 2) (zs m)) base ok (.slice (some ⟨g, 0, none⟩) n cap) l' ∧ w.grownBy (w.setCells g (k * 2) (zs m)) (some g)
  | 0, w, k, l, h, _ => ⟨l, rfl, h, ⟨rfl, rfl, rfl, Nat.le_refl _, fun _ _ _ => rfl⟩⟩
  | m + 1, w, k, l, h, hk => by
    obtain ⟨h1, g1⟩ := put2 h k (by omega) ⟨0, 0⟩
    obtain ⟨l', e, h2, g2⟩ := clearC m _ (k + 1) _ h1 (by omega)
    have hw : w.setCells g (k * 2) (zs (m + 1)) = ((w.setCell ⟨g, k * 2, none⟩ (.int .i64 0)).setCell ⟨g, k * 2 + 1, none⟩ (.int .i64 0)).setCells g ((k + 1) * 2) (zs m) := by
      rw [show (k + 1) * 2 = k * 2 + 1 + 1 by omega]
      rfl
    rw [hw]
    refine ⟨l', ?_, h2, grown_then g1 g2⟩
    have e2 := congrArg (List.take k) e
    rw [List.take_take, List.take_take, Nat.min_eq_left (by omega), List.take_set_of_le (Nat.le_refl _)] at e2
    exact e2
theorem clear_run {base g n cap : Nat} {ok : Nat → Prop} {l : List S34} (w : World) (k m c : Nat) (h0 : 0 < m) (h : Kd.R k34 34 w base ok (.slice (some ⟨g, 0, none⟩) n cap) l) (hk : k + m ≤ n) :
    (Builtin.clear_ #[24] 0 #[.slice (some ⟨g, k * 2, none⟩) m c]).run Try.prog w = .ok (.tuple #[]) (w.setCells g (k * 2) (zs m)) := by
  have hc : ∀ j, j < m * 2 → (w.cell? ⟨g, k * 2 + j, none⟩).isSome = true ∧ w.frozen? ⟨g, k * 2 + j, none⟩ = false := by
    intro j hj
    obtain ⟨⟨c0, c1⟩, hf⟩ := cells2 h (k + j / 2) (by omega)
    rcases Nat.mod_two_eq_zero_or_one j with hm | hm
    · rw [show k * 2 + j = (k + j / 2) * 2 + 0 by omega]
      exact ⟨by rw [Nat.add_zero, c0]; rfl, hf 0⟩
    · rw [show k * 2 + j = (k + j / 2) * 2 + 1 by omega]
      exact ⟨by rw [c1]; rfl, hf 1⟩
  have hst := run_storeCells_cells (P := Try.prog) g (k * 2) (zs m) 0 w (by rw [zs_len]; intro j hj; exact (hc j hj).1) (by rw [zs_len]; intro j hj; exact (hc j hj).2) (by
    intro v hv
    obtain ⟨i, hi, rfl⟩ := List.getElem_of_mem hv
    rw [zs_get]
    rfl)
  simp only [Nat.add_zero] at hst
  have hz : (zeroValue 34).run Try.prog w = .ok (.agg #[.int .i64 0, .int .i64 0]) w := Try.zeroValue34 w
  have hcl : (Value.agg #[.int .i64 0, .int .i64 0]).cells = #[.int .i64 0, .int .i64 0] := by rfl
  obtain ⟨m, rfl⟩ : ∃ q, m = q + 1 := ⟨m - 1, by omega⟩
  have hu := Try.underlying24
  simp [Builtin.clear_, run_underlying hu, hz, hcl, zs_zero, hst]
attribute [local go_sem high] eqA34
set_option maxRecDepth 100000 in
set_option maxHeartbeats 4000000 in
theorem impl_Cell_27.own (w : World) (base : Nat) (ok : Nat → Prop) (v : Value) (xs : List S34) (h : Kd.R k34 34 w base ok v xs) (hl : xs.length ≤ 1000000000) :
    Calls Try.prog 27 #[v] w fun e w' => ∃ v', e = .returned v' ∧ Kd.R k34 34 w' base ok v' (cmpN xs xs.length) ∧ w.grownBy w' v.ownBlock := by
  have hu34 := Try.underlying34
  by_cases h2 : xs.length < 2
  · obtain ⟨A, c, rfl⟩ := Kd.R_slice h
    have e : cmpN xs xs.length = xs := by
      match xs, h2 with
      | [], _ => rfl
      | [a], _ => simp [cmpN, rd_T34]
    rw [e]
    have HR := Aside0.mk h
    clear h e
    go_enter Try.func27, Try.ntmps27
    go_wp2
    go_ret
    exact ⟨_, rfl, HR.out, ⟨rfl, rfl, rfl, Nat.le_refl _, fun _ _ _ => rfl⟩⟩
  · obtain ⟨g, cap, rfl, hb, hg, _⟩ := Kd.R_form h (by omega)
    have hcap := (Kd.R_reads' h).2.1
    have HR := Aside0.mk h
    clear h
    go_enter Try.func27, Try.ntmps27
    go_wp2
    go_loopw [3] (fun i wr => ∃ kk : Nat, 1 ≤ kk ∧ kk ≤ xs.length ∧ i = .int .i64 (kk : Int) ∧ Aside0 (cmpN xs kk = xs.take kk) ∧ Aside0 (Kd.R k34 34 wr base ok (.slice (some ⟨g, 0, none⟩) xs.length cap) xs) ∧ Aside0 (w.grownBy wr (some g))) (fun i _ => xs.length - (intOf i).toNat)
    case atStart => exact ⟨1, Nat.le_refl _, by omega, rfl, ⟨by
      rw [cmpN, cmpN, if_neg (by omega), rdN xs (by omega), List.take_add_one, List.getElem?_eq_getElem (show 0 < xs.length by omega)]
      simp⟩, HR, ⟨⟨rfl, rfl, rfl, Nat.le_refl _, fun _ _ _ => rfl⟩⟩⟩
    case round =>
      clear hb hg
      obtain ⟨kk, hk1, hm, rfl, HC, HR1, HG⟩ := hrel
      by_cases hlt : kk < xs.length
      · obtain ⟨m, hkm⟩ : ∃ m, kk = m + 1 := ⟨kk - 1, by omega⟩
        obtain ⟨⟨x0, x1⟩, _⟩ := cells2 HR1.out kk hlt
        obtain ⟨⟨y0, y1⟩, _⟩ := cells2 HR1.out m (by omega)
        have hC2 : cmpN xs (kk + 1) = xs.take kk ++ (if eqC (rd_T34 xs (kk : Int)) (rd_T34 xs (m : Int)) = true then [] else [rd_T34 xs (kk : Int)]) := by
          rw [cmpN, HC.out, hkm, Nat.add_sub_cancel]
          congr 1
          by_cases he : eqC (rd_T34 xs ((m + 1 : Nat) : Int)) (rd_T34 xs (m : Int)) = true
          · rw [if_pos he, if_pos ⟨by omega, he⟩]
          · rw [if_neg he, if_neg (fun c => he c.2)]
        have hrd : xs[kk]? = some (rd_T34 xs (kk : Int)) := by rw [rdN xs hlt, List.getElem?_eq_getElem hlt]
        have HC2 := Aside0.mk hC2
        have HRD := Aside0.mk hrd
        clear hC2 hrd
        generalize ha : rd_T34 xs (kk : Int) = a at x0 x1 HC2 HRD
        generalize hb' : rd_T34 xs (m : Int) = b at y0 y1 HC2
        have hsub : IntKind.i64.wrap ((kk : Int) - 1) = (m : Int) := (i64_w _).trans (by unfold wrap64; omega)
        have p1 : ((0 : Int) ≤ (kk : Int)) = True := eq_true (by omega)
        have q1 : ((kk : Int) < (xs.length : Int)) = True := eq_true (by omega)
        have p2 : ((0 : Int) ≤ (m : Int)) = True := eq_true (by omega)
        have q2 : ((m : Int) < (xs.length : Int)) = True := eq_true (by omega)
        have q3 : (kk < xs.length) = True := eq_true hlt
        have q4 : (m < xs.length) = True := eq_true (by omega)
        have HKM := Aside0.mk hkm
        have HLT := Aside0.mk hlt
        clear ha hb' hkm hlt
        cases he : (a.f0 == b.f0 && a.f1 == b.f1) with
        | false =>
          go_upto_region 6 with (fail)
          go_region_held3 (fun w' => w'.cell? ⟨g, kk * 2, none⟩ = some (.int .i64 a.f0) ∧ w'.cell? ⟨g, kk * 2 + 1, none⟩ = some (.int .i64 a.f1) ∧ w'.cell? ⟨g, m * 2, none⟩ = some (.int .i64 b.f0) ∧ w'.cell? ⟨g, m * 2 + 1, none⟩ = some (.int .i64 b.f1)) (first | go_keep | fail) (first | fail)
          rename_i hHeld
          clear hHeld
          have HE := Aside0.mk (show eqC a b = false from he)
          go_wp2
          go_roundw
          case rel => exact ⟨kk + 1, by omega, by have := HLT.out; omega, by go_num, ⟨by
            rw [HC2.out, HE.out, if_neg (by simp), List.take_add_one, HRD.out]
            simp only [Option.toList_some]⟩, ⟨Kd.R_drew HR1.out⟩, ⟨grown_drew HG.out⟩⟩
          case measure => have := HLT.out; simp [intOf]; omega
        | true =>
          have HE := Aside0.mk (show eqC a b = true from he)
          go_upto_region 6 with (fail)
          go_region_held3 (fun w' => w'.cell? ⟨g, kk * 2, none⟩ = some (.int .i64 a.f0) ∧ w'.cell? ⟨g, kk * 2 + 1, none⟩ = some (.int .i64 a.f1) ∧ w'.cell? ⟨g, m * 2, none⟩ = some (.int .i64 b.f0) ∧ w'.cell? ⟨g, m * 2 + 1, none⟩ = some (.int .i64 b.f1)) (first | go_keep | fail) (first | fail)
          rename_i hHeld
          clear hHeld x0 x1 y0 y1
          have hcc : kk ≤ cap := by have := HLT.out; omega
          have hkl : kk ≤ xs.length := hm
          have hnc : (cap = kk) = False := eq_false (by have := HLT.out; omega)
          have hnc2 : (kk = cap) = False := eq_false (by have := HLT.out; omega)
          go_wp2
          obtain ⟨n2, hn2⟩ : ∃ n2, xs.length - kk = n2 := ⟨_, rfl⟩
          have hn3 : xs.length = kk + n2 := by omega
          rw [hn2]
          have HN := Aside0.mk hn3
          have HG0 := Aside0.mk (grown_drew HG.out)
          have HR0 := Aside0.mk (Kd.R_drew HR1.out)
          clear hn2 HR1 HG p1 q1 p2 q2 q3 q4 hsub
          go_loopw [3, 5] (fun i j wr => ∃ (k k2 : Nat) (ys : List S34), 1 ≤ k2 ∧ k2 ≤ n2 ∧ 1 ≤ k ∧ k + 1 ≤ kk + k2 ∧ i = .int .i64 (k : Int) ∧ j = .int .i64 (k2 : Int) ∧ Aside0 (ys.length = xs.length) ∧ Aside0 (∀ j : Nat, kk + k2 ≤ j + 1 → rd_T34 ys j = rd_T34 xs j) ∧ Aside0 (cmpN xs (kk + k2) = ys.take k) ∧ Aside0 (Kd.R k34 34 wr base ok (.slice (some ⟨g, 0, none⟩) xs.length cap) ys) ∧ Aside0 (w.grownBy wr (some g))) (fun _ j _ => n2 - (intOf j).toNat)
          case atStart => exact ⟨kk, 1, xs, Nat.le_refl _, by have := HLT.out; omega, hk1, Nat.le_refl _, rfl, rfl, ⟨rfl⟩, ⟨fun _ _ => rfl⟩, ⟨by rw [HC2.out, if_pos HE.out, List.append_nil]⟩, HR0, HG0⟩
          case round =>
            clear HR0 HG0
            obtain ⟨k, k2, ys, h21, h2n, hk0, hkk, rfl, rfl, HYL, HYX, HCM, HR2, HG2⟩ := hrel
            by_cases hlt2 : k2 < n2
            · obtain ⟨m2, hkm2⟩ : ∃ m2, k2 = m2 + 1 := ⟨k2 - 1, by omega⟩
              obtain ⟨⟨x0, x1⟩, _⟩ := cells2 HR2.out (kk + k2) (by omega)
              obtain ⟨⟨y0, y1⟩, _⟩ := cells2 HR2.out (kk + m2) (by omega)
              obtain ⟨⟨z0, z1⟩, hfz⟩ := cells2 HR2.out k (by omega)
              have f0 : wr.frozen? ⟨g, k * 2, none⟩ = false := hfz 0
              have f1 : wr.frozen? ⟨g, k * 2 + 1, none⟩ = false := hfz 1
              have ea := HYX.out (kk + k2) (by omega)
              have eb := HYX.out (kk + m2) (by omega)
              have hC4 : cmpN xs (kk + k2 + 1) = ys.take k ++ (if eqC (rd_T34 ys ((kk + k2 : Nat) : Int)) (rd_T34 ys ((kk + m2 : Nat) : Int)) = true then [] else [rd_T34 ys ((kk + k2 : Nat) : Int)]) := by
                rw [cmpN, HCM.out, ea, eb, show kk + k2 - 1 = kk + m2 by omega]
                congr 1
                by_cases he : eqC (rd_T34 xs ((kk + k2 : Nat) : Int)) (rd_T34 xs ((kk + m2 : Nat) : Int)) = true
                · rw [if_pos he, if_pos ⟨by omega, he⟩]
                · rw [if_neg he, if_neg (fun c => he c.2)]
              have HC4 := Aside0.mk hC4
              clear hC4 ea eb hfz
              generalize rd_T34 ys ((kk + k2 : Nat) : Int) = a2 at x0 x1 HC4
              generalize rd_T34 ys ((kk + m2 : Nat) : Int) = b2 at y0 y1 HC4
              rw [Nat.add_mul] at x0 x1 y0 y1
              have hsub : IntKind.i64.wrap ((k2 : Int) - 1) = (m2 : Int) := (i64_w _).trans (by unfold wrap64; omega)
              have p1 : ((0 : Int) ≤ (k2 : Int)) = True := eq_true (by omega)
              have q1 : ((k2 : Int) < (n2 : Int)) = True := eq_true (by omega)
              have p2 : ((0 : Int) ≤ (m2 : Int)) = True := eq_true (by omega)
              have q2 : ((m2 : Int) < (n2 : Int)) = True := eq_true (by omega)
              have q3 : (k2 < n2) = True := eq_true hlt2
              have q4 : (m2 < n2) = True := eq_true (by omega)
              have hkx : k < xs.length := by omega
              have HLT2 := Aside0.mk hlt2
              have HKM2 := Aside0.mk hkm2
              clear hlt2 hkm2
              cases he2 : (a2.f0 == b2.f0 && a2.f1 == b2.f1) with
              | true =>
                have HE2 := Aside0.mk (show eqC a2 b2 = true from he2)
                go_upto_region 11 with (fail)
                go_region_held3 (fun w' => w'.cell? ⟨g, kk * 2 + k2 * 2, none⟩ = some (.int .i64 a2.f0) ∧ w'.cell? ⟨g, kk * 2 + k2 * 2 + 1, none⟩ = some (.int .i64 a2.f1) ∧ w'.cell? ⟨g, kk * 2 + m2 * 2, none⟩ = some (.int .i64 b2.f0) ∧ w'.cell? ⟨g, kk * 2 + m2 * 2 + 1, none⟩ = some (.int .i64 b2.f1)) (first | go_keep | fail) (first | fail)
                rename_i hHeld
                clear hHeld
                go_wp2
                go_roundw
                case rel => exact ⟨k, k2 + 1, ys, by omega, by have := HLT2.out; omega, hk0, by omega, rfl, by go_num, HYL, ⟨fun j hj => HYX.out j (by omega)⟩, ⟨by rw [← Nat.add_assoc, HC4.out, if_pos HE2.out, List.append_nil]⟩, ⟨Kd.R_drew HR2.out⟩, ⟨grown_drew HG2.out⟩⟩
                case measure => have := HLT2.out; simp [intOf]; omega
              | false =>
                have HE2 := Aside0.mk (show eqC a2 b2 = false from he2)
                have HP := Aside0.mk (put2 (Kd.R_drew HR2.out) k hkx a2)
                go_upto_region 11 with (fail)
                go_region_held3 (fun w' => w'.cell? ⟨g, kk * 2 + k2 * 2, none⟩ = some (.int .i64 a2.f0) ∧ w'.cell? ⟨g, kk * 2 + k2 * 2 + 1, none⟩ = some (.int .i64 a2.f1) ∧ w'.cell? ⟨g, kk * 2 + m2 * 2, none⟩ = some (.int .i64 b2.f0) ∧ w'.cell? ⟨g, kk * 2 + m2 * 2 + 1, none⟩ = some (.int .i64 b2.f1)) (first | go_keep | fail) (first | fail)
                rename_i hHeld
                clear hHeld
                go_wp2
                go_roundw
                case rel => exact ⟨k + 1, k2 + 1, ys.set k a2, by omega, by have := HLT2.out; omega, by omega, by omega, by go_num, by go_num, ⟨by rw [List.length_set]; exact HYL.out⟩, ⟨fun j hj => by
                  rw [rd_ne ys k j a2 (by omega)]
                  exact HYX.out j (by omega)⟩, ⟨by
                  rw [← Nat.add_assoc, HC4.out, if_neg (by rw [HE2.out]; simp), List.take_add_one, List.take_set_of_le (Nat.le_refl _), List.getElem?_set_self (by rw [HYL.out]; exact hkx)]
                  rfl⟩, ⟨HP.out.1⟩, ⟨grown_then HG2.out (grown_of_drew HP.out.2)⟩⟩
                case measure => have := HLT2.out; simp [intOf]; omega
            · have hk2e : k2 = n2 := by omega
              have hkx : k < xs.length := by omega
              have HKN := Aside0.mk hk2e
              have hclr := clear_run wr k (kk + n2 - k) (cap - k) (by omega) HR2.out (by omega)
              obtain ⟨ls, hlt, hls, hgs⟩ := clearC (kk + n2 - k) wr k ys HR2.out (by omega)
              have HLS := Aside0.mk hls
              have HGS := Aside0.mk hgs
              have HTK := Aside0.mk hlt
              clear hls hgs hlt hk2e
              go_wp2
              go_ret
              exact ⟨_, rfl, by
                have e := HCM.out
                rw [HKN.out, ← HN.out] at e
                rw [e, ← HTK.out]
                exact Kd.R_take HLS.out (by have := (Kd.R_reads' HLS.out).1; omega), grown_then HG2.out HGS.out⟩
      · have hkx : kk = xs.length := by omega
        have HKX := Aside0.mk hkx
        have hnl : ¬ kk < xs.length := hlt
        clear hkx
        go_wp2
        go_ret
        exact ⟨_, rfl, by
          have := HC.out
          rw [HKX.out, List.take_length] at this
          rw [this]
          exact HR1.out, HG.out⟩

end Go.Proofs.Ytlnhjaokcgcdpaa.Q

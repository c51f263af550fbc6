/- Written by a program of this session (wip/tools/pp.py) out of the translation, with the kit's printer. -/
import Derived.Test.YtbbhohaenijaoaaGreatQ0
import Derived.Test.YtbbhohaenijaoaaGreatQ1
import Derived.Test.YtbbhohaenijaoaaGreatQ12
import Derived.Test.YtbbhohaenijaoaaGreatQGimplsorted
import Derived.LoopTactic
namespace Go.Proofs.YtbbhohaenijaoaaGreat.Q
open Go.RowKit Go.Proofs.YtbbhohaenijaoaaGreatW.PrintWords Go.Proofs.YtbbhohaenijaoaaGreatW.PrintLast Go.Proofs.YtbbhohaenijaoaaGreatW.PrintMore
attribute [local go_sem] max2_int min2_int max_two min_two max_three min_three max_four min_four
set_option linter.unusedVariables false
set_option linter.unusedSimpArgs false
def eqC (a b : S44) : Bool := a.f0 == b.f0 && a.f1 == b.f1
def cmpN (xs : List S44) : Nat → List S44
 | 0 => []
 | m + 1 => cmpN xs m ++ (if 0 < m ∧ eqC (rd_T44 xs m) (rd_T44 xs ((m - 1 : Nat) : Int)) = true then [] else [rd_T44 xs m])
theorem rdN (xs : List S44) {i : Nat} (h : i < xs.length) : rd_T44 xs i = xs[i] := by simp [rd_T44, List.getD_eq_getElem?_getD, List.getElem?_eq_getElem h]
theorem cells2 {w : World} {base g n cap : Nat} {ok : Nat → Prop} {l : List S44} (h : Kd.R k44 44 w base ok (.slice (some ⟨g, 0, none⟩) n cap) l) (kk : Nat) (hk : kk < n) :
  (w.cell? ⟨g, kk * 2, none⟩ = some (.int .i64 (rd_T44 l kk).f0) ∧ w.cell? ⟨g, kk * 2 + 1, none⟩ = some (.int .i64 (rd_T44 l kk).f1)) ∧ ∀ j, w.frozen? ⟨g, kk * 2 + j, none⟩ = false := by
 obtain ⟨ce, hcl, hM, hcc, hfr⟩ := Kd.R_elem h z44 (kk : Int) (by omega) (by omega)
 obtain rfl := k44_openM hM
 exact ⟨⟨hcc 0 _ rfl, hcc 1 _ rfl⟩, hfr⟩
theorem put2 {w : World} {base g n cap : Nat} {ok : Nat → Prop} {l : List S44} (h : Kd.R k44 44 w base ok (.slice (some ⟨g, 0, none⟩) n cap) l) (kk : Nat) (hk : kk < n) (q : S44) :
  Kd.R k44 44 ((w.setCell ⟨g, kk * 2, none⟩ (.int .i64 q.f0)).setCell ⟨g, kk * 2 + 1, none⟩ (.int .i64 q.f1)) base ok (.slice (some ⟨g, 0, none⟩) n cap) (l.set kk q) ∧ w.grownBy ((w.setCell ⟨g, kk * 2, none⟩ (.int .i64 q.f0)).setCell ⟨g, kk * 2 + 1, none⟩ (.int .i64 q.f1)) (some g) := by
 obtain ⟨ce, hcl, hM, hcc, hfr⟩ := Kd.R_elem h z44 (kk : Int) (by omega) (by omega)
 obtain rfl := k44_openM hM
 exact Kd.R_seg h (kk : Int) (by omega) (by omega) (seg := [.int .i64 q.f0, .int .i64 q.f1]) (j := 0) (x' := q) (okp := fun k => ok k ∧ k ≠ g) hcl hcc (show 2 ≤ 2 from by omega) (k44_mkM _ _ _ q) (fun _ h => h)
theorem grown_drew {w W : World} {row : Option Nat} (h : w.grownBy W row) : w.grownBy W.drew row := ⟨h.os, h.tape, h.output, h.size, h.block⟩
theorem grown_then {w W V : World} {row : Option Nat} (h1 : w.grownBy W row) (h2 : W.grownBy V row) : w.grownBy V row := ⟨h2.os.trans h1.os, h2.tape.trans h1.tape, h2.output.trans h1.output, Nat.le_trans h1.size h2.size, fun k hk hne => (h2.block k (Nat.lt_of_lt_of_le hk h1.size) hne).trans (h1.block k hk hne)⟩
theorem grown_of_drew {w W : World} {row : Option Nat} (h : w.drew.grownBy W row) : w.grownBy W row := ⟨h.os, h.tape, h.output, h.size, h.block⟩
theorem rd_ne (ys : List S44) (k j : Nat) (a : S44) (h : k ≠ j) : rd_T44 (ys.set k a) j = rd_T44 ys j := by simp [rd_T44, List.getD_eq_getElem?_getD, List.getElem?_set_ne h]
def zs : Nat → List Value
 | 0 => []
 | m + 1 => .int .i64 0 :: .int .i64 0 :: zs m
theorem zs_len (m : Nat) : (zs m).length = m * 2 := by
 induction m with
 | zero => rfl
 | succ m ih => rw [zs, List.length_cons, List.length_cons, ih]; omega
theorem zs_get (m : Nat) : ∀ i (h : i < (zs m).length), (zs m)[i] = .int .i64 0 := by
 induction m with
 | zero => intro i h; exact absurd h (Nat.not_lt_zero _)
 | succ m ih =>
  intro i h
  match i with
  | 0 => rfl
  | 1 => rfl
  | i + 2 => exact ih i (by simpa [zs] using h)
theorem zs_zero (m : Nat) : (Builtin.zeroCells #[.int .i64 0, .int .i64 0] m).toList = zs m := by
 refine List.ext_getElem (by rw [zs_len]; simp [Builtin.zeroCells]) fun i h1 h2 => ?_
 rw [zs_get m i h2]
 simp [Builtin.zeroCells]
 rcases Nat.mod_two_eq_zero_or_one i with h | h <;> rw [h] <;> rfl
theorem clearC {base g n cap : Nat} {ok : Nat → Prop} : ∀ (m : Nat) (w : World) (k : Nat) (l : List S44), Kd.R k44 44 w base ok (.slice (some ⟨g, 0, none⟩) n cap) l → k + m ≤ n →
  ∃ l', l'.take k = l.take k ∧ Kd.R k44 44 (w.setCells g (k * 2) (zs m)) base ok (.slice (some ⟨g, 0, none⟩) n cap) l' ∧ w.grownBy (w.setCells g (k * 2) (zs m)) (some g)
 | 0, w, k, l, h, _ => ⟨l, rfl, h, ⟨rfl, rfl, rfl, Nat.le_refl _, fun _ _ _ => rfl⟩⟩
 | m + 1, w, k, l, h, hk => by
  obtain ⟨h1, g1⟩ := put2 h k (by omega) ⟨0, 0⟩
  obtain ⟨l', e, h2, g2⟩ := clearC m _ (k + 1) _ h1 (by omega)
  have hw : w.setCells g (k * 2) (zs (m + 1)) = ((w.setCell ⟨g, k * 2, none⟩ (.int .i64 0)).setCell ⟨g, k * 2 + 1, none⟩ (.int .i64 0)).setCells g ((k + 1) * 2) (zs m) := by
   rw [show (k + 1) * 2 = k * 2 + 1 + 1 by omega]
   rfl
  rw [hw]
  refine ⟨l', ?_, h2, grown_then g1 g2⟩
  have e2 := congrArg (List.take k) e
  rw [List.take_take, List.take_take, Nat.min_eq_left (by omega), List.take_set_of_le (Nat.le_refl _)] at e2
  exact e2
theorem clear_run {base g n cap : Nat} {ok : Nat → Prop} {l : List S44} (w : World) (k m c : Nat) (h0 : 0 < m) (h : Kd.R k44 44 w base ok (.slice (some ⟨g, 0, none⟩) n cap) l) (hk : k + m ≤ n) :
  (Builtin.clear_ #[29] 0 #[.slice (some ⟨g, k * 2, none⟩) m c]).run Tryz.prog w = .ok (.tuple #[]) (w.setCells g (k * 2) (zs m)) := by
 have hc : ∀ j, j < m * 2 → (w.cell? ⟨g, k * 2 + j, none⟩).isSome = true ∧ w.frozen? ⟨g, k * 2 + j, none⟩ = false := by
  intro j hj
  obtain ⟨⟨c0, c1⟩, hf⟩ := cells2 h (k + j / 2) (by omega)
  rcases Nat.mod_two_eq_zero_or_one j with hm | hm
  ·rw [show k * 2 + j = (k + j / 2) * 2 + 0 by omega]
   exact ⟨by rw [Nat.add_zero, c0]; rfl, hf 0⟩
  ·rw [show k * 2 + j = (k + j / 2) * 2 + 1 by omega]
   exact ⟨by rw [c1]; rfl, hf 1⟩
 have hst := run_storeCells_cells (P := Tryz.prog) g (k * 2) (zs m) 0 w (by rw [zs_len]; intro j hj; exact (hc j hj).1) (by rw [zs_len]; intro j hj; exact (hc j hj).2) (by
  intro v hv
  obtain ⟨i, hi, rfl⟩ := List.getElem_of_mem hv
  rw [zs_get]
  rfl)
 simp only [Nat.add_zero] at hst
 have hz : (zeroValue 44).run Tryz.prog w = .ok (.agg #[.int .i64 0, .int .i64 0]) w := Tryz.zeroValue44 w
 have hcl : (Value.agg #[.int .i64 0, .int .i64 0]).cells = #[.int .i64 0, .int .i64 0] := by rfl
 obtain ⟨m, rfl⟩ : ∃ q, m = q + 1 := ⟨m - 1, by omega⟩
 have hu := Tryz.underlying29
 simp [Builtin.clear_, run_underlying hu, hz, hcl, zs_zero, hst]
attribute [local go_sem high] eqA44
set_option maxRecDepth 100000 in
set_option maxHeartbeats 4000000 in
theorem impl_beside.compact (w : World) (base : Nat) (ok : Nat → Prop) (v : Value) (xs : List S44) (h : Kd.R k44 44 w base ok v xs) (hl : xs.length ≤ 1000000000) :
  Calls Tryz.prog 59 #[v] w fun e w' => ∃ v', e = .returned v' ∧ Kd.R k44 44 w' base ok v' (cmpN xs xs.length) ∧ w.grownBy w' v.ownBlock := by
 have hu34 := Tryz.underlying44
 by_cases h2 : xs.length < 2
 ·obtain ⟨A, c, rfl⟩ := Kd.R_slice h
  have e : cmpN xs xs.length = xs := by
   match xs, h2 with
   | [], _ => rfl
   | [a], _ => simp [cmpN, rd_T44]
  rw [e]
  have HR := Aside0.mk h
  clear h e
  go_enter Tryz.func59, Tryz.ntmps59
  go_wp2
  go_ret
  exact ⟨_, rfl, HR.out, ⟨rfl, rfl, rfl, Nat.le_refl _, fun _ _ _ => rfl⟩⟩
 ·obtain ⟨g, cap, rfl, hb, hg, _⟩ := Kd.R_form h (by omega)
  have hcap := (Kd.R_reads' h).2.1
  have HR := Aside0.mk h
  clear h
  go_enter Tryz.func59, Tryz.ntmps59
  go_wp2
  go_loopw [3] (fun i wr => ∃ kk : Nat, 1 ≤ kk ∧ kk ≤ xs.length ∧ i = .int .i64 (kk : Int) ∧ Aside0 (cmpN xs kk = xs.take kk) ∧ Aside0 (Kd.R k44 44 wr base ok (.slice (some ⟨g, 0, none⟩) xs.length cap) xs) ∧ Aside0 (w.grownBy wr (some g))) (fun i _ => xs.length - (intOf i).toNat)
  case atStart => exact ⟨1, Nat.le_refl _, by omega, rfl, ⟨by
   rw [cmpN, cmpN, if_neg (by omega), rdN xs (by omega), List.take_add_one, List.getElem?_eq_getElem (show 0 < xs.length by omega)]
   simp⟩, HR, ⟨⟨rfl, rfl, rfl, Nat.le_refl _, fun _ _ _ => rfl⟩⟩⟩
  case round =>
   clear hb hg
   obtain ⟨kk, hk1, hm, rfl, HC, HR1, HG⟩ := hrel
   by_cases hlt : kk < xs.length
   ·obtain ⟨m, hkm⟩ : ∃ m, kk = m + 1 := ⟨kk - 1, by omega⟩
    obtain ⟨⟨x0, x1⟩, _⟩ := cells2 HR1.out kk hlt
    obtain ⟨⟨y0, y1⟩, _⟩ := cells2 HR1.out m (by omega)
    have hC2 : cmpN xs (kk + 1) = xs.take kk ++ (if eqC (rd_T44 xs (kk : Int)) (rd_T44 xs (m : Int)) = true then [] else [rd_T44 xs (kk : Int)]) := by
     rw [cmpN, HC.out, hkm, Nat.add_sub_cancel]
     congr 1
     by_cases he : eqC (rd_T44 xs ((m + 1 : Nat) : Int)) (rd_T44 xs (m : Int)) = true
     ·rw [if_pos he, if_pos ⟨by omega, he⟩]
     ·rw [if_neg he, if_neg (fun c => he c.2)]
    have hrd : xs[kk]? = some (rd_T44 xs (kk : Int)) := by rw [rdN xs hlt, List.getElem?_eq_getElem hlt]
    have HC2 := Aside0.mk hC2
    have HRD := Aside0.mk hrd
    clear hC2 hrd
    generalize ha : rd_T44 xs (kk : Int) = a at x0 x1 HC2 HRD
    generalize hb' : rd_T44 xs (m : Int) = b at y0 y1 HC2
    have hsub : IntKind.i64.wrap ((kk : Int) - 1) = (m : Int) := (i64_w _).trans (by unfold wrap64; omega)
    have p1 : ((0 : Int) ≤ (kk : Int)) = True := eq_true (by omega)
    have q1 : ((kk : Int) < (xs.length : Int)) = True := eq_true (by omega)
    have p2 : ((0 : Int) ≤ (m : Int)) = True := eq_true (by omega)
    have q2 : ((m : Int) < (xs.length : Int)) = True := eq_true (by omega)
    have q3 : (kk < xs.length) = True := eq_true hlt
    have q4 : (m < xs.length) = True := eq_true (by omega)
    have HKM := Aside0.mk hkm
    have HLT := Aside0.mk hlt
    clear ha hb' hkm hlt
    cases he : (a.f0 == b.f0 && a.f1 == b.f1) with
    | false =>
     go_upto_region 6 with (fail)
     go_region_held3 (fun w' => w'.cell? ⟨g, kk * 2, none⟩ = some (.int .i64 a.f0) ∧ w'.cell? ⟨g, kk * 2 + 1, none⟩ = some (.int .i64 a.f1) ∧ w'.cell? ⟨g, m * 2, none⟩ = some (.int .i64 b.f0) ∧ w'.cell? ⟨g, m * 2 + 1, none⟩ = some (.int .i64 b.f1)) (first | go_keep | fail) (first | fail)
     rename_i hHeld
     clear hHeld
     have HE := Aside0.mk (show eqC a b = false from he)
     go_wp2
     go_roundw
     case rel => exact ⟨kk + 1, by omega, by have := HLT.out; omega, by go_num, ⟨by
      rw [HC2.out, HE.out, if_neg (by simp), List.take_add_one, HRD.out]
      simp only [Option.toList_some]⟩, ⟨Kd.R_drew HR1.out⟩, ⟨grown_drew HG.out⟩⟩
     case measure => have := HLT.out; simp [intOf]; omega
    | true =>
     have HE := Aside0.mk (show eqC a b = true from he)
     go_upto_region 6 with (fail)
     go_region_held3 (fun w' => w'.cell? ⟨g, kk * 2, none⟩ = some (.int .i64 a.f0) ∧ w'.cell? ⟨g, kk * 2 + 1, none⟩ = some (.int .i64 a.f1) ∧ w'.cell? ⟨g, m * 2, none⟩ = some (.int .i64 b.f0) ∧ w'.cell? ⟨g, m * 2 + 1, none⟩ = some (.int .i64 b.f1)) (first | go_keep | fail) (first | fail)
     rename_i hHeld
     clear hHeld x0 x1 y0 y1
     have hcc : kk ≤ cap := by have := HLT.out; omega
     have hkl : kk ≤ xs.length := hm
     have hnc : (cap = kk) = False := eq_false (by have := HLT.out; omega)
     have hnc2 : (kk = cap) = False := eq_false (by have := HLT.out; omega)
     go_wp2
     obtain ⟨n2, hn2⟩ : ∃ n2, xs.length - kk = n2 := ⟨_, rfl⟩
     have hn3 : xs.length = kk + n2 := by omega
     rw [hn2]
     have HN := Aside0.mk hn3
     have HG0 := Aside0.mk (grown_drew HG.out)
     have HR0 := Aside0.mk (Kd.R_drew HR1.out)
     clear hn2 HR1 HG p1 q1 p2 q2 q3 q4 hsub
     go_loopw [3, 5] (fun i j wr => ∃ (k k2 : Nat) (ys : List S44), 1 ≤ k2 ∧ k2 ≤ n2 ∧ 1 ≤ k ∧ k + 1 ≤ kk + k2 ∧ i = .int .i64 (k : Int) ∧ j = .int .i64 (k2 : Int) ∧ Aside0 (ys.length = xs.length) ∧ Aside0 (∀ j : Nat, kk + k2 ≤ j + 1 → rd_T44 ys j = rd_T44 xs j) ∧ Aside0 (cmpN xs (kk + k2) = ys.take k) ∧ Aside0 (Kd.R k44 44 wr base ok (.slice (some ⟨g, 0, none⟩) xs.length cap) ys) ∧ Aside0 (w.grownBy wr (some g))) (fun _ j _ => n2 - (intOf j).toNat)
     case atStart => exact ⟨kk, 1, xs, Nat.le_refl _, by have := HLT.out; omega, hk1, Nat.le_refl _, rfl, rfl, ⟨rfl⟩, ⟨fun _ _ => rfl⟩, ⟨by rw [HC2.out, if_pos HE.out, List.append_nil]⟩, HR0, HG0⟩
     case round =>
      clear HR0 HG0
      obtain ⟨k, k2, ys, h21, h2n, hk0, hkk, rfl, rfl, HYL, HYX, HCM, HR2, HG2⟩ := hrel
      by_cases hlt2 : k2 < n2
      ·obtain ⟨m2, hkm2⟩ : ∃ m2, k2 = m2 + 1 := ⟨k2 - 1, by omega⟩
       obtain ⟨⟨x0, x1⟩, _⟩ := cells2 HR2.out (kk + k2) (by omega)
       obtain ⟨⟨y0, y1⟩, _⟩ := cells2 HR2.out (kk + m2) (by omega)
       obtain ⟨⟨z0, z1⟩, hfz⟩ := cells2 HR2.out k (by omega)
       have f0 : wr.frozen? ⟨g, k * 2, none⟩ = false := hfz 0
       have f1 : wr.frozen? ⟨g, k * 2 + 1, none⟩ = false := hfz 1
       have ea := HYX.out (kk + k2) (by omega)
       have eb := HYX.out (kk + m2) (by omega)
       have hC4 : cmpN xs (kk + k2 + 1) = ys.take k ++ (if eqC (rd_T44 ys ((kk + k2 : Nat) : Int)) (rd_T44 ys ((kk + m2 : Nat) : Int)) = true then [] else [rd_T44 ys ((kk + k2 : Nat) : Int)]) := by
        rw [cmpN, HCM.out, ea, eb, show kk + k2 - 1 = kk + m2 by omega]
        congr 1
        by_cases he : eqC (rd_T44 xs ((kk + k2 : Nat) : Int)) (rd_T44 xs ((kk + m2 : Nat) : Int)) = true
        ·rw [if_pos he, if_pos ⟨by omega, he⟩]
        ·rw [if_neg he, if_neg (fun c => he c.2)]
       have HC4 := Aside0.mk hC4
       clear hC4 ea eb hfz
       generalize rd_T44 ys ((kk + k2 : Nat) : Int) = a2 at x0 x1 HC4
       generalize rd_T44 ys ((kk + m2 : Nat) : Int) = b2 at y0 y1 HC4
       rw [Nat.add_mul] at x0 x1 y0 y1
       have hsub : IntKind.i64.wrap ((k2 : Int) - 1) = (m2 : Int) := (i64_w _).trans (by unfold wrap64; omega)
       have p1 : ((0 : Int) ≤ (k2 : Int)) = True := eq_true (by omega)
       have q1 : ((k2 : Int) < (n2 : Int)) = True := eq_true (by omega)
       have p2 : ((0 : Int) ≤ (m2 : Int)) = True := eq_true (by omega)
       have q2 : ((m2 : Int) < (n2 : Int)) = True := eq_true (by omega)
       have q3 : (k2 < n2) = True := eq_true hlt2
       have q4 : (m2 < n2) = True := eq_true (by omega)
       have hkx : k < xs.length := by omega
       have HLT2 := Aside0.mk hlt2
       have HKM2 := Aside0.mk hkm2
       clear hlt2 hkm2
       cases he2 : (a2.f0 == b2.f0 && a2.f1 == b2.f1) with
       | true =>
        have HE2 := Aside0.mk (show eqC a2 b2 = true from he2)
        go_upto_region 11 with (fail)
        go_region_held3 (fun w' => w'.cell? ⟨g, kk * 2 + k2 * 2, none⟩ = some (.int .i64 a2.f0) ∧ w'.cell? ⟨g, kk * 2 + k2 * 2 + 1, none⟩ = some (.int .i64 a2.f1) ∧ w'.cell? ⟨g, kk * 2 + m2 * 2, none⟩ = some (.int .i64 b2.f0) ∧ w'.cell? ⟨g, kk * 2 + m2 * 2 + 1, none⟩ = some (.int .i64 b2.f1)) (first | go_keep | fail) (first | fail)
        rename_i hHeld
        clear hHeld
        go_wp2
        go_roundw
        case rel => exact ⟨k, k2 + 1, ys, by omega, by have := HLT2.out; omega, hk0, by omega, rfl, by go_num, HYL, ⟨fun j hj => HYX.out j (by omega)⟩, ⟨by rw [← Nat.add_assoc, HC4.out, if_pos HE2.out, List.append_nil]⟩, ⟨Kd.R_drew HR2.out⟩, ⟨grown_drew HG2.out⟩⟩
        case measure => have := HLT2.out; simp [intOf]; omega
       | false =>
        have HE2 := Aside0.mk (show eqC a2 b2 = false from he2)
        have HP := Aside0.mk (put2 (Kd.R_drew HR2.out) k hkx a2)
        go_upto_region 11 with (fail)
        go_region_held3 (fun w' => w'.cell? ⟨g, kk * 2 + k2 * 2, none⟩ = some (.int .i64 a2.f0) ∧ w'.cell? ⟨g, kk * 2 + k2 * 2 + 1, none⟩ = some (.int .i64 a2.f1) ∧ w'.cell? ⟨g, kk * 2 + m2 * 2, none⟩ = some (.int .i64 b2.f0) ∧ w'.cell? ⟨g, kk * 2 + m2 * 2 + 1, none⟩ = some (.int .i64 b2.f1)) (first | go_keep | fail) (first | fail)
        rename_i hHeld
        clear hHeld
        go_wp2
        go_roundw
        case rel => exact ⟨k + 1, k2 + 1, ys.set k a2, by omega, by have := HLT2.out; omega, by omega, by omega, by go_num, by go_num, ⟨by rw [List.length_set]; exact HYL.out⟩, ⟨fun j hj => by
         rw [rd_ne ys k j a2 (by omega)]
         exact HYX.out j (by omega)⟩, ⟨by
         rw [← Nat.add_assoc, HC4.out, if_neg (by rw [HE2.out]; simp), List.take_add_one, List.take_set_of_le (Nat.le_refl _), List.getElem?_set_self (by rw [HYL.out]; exact hkx)]
         rfl⟩, ⟨HP.out.1⟩, ⟨grown_then HG2.out (grown_of_drew HP.out.2)⟩⟩
        case measure => have := HLT2.out; simp [intOf]; omega
      ·have hk2e : k2 = n2 := by omega
       have hkx : k < xs.length := by omega
       have HKN := Aside0.mk hk2e
       have hclr := clear_run wr k (kk + n2 - k) (cap - k) (by omega) HR2.out (by omega)
       obtain ⟨ls, hlt, hls, hgs⟩ := clearC (kk + n2 - k) wr k ys HR2.out (by omega)
       have HLS := Aside0.mk hls
       have HGS := Aside0.mk hgs
       have HTK := Aside0.mk hlt
       clear hls hgs hlt hk2e
       go_wp2
       go_ret
       exact ⟨_, rfl, by
        have e := HCM.out
        rw [HKN.out, ← HN.out] at e
        rw [e, ← HTK.out]
        exact Kd.R_take HLS.out (by have := (Kd.R_reads' HLS.out).1; omega), grown_then HG2.out HGS.out⟩
   ·have hkx : kk = xs.length := by omega
    have HKX := Aside0.mk hkx
    have hnl : ¬ kk < xs.length := hlt
    clear hkx
    go_wp2
    go_ret
    exact ⟨_, rfl, by
     have := HC.out
     rw [HKX.out, List.take_length] at this
     rw [this]
     exact HR1.out, HG.out⟩
def bndC (c : S44) : Prop := -1000000 ≤ c.f0 ∧ c.f0 ≤ 1000000 ∧ -1000000 ≤ c.f1 ∧ c.f1 ≤ 1000000
def corn (x y : Int) : List S44 := [⟨x - 1, y - 1⟩, ⟨x, y - 1⟩, ⟨x + 1, y - 1⟩, ⟨x - 1, y⟩, ⟨x + 1, y⟩, ⟨x - 1, y + 1⟩, ⟨x, y + 1⟩, ⟨x + 1, y + 1⟩]
def memC (l : List S44) (d : S44) : Bool := l.any fun c => d.f0 == c.f0 && d.f1 == c.f1
def sideC (l : List S44) (ds : List S44) : List S44 := ds.filter fun d => !memC l d
def rawC (l m : List S44) : List S44 := m.flatMap fun c => sideC l (corn c.f0 c.f1)
def besC (l : List S44) : List S44 := cmpN (sortC (rawC l l)) (sortC (rawC l l)).length
theorem sideC_len (l ds : List S44) : (sideC l ds).length ≤ ds.length := List.length_filter_le _ _
theorem rawC_len (l : List S44) : ∀ m : List S44, (rawC l m).length ≤ m.length * 8
 | [] => by simp [rawC]
 | c :: m => by
  have h := rawC_len l m
  have h2 := sideC_len l (corn c.f0 c.f1)
  have h3 : (corn c.f0 c.f1).length = 8 := rfl
  have e : rawC l (c :: m) = sideC l (corn c.f0 c.f1) ++ rawC l m := rfl
  rw [e, List.length_append, List.length_cons]
  omega
theorem wrapB {t : Int} (h1 : -1000010 ≤ t) (h2 : t ≤ 1000010) : wrap64 t = t := by unfold wrap64; omega
theorem corn_l1 (k : Nat) (acc : List S44) (t x y : Int) (hx : -1000000 ≤ x ∧ x ≤ 1000000) (ht : (t == y) = false) (hl : acc.length < 1000) :
  impl_cornersAround.l1 (k + 4) acc t (x - 1) x y = impl_cornersAround.l0 k (acc ++ [⟨x - 1, t⟩, ⟨x, t⟩, ⟨x + 1, t⟩]) (wrap64 (t + 1)) x y := by
 rw [impl_cornersAround.l1, wrapB (t := x + 1) (by omega) (by omega), wrapB (t := x - 1 + 1) (by omega) (by omega), if_pos (by omega), ht, if_pos (by simp), if_pos (by omega)]
 rw [impl_cornersAround.l1, wrapB (t := x + 1) (by omega) (by omega), wrapB (t := x - 1 + 1 + 1) (by omega) (by omega), if_pos (by omega), ht, if_pos (by simp), if_pos (by rw [List.length_append]; simp; omega)]
 rw [impl_cornersAround.l1, wrapB (t := x + 1) (by omega) (by omega), wrapB (t := x - 1 + 1 + 1 + 1) (by omega) (by omega), if_pos (by omega), ht, if_pos (by simp), if_pos (by rw [List.length_append, List.length_append]; simp; omega)]
 rw [impl_cornersAround.l1, wrapB (t := x + 1) (by omega) (by omega), if_neg (by omega)]
 rw [show x - 1 + 1 + 1 = x + 1 by omega, show x - 1 + 1 = x by omega]
 simp only [List.append_assoc, List.cons_append, List.nil_append]
theorem corn_l1y (k : Nat) (acc : List S44) (x y : Int) (hx : -1000000 ≤ x ∧ x ≤ 1000000) (hl : acc.length < 1000) :
  impl_cornersAround.l1 (k + 4) acc y (x - 1) x y = impl_cornersAround.l0 k (acc ++ [⟨x - 1, y⟩, ⟨x + 1, y⟩]) (wrap64 (y + 1)) x y := by
 have e1 : (x - 1 == x) = false := by simp; omega
 have e2 : (x - 1 + 1 == x) = true := by simp
 have e3 : (x - 1 + 1 + 1 == x) = false := by simp; omega
 have e4 : (y == y) = true := by simp
 rw [impl_cornersAround.l1, wrapB (t := x + 1) (by omega) (by omega), wrapB (t := x - 1 + 1) (by omega) (by omega), if_pos (by omega), e1, if_pos (by simp), if_pos (by omega)]
 rw [impl_cornersAround.l1, wrapB (t := x + 1) (by omega) (by omega), wrapB (t := x - 1 + 1 + 1) (by omega) (by omega), if_pos (by omega), e2, e4, if_neg (by simp)]
 rw [impl_cornersAround.l1, wrapB (t := x + 1) (by omega) (by omega), wrapB (t := x - 1 + 1 + 1 + 1) (by omega) (by omega), if_pos (by omega), e3, if_pos (by simp), if_pos (by rw [List.length_append]; simp; omega)]
 rw [impl_cornersAround.l1, wrapB (t := x + 1) (by omega) (by omega), if_neg (by omega)]
 rw [show x - 1 + 1 + 1 = x + 1 by omega]
 simp only [List.append_assoc, List.cons_append, List.nil_append]
theorem corn_eq (x y : Int) (hx : -1000000 ≤ x ∧ x ≤ 1000000) (hy : -1000000 ≤ y ∧ y ≤ 1000000) : ∃ k, impl_cornersAround.f k x y = some (corn x y) := by
 refine ⟨0 + 1 + 4 + 1 + 4 + 1 + 4 + 1, ?_⟩
 have f1 : (y - 1 == y) = false := by simp; omega
 have f2 : (y + 1 == y) = false := by simp; omega
 unfold impl_cornersAround.f
 rw [wrapB (t := y - 1) (by omega) (by omega), impl_cornersAround.l0, wrapB (t := y + 1) (by omega) (by omega), wrapB (t := x - 1) (by omega) (by omega), if_pos (by omega), corn_l1 _ _ _ _ _ hx f1 (by simp), wrapB (t := y - 1 + 1) (by omega) (by omega), show y - 1 + 1 = y by omega]
 rw [impl_cornersAround.l0, wrapB (t := y + 1) (by omega) (by omega), wrapB (t := x - 1) (by omega) (by omega), if_pos (by omega), corn_l1y _ _ _ _ hx (by simp), wrapB (t := y + 1) (by omega) (by omega)]
 rw [impl_cornersAround.l0, wrapB (t := y + 1) (by omega) (by omega), wrapB (t := x - 1) (by omega) (by omega), if_pos (by omega), corn_l1 _ _ _ _ _ hx f2 (by simp), wrapB (t := y + 1 + 1) (by omega) (by omega)]
 rw [impl_cornersAround.l0, wrapB (t := y + 1) (by omega) (by omega), if_neg (by omega)]
 rfl
theorem cont_l0 (l : List S44) (x y : Int) (hl : l.length ≤ 1000000) : ∀ (n : Nat) (i : Nat), l.length - i = n → i ≤ l.length → ∃ r, impl_Cell_66.l0 (n + 1) l (l.length : Int) (i : Int) x y = some r ∧ (0 ≤ r ↔ memC (l.drop i) ⟨x, y⟩ = true)
 | 0, i, hn, hi => by
  refine ⟨-1, ?_, ?_⟩
  ·unfold impl_Cell_66.l0
   rw [if_neg (by omega)]
  ·rw [List.drop_of_length_le (by omega)]
   simp [memC]
 | n + 1, i, hn, hi => by
  have hi2 : i < l.length := by omega
  have hd : l.drop i = rd_T44 l (i : Int) :: l.drop (i + 1) := by rw [rdN l hi2, ← List.drop_eq_getElem_cons hi2]
  unfold impl_Cell_66.l0
  rw [if_pos (by omega), if_pos (by omega), if_pos (by omega)]
  have hm : memC (l.drop i) ⟨x, y⟩ = ((x == (rd_T44 l (i : Int)).f0 && y == (rd_T44 l (i : Int)).f1) || memC (l.drop (i + 1)) ⟨x, y⟩) := by rw [hd]; rfl
  rw [hm]
  by_cases h : (x == (rd_T44 l (i : Int)).f0 && y == (rd_T44 l (i : Int)).f1) = true
  ·rw [if_pos h, h]
   exact ⟨_, rfl, by simp⟩
  ·rw [if_neg h]
   have hw : wrap64 ((i : Int) + 1) = ((i + 1 : Nat) : Int) := by unfold wrap64; omega
   rw [hw]
   obtain ⟨r, h1, h2⟩ := cont_l0 l x y hl n (i + 1) (by omega) (by omega)
   exact ⟨r, h1, by rw [h2]; simp only [Bool.not_eq_true] at h; rw [h, Bool.false_or]⟩
theorem cont_eq (l : List S44) (d : S44) (hl : l.length ≤ 1000000) : impl_Cell_41.f (l.length + 1) l d.f0 d.f1 = some (memC l d) := by
 obtain ⟨r, h1, h2⟩ := cont_l0 l d.f0 d.f1 hl l.length 0 (by omega) (by omega)
 rw [List.drop_zero] at h2
 unfold impl_Cell_41.f impl_Cell_66.f
 rw [show (0 : Int) = ((0 : Nat) : Int) from rfl, h1]
 simp only [Option.bind_some]
 congr 1
 by_cases hm : memC l d = true
 ·rw [hm]; simp; exact h2.2 hm
 ·have : ¬ (0 ≤ r) := fun h => hm (h2.1 h)
  simp only [Bool.not_eq_true] at hm
  rw [hm]; simp; omega
theorem size_al (w : World) (o : Obj) : (w.alloc o).heap.size = w.heap.size + 1 := by
 show (w.heap.push o).size = _
 simp
theorem cell_blk {w W : World} {g i : Nat} (h : W.heap[g]? = w.heap[g]?) : W.cell? ⟨g, i, none⟩ = w.cell? ⟨g, i, none⟩ := by simp [World.cell?, h]
set_option maxRecDepth 100000 in
set_option maxHeartbeats 4000000 in
theorem impl_beside.corners (A0 : Option Addr) (c0 : Nat) (l0 : List S44) (w : World) (hr0 : Kd.C k44 w A0 l0.length l0) (hc0 : l0.length ≤ c0) (hl : l0.length ≤ 1000) (hb : ∀ c ∈ l0, bndC c) :
  Calls Tryz.prog 36 #[.slice A0 l0.length c0, .func (.func 37) #[] #[]] w fun e w' => ∃ v', e = .returned v' ∧ Kd.R k44 44 w' w.heap.size (fun _ => True) v' (besC l0) ∧ Below w.heap.size w w' := by
 have hu34 := Tryz.underlying44
 have HR0 := am hr0
 have HBN := am hb
 have HC0 := am hc0
 clear hr0 hb hc0
 have HB := am (Below.refl w.heap.size w)
 go_enter Tryz.func36, Tryz.ntmps36
 go_wp2_with ((with_reducible refine gate_dst (N := 10) rfl ?_); refine Kd.R_lit k44 w.heap.size 44 ?hg (N := 10) ?hd (xs := ([] : List S44)) (inner := []) (ok := fun _ => True) (okp := fun _ => True) ?hr ?hp (fun _ hk => hk) trivial HB.out (Nat.le_refl _) (by simp) ?_; (case hd => rfl); (case hg => rfl); (case hr => first | (go_simp; done) | (go_simp; rfl)); (case hp => exact (Reps.none _ _)); intro v10 w10 ho4 hb hg_ hnew_; clear hg_ hnew_; clear HB; have HO := am ho4; have HB := am hb; clear hb ho4)
 go_loopw [5, 13] (fun v5 i wr => ∃ kk : Nat, kk ≤ l0.length ∧ i = .int .i64 (kk : Int) ∧ Aside0 (Kd.R k44 44 wr w.heap.size (fun _ => True) v5 (rawC l0 (l0.take kk))) ∧ Aside0 (Below w.heap.size w wr)) (fun _ i _ => l0.length - (intOf i).toNat)
 case atStart => exact ⟨0, Nat.zero_le _, rfl, HO, HB⟩
 case round =>
  clear HO HB
  obtain ⟨kk, hk, rfl, HO, HB⟩ := hrel
  by_cases hlt : kk < l0.length
  ·have hp : (0 : Int) ≤ (kk : Int) := by omega
   have hq : (kk : Int) < (l0.length : Int) := by omega
   obtain ⟨ad, rfl, hx0, hx1⟩ := at_T44 HR0.out (kk : Int) hp hq
   rw [Int.toNat_natCast] at hx0 hx1
   replace hx0 := pc HB.out hx0
   replace hx1 := pc HB.out hx1
   have hbn := HBN.out (rd_T44 l0 (kk : Int)) (by rw [rdN l0 hlt]; exact List.getElem_mem hlt)
   have htk : rawC l0 (l0.take (kk + 1)) = rawC l0 (l0.take kk) ++ sideC l0 (corn (rd_T44 l0 (kk : Int)).f0 (rd_T44 l0 (kk : Int)).f1) := by
    rw [List.take_add_one, List.getElem?_eq_getElem hlt, rdN l0 hlt]
    simp only [rawC, List.flatMap_append, Option.toList_some, List.flatMap_cons, List.flatMap_nil, List.append_nil]
   generalize rd_T44 l0 (kk : Int) = c at hx0 hx1 hbn htk
   obtain ⟨kf, hcorn⟩ := corn_eq c.f0 c.f1 ⟨hbn.1, hbn.2.1⟩ ⟨hbn.2.2.1, hbn.2.2.2⟩
   have HCN := am hcorn
   have HTK := am htk
   have HLT := am hlt
   clear hbn hcorn htk hlt
   have p1 := eq_true hp
   have q1 := eq_true hq
   clear hp hq
   have hc8 : (corn c.f0 c.f1).length = 8 := rfl
   have HC8 := am hc8
   clear hc8
   go_wp2_with ((go_at_call 37); (refine (impl_cornersAround.calls kf c.f0 c.f1 _ _ HCN.out).mono ?_); (rintro e w5 ⟨v5, rfl, hR5, hB5⟩); (obtain ⟨g, cap, rfl, hgb, _, _⟩ := Kd.R_form hR5 (by rw [HC8.out]; omega)); have n0_ := am (Kd.R_below (Kd.R_elderB (Kd.R_alloc HO.out _) g hgb) hB5); have n1_ := am (Bb6 (Bb1 HB.out _) hB5); have n2_ := am (Kd.R_lower hR5 (Nat.le_trans (Bb5 HB.out) (by rw [size_al]; omega))); clear HO HB hR5 hB5 HCN hgb; have HO := n0_; have HB := n1_; have HNB := n2_; clear n0_ n1_ n2_; rw [HC8.out] at HNB ⊢)
   go_loopw [5, 21] (fun u i wr => ∃ k2 : Nat, k2 ≤ 8 ∧ i = .int .i64 (k2 : Int) ∧ Aside0 (Kd.R k44 44 wr w.heap.size (fun k => k ≠ g) u (rawC l0 (l0.take kk) ++ sideC l0 ((corn c.f0 c.f1).take k2))) ∧ Aside0 (Kd.R k44 44 wr w.heap.size (fun _ => True) (.slice (some ⟨g, 0, none⟩) 8 cap) (corn c.f0 c.f1)) ∧ Aside0 (Below w.heap.size w wr)) (fun _ i _ => 8 - (intOf i).toNat)
   case atStart => exact ⟨0, Nat.zero_le _, rfl, ⟨by
    rw [List.take_zero, show sideC l0 [] = [] from rfl, List.append_nil]
    exact Kd.R_mono HO.out (fun _ h => h.2)⟩, HNB, HB⟩
   case round =>
    clear HO HB HNB
    obtain ⟨k2, hk2, rfl, HO, HNB, HB⟩ := hrel
    by_cases hlt2 : k2 < 8
    ·obtain ⟨⟨y0, y1⟩, _⟩ := cells2 HNB.out k2 hlt2
     have htk2 : sideC l0 ((corn c.f0 c.f1).take (k2 + 1)) = sideC l0 ((corn c.f0 c.f1).take k2) ++ sideC l0 [rd_T44 (corn c.f0 c.f1) (k2 : Int)] := by
      rw [List.take_add_one, List.getElem?_eq_getElem (show k2 < (corn c.f0 c.f1).length by rw [HC8.out]; exact hlt2), rdN _ (by rw [HC8.out]; exact hlt2)]
      simp only [sideC, List.filter_append, Option.toList_some]
     have HTK2 := am htk2
     clear htk2
     generalize rd_T44 (corn c.f0 c.f1) (k2 : Int) = d at y0 y1 HTK2
     have p2 : ((0 : Int) ≤ (k2 : Int)) = True := eq_true (by omega)
     have q2 : ((k2 : Int) < 8) = True := eq_true (by omega)
     have q3 : (k2 < 8) = True := eq_true hlt2
     have HLT2 := am hlt2
     clear hlt2
     have hlen : (rawC l0 (l0.take kk) ++ sideC l0 ((corn c.f0 c.f1).take k2)).length ≤ 10000 := by
      have h1 := rawC_len l0 (l0.take kk)
      have h2 := sideC_len l0 ((corn c.f0 c.f1).take k2)
      rw [List.length_take] at h1 h2
      have := HC8.out
      rw [List.length_append]
      omega
     have HLEN := am hlen
     clear hlen
     generalize hxs : rawC l0 (l0.take kk) ++ sideC l0 ((corn c.f0 c.f1).take k2) = xs at HO HLEN
     have HXS := am hxs
     clear hxs
     have HCT := am (cont_eq l0 d (by omega))
     cases hmem : memC l0 d with
     | true =>
      have HMM := am hmem
      rw [hmem] at HCT
      clear hmem
      go_wp2_with ((go_at_call 41); (refine (impl_Cell_41.calls (l0.length + 1) (some ad) c0 l0 d.f0 d.f1 true _ (Kd.C_below HR0.out (Bb1 HB.out _)) HC0.out HCT.out).mono ?_); (rintro e w6 ⟨rfl, hB6⟩); have n0_ := am (Kd.R_below (Kd.R_alloc HO.out _) hB6); have n1_ := am (Bb6 (Bb1 HB.out _) hB6); have n2_ := am (Kd.R_below (Kd.R_alloc HNB.out _) hB6); clear HO HB HNB; have HO := n0_; have HB := n1_; have HNB := n2_; clear n0_ n1_ n2_ hB6)
      go_roundw
      case rel => exact ⟨k2 + 1, by have := HLT2.out; omega, by go_num, ⟨by
       rw [HTK2.out, ← List.append_assoc, HXS.out, show sideC l0 [d] = [] by simp [sideC, HMM.out], List.append_nil]
       exact HO.out⟩, HNB, HB⟩
      case measure => have := HLT2.out; simp [intOf]; omega
     | false =>
      have HMM := am hmem
      rw [hmem] at HCT
      clear hmem
      go_wp2_with (first
       | ((go_at_call 41); (refine (impl_Cell_41.calls (l0.length + 1) (some ad) c0 l0 d.f0 d.f1 false _ (Kd.C_below HR0.out (Bb1 HB.out _)) HC0.out HCT.out).mono ?_); (rintro e w6 ⟨rfl, hB6⟩); have n0_ := am (Kd.R_below (Kd.R_alloc HO.out _) hB6); have n1_ := am (Bb6 (Bb1 HB.out _) hB6); have n2_ := am (Kd.R_below (Kd.R_alloc HNB.out _) hB6); have hbx := Bk4 (blk_new wr _) hB6; have z0 : w6.cell? ⟨wr.heap.size, 0, none⟩ = some (.int .i64 d.f0) := (kc hbx 0).trans rfl; have z1 : w6.cell? ⟨wr.heap.size, 1, none⟩ = some (.int .i64 d.f1) := (kc hbx 1).trans rfl; clear HO HB HNB hbx; have HO := n0_; have HB := n1_; have HNB := n2_; clear n0_ n1_ n2_ hB6; (obtain ⟨_, _, hgf, _, hgl, _⟩ := Kd.R_form HNB.out (by rw [HC8.out]; omega)); (cases hgf); have HGL := am hgl; clear hgl)
       | ((with_reducible refine gate_builtin (b := .append) (xs := #[.tmp 29, .tmp 31]) rfl ?_); at_builtin; refine Kd.R_append k44 (w0 := w) w.heap.size rfl (.tmp 29) (.tmp 31) 29 44 (.agg #[(.int .i64 0), (.int .i64 0)]) 16 rfl Tryz.underlying29 info44 rfl (by decide) (by omega) u5 xs d [.int .i64 d.f0, .int .i64 d.f1] (fun k => k ≠ g) (fun _ => False) rfl rfl ?aP (fun _ hk => hk.elim) ?aF ?aO ?aB ?aS ?aL ?_; (case aP => exact k44_mkM _ _ _ d); (case aB => exact HB.out); (case aF => exact (fun k hk => by have := HGL.out; omega)); (case aO => exact HO.out); (case aS => exact Bb5 HB.out); (case aL => have := HLEN.out; omega); intro v1 w7 ho hb hg hat; have n0_ := am ho; have n1_ := am hb; have n2_ := am (Kd.R_grown2 HNB.out rfl hg (fun k hk hke => Kd.R_away HO.out (fun _ h => h) (by rw [hk, hke]; rfl))); clear HO HB HNB ho hb hg hat; have HO := n0_; have HB := n1_; have HNB := n2_; clear n0_ n1_ n2_))
      go_roundw
      case rel => exact ⟨k2 + 1, by have := HLT2.out; omega, by go_num, ⟨by
       rw [HTK2.out, ← List.append_assoc, HXS.out, show sideC l0 [d] = [d] by simp [sideC, HMM.out]]
       exact HO.out⟩, HNB, HB⟩
      case measure => have := HLT2.out; simp [intOf]; omega
    ·have hk8 : k2 = 8 := by omega
     have HK8 := am hk8
     clear hk8
     go_wp2
     go_roundw
     case rel => exact ⟨kk + 1, by have := HLT.out; omega, by go_num, ⟨by
      rw [HTK.out]
      have e := HO.out
      rw [HK8.out, List.take_of_length_le (l := corn c.f0 c.f1) (by rw [HC8.out]; omega)] at e
      exact Kd.R_mono e (fun _ _ => trivial)⟩, HB⟩
     case measure => have := HLT.out; simp [intOf]; omega
  ·have hkx : kk = l0.length := by omega
   subst hkx
   rw [List.take_length] at HO
   have hlen : (rawC l0 l0).length ≤ 8000 := by
    have h1 := rawC_len l0 l0
    omega
   have HLEN := am hlen
   clear hlen
   go_wp2_with (go_at_call 57; fail)
   refine (impl_sorted.own _ w.heap.size (fun _ => True) u5 _ HO.out (by have := HLEN.out; omega)).mono ?_
   rintro e w6 ⟨rfl, hR6, hG6⟩
   have n1_ := am (below_grownC HB.out hG6 (fun k hk => baseC HO.out hk))
   have n0_ := am hR6
   clear HO HB hR6 hG6
   have HO := n0_
   have HB := n1_
   clear n0_ n1_
   go_wp2_with (go_at_call 59; fail)
   refine (impl_beside.compact _ w.heap.size (fun _ => True) u5 _ HO.out (by have := HLEN.out; rw [sortC_len]; omega)).mono ?_
   rintro e w7 ⟨v7, rfl, hR7, hG7⟩
   have n1_ := am (below_grownC HB.out hG7 (fun k hk => baseC HO.out hk))
   have n0_ := am hR7
   clear HO HB hR7 hG7
   have HO := n0_
   have HB := n1_
   clear n0_ n1_
   go_wp2
   go_ret
   exact ⟨_, rfl, HO.out, HB.out⟩
end Go.Proofs.YtbbhohaenijaoaaGreat.Q

/- Written by a program of this session (wip/tools/pp.py) out of the translation, with the kit's printer. -/
import Derived.Test.YtjgnlakgojookaaQ0
import Derived.Test.YtjgnlakgojookaaQ2
import Derived.Test.YtjgnlakgojookaaQ8
import Derived.Test.YtjgnlakgojookaaQ9
import Derived.Test.YtjgnlakgojookaaQGimplframetouch
import Derived.Test.YtjgnlakgojookaaQ17
import Derived.Test.YtjgnlakgojookaaQ18
import Derived.Test.YtjgnlakgojookaaQ30
import Derived.Test.YtjgnlakgojookaaQGimplMovedParts
import Derived.Test.YtjgnlakgojookaaQ32
import Derived.Test.YtjgnlakgojookaaQGlawsmarkAssembly
import Derived.Test.YtjgnlakgojookaaQ33
namespace Go.Proofs.Ytjgnlakgojookaa.Q
open Go.RowKit Go.Proofs.YtjgnlakgojookaaW.PrintWords Go.Proofs.YtjgnlakgojookaaW.PrintLast Go.Proofs.YtjgnlakgojookaaW.PrintMore
attribute [local go_sem] max2_int min2_int max_two min_two max_three min_three max_four min_four
set_option linter.unusedVariables false
set_option linter.unusedSimpArgs false

/-! ### laws_FnExactMovedParts: walked by hand -/
/-- The marks of rows of rows, and the rows themselves behind them. -/
def markSS (k : Nat) : List (List S71) → Int → Option (Int × List (List S71))
  | [], a => some (a, [])
  | q :: r, a => (laws_markCubeS.f k q a).bind fun t => (markSS k r t.1).bind fun u => some (u.1, t.2 :: u.2)
theorem markSS.mono : ∀ l a k, LeO (markSS k l a) (markSS (k + 1) l a)
  | [], a, k => LeO.refl _
  | q :: r, a, k => LeO.bind (laws_markCubeS.mono _ _ _) (fun t => LeO.bind (markSS.mono r t.1 k) (fun _ => LeO.refl _))
theorem markSS_len (k : Nat) : ∀ l a r l', markSS k l a = some (r, l') → l'.length = l.length
  | [], a, r, l', h => by
    unfold markSS at h
    simp only [Option.some.injEq, Prod.mk.injEq] at h
    rw [← h.2]
  | q :: s, a, r, l', h => by
    rw [markSS] at h
    obtain ⟨t, _, h⟩ := Option.bind_eq_some_iff.mp h
    obtain ⟨u, hu, h⟩ := Option.bind_eq_some_iff.mp h
    simp only [Option.some.injEq, Prod.mk.injEq] at h
    rw [← h.2, List.length_cons, List.length_cons, markSS_len k s t.1 u.1 u.2 hu]
set_option maxRecDepth 100000 in
set_option maxHeartbeats 1000000 in
theorem markSS.calls (k : Nat) (P0 : Nat → Prop) (v : Value) (l : List (List S71)) (a r : Int) (l' : List (List S71)) (w0 w : World) (hB : Below w0.heap.size w0 w) (hS : Kd.S (Kd.slice 71 k71) 36 w w0.heap.size P0 v l) (h : markSS k l a = some (r, l')) :
    Calls Try.prog 32 #[v, .int .i64 a] w fun e w' => e = .returned (.int .i64 r) ∧ Kd.S (Kd.slice 71 k71) 36 w' w0.heap.size P0 v l' ∧ Below w0.heap.size w0 w' ∧ Kept w w' P0 := by
  by_cases hp : 0 < l.length
  case neg =>
    obtain rfl : l = [] := List.length_eq_zero_iff.mp (by omega)
    have HB0 := Aside0.mk hB
    have HS := Aside0.mk hS
    unfold markSS at h
    simp only [Option.some.injEq, Prod.mk.injEq] at h
    obtain ⟨rfl, rfl⟩ := h
    obtain ⟨A, c, e⟩ := Kd.S_slice hS
    subst e
    clear hB hS
    go_enter Try.func32, Try.ntmps32
    go_wp2
    go_loopw [1, 5] (fun x i wr => x = .int .i64 a ∧ i = .int .i64 0 ∧ wr = w) (fun _ _ _ => 0)
    case atStart => exact ⟨rfl, rfl, rfl⟩
    case round =>
      obtain ⟨rfl, rfl, rfl⟩ := hrel
      go_wp2
      go_ret
      exact ⟨rfl, HS.out, HB0.out, Kept.refl _ _⟩
  obtain ⟨g, c, e, _⟩ := Kd.S_form hS hp
  subst e
  obtain ⟨f, h0, inner, ho, hr⟩ := hS
  have hml : maxLen ≤ 9223372036854775807 := by decide
  have hc : l.length ≤ 9223372036854775807 := by
    have h2 := ho.2
    rw [List.length_zipIdx] at h2
    rcases h2 with ⟨_, h2⟩ | ⟨_, cap, _, _, _, _, h2, h3, _⟩ <;> omega
  have hl' := markSS_len k l a r l' h
  obtain ⟨okm, hokm⟩ : ∃ okm : Nat → Nat → Prop, okm = fun j k => (P0 k ∧ some k ≠ (Value.slice (some ⟨g, 0, none⟩) l.length c).ownBlock) ∧ f k = j := ⟨_, rfl⟩
  have hin : ∀ j, j < l.length → ∃ u, inner[j]? = some u ∧ w.cell? ⟨g, j, none⟩ = some u ∧ Kd.R k71 71 w w0.heap.size (okm j) u (l.getD j []) := by
    intro j hj
    have hz : l.zipIdx[j]? = some (l.getD j [], j) := Kd.zip_at (by rw [List.getD_eq_getElem?_getD, List.getElem?_eq_getElem hj]; rfl)
    obtain ⟨u, hu, hR⟩ : ∃ u, ((inner.drop (j * 1)).take 1 = [u]) ∧ Kd.R k71 71 w w0.heap.size (okm j) u (l.getD j []) := by rw [hokm]; exact hr.2 j _ hz
    have hi : inner[j]? = some u := by
      have h1 : ((inner.drop (j * 1)).take 1)[0]? = some u := by rw [hu]; rfl
      rw [List.getElem?_take, if_pos (by omega), List.getElem?_drop] at h1
      simpa using h1
    have hcell := ho.cells (g := g) (by simp [Value.ownBlock]) j u hi
    rw [add_plain] at hcell
    exact ⟨u, hi, hcell, hR⟩
  have hg : ∀ j k, okm j k → k ≠ g := fun j k hk e => by rw [hokm] at hk; exact hk.1.2 (by rw [e]; simp [Value.ownBlock])
  have hd : ∀ i j k, okm i k → okm j k → i = j := fun i j k h1 h2 => by rw [hokm] at h1 h2; exact h1.2.symm.trans h2.2
  have hP : ∀ j k, okm j k → P0 k := fun j k hk => by rw [hokm] at hk; exact hk.1.1
  have hlt : g < w.heap.size := by
    obtain ⟨u, _, hcell, _⟩ := hin 0 hp
    exact World.block_lt_of_cell? w _ hcell
  have HS := Aside0.mk (fun (W : World) (hW : W.heap[g]? = w.heap[g]?) (hRW : ∀ j, j < l.length → ∀ u, inner[j]? = some u → Kd.R k71 71 W w0.heap.size (okm j) u (l'.getD j [])) => (show Kd.S (Kd.slice 71 k71) 36 W w0.heap.size P0 (.slice (some ⟨g, 0, none⟩) l.length c) l' from by
    refine ⟨f, h0, inner, ?_, ?_⟩
    · have h2 := ho
      rw [List.length_zipIdx] at h2 ⊢
      rw [hl']
      obtain ⟨q1, q2⟩ := h2
      refine ⟨q1, ?_⟩
      rcases q2 with q2 | ⟨g', cap, cur, e1, e2, e3, e4⟩
      · exact .inl q2
      · have : g' = g := by cases e1; rfl
        subst this
        exact .inr ⟨g', cap, cur, e1, e2, hW.trans e3, e4⟩
    · refine ⟨by rw [List.length_zipIdx, hl', ← List.length_zipIdx (l := l)]; exact hr.1, fun j p hj => ?_⟩
      have hjl : j < l.length := by
        have := List.getElem?_eq_some_iff.1 hj
        obtain ⟨h1, _⟩ := this
        rw [List.length_zipIdx, hl'] at h1
        exact h1
      have hp2 : p = (l'.getD j [], j) := by
        have hz : l'.zipIdx[j]? = some (l'.getD j [], j) := Kd.zip_at (by rw [List.getD_eq_getElem?_getD, List.getElem?_eq_getElem (by omega)]; rfl)
        rw [hz] at hj
        exact (Option.some.inj hj).symm
      subst hp2
      obtain ⟨u, hi, _, _⟩ := hin j hjl
      have hR := hRW j hjl u hi
      rw [hokm] at hR
      refine ⟨u, ?_, hR⟩
      have hlt2 := (List.getElem?_eq_some_iff.1 hi).1
      show List.take 1 (List.drop (j * 1) inner) = [u]
      rw [Nat.mul_one, List.drop_eq_getElem_cons hlt2]
      simp [(List.getElem?_eq_some_iff.1 hi).2]))
  have HIN := Aside0.mk hin
  have HG := Aside0.mk hg
  have HD := Aside0.mk hd
  have HP := Aside0.mk hP
  have HB0 := Aside0.mk hB
  have HF := Aside0.mk h
  clear hin hg hd hP hB h ho hr h0 hokm
  have hcut : ∀ (kk : Nat) (y : Int), kk < l.length → markSS k (l.drop kk) y = some (r, l'.drop kk) → ∃ t, laws_markCubeS.f k (l.getD kk []) y = some t ∧ t.2 = l'.getD kk [] ∧ markSS k (l.drop (kk + 1)) t.1 = some (r, l'.drop (kk + 1)) := by
    intro kk y hk hm
    have hd1 : l.drop kk = l.getD kk [] :: l.drop (kk + 1) := by
      rw [List.drop_eq_getElem_cons hk]
      simp [List.getD_eq_getElem?_getD, List.getElem?_eq_getElem hk]
    have hd2 : l'.drop kk = l'.getD kk [] :: l'.drop (kk + 1) := by
      rw [List.drop_eq_getElem_cons (by omega)]
      simp [List.getD_eq_getElem?_getD, List.getElem?_eq_getElem (show kk < l'.length by omega)]
    rw [hd1, hd2, markSS] at hm
    obtain ⟨t, ht, hm⟩ := Option.bind_eq_some_iff.mp hm
    obtain ⟨u, hu, hm⟩ := Option.bind_eq_some_iff.mp hm
    simp only [Option.some.injEq, Prod.mk.injEq, List.cons.injEq] at hm
    obtain ⟨e1, e2, e3⟩ := hm
    exact ⟨t, ht, e2, by rw [hu, ← e1, ← e3]⟩
  go_enter Try.func32, Try.ntmps32
  go_wp2
  go_loopw [1, 5] (fun x i wr => ∃ (kk : Nat) (y : Int), kk ≤ l.length ∧ x = .int .i64 y ∧ i = .int .i64 kk ∧ Aside0 (markSS k (l.drop kk) y = some (r, l'.drop kk)) ∧ Aside0 (wr.heap[g]? = w.heap[g]?) ∧ Aside0 (∀ j, j < l.length → ∀ u, inner[j]? = some u → Kd.R k71 71 wr w0.heap.size (okm j) u (if j < kk then l'.getD j [] else l.getD j [])) ∧ Aside0 (Below w0.heap.size w0 wr) ∧ Aside0 (Kept w wr P0)) (fun _ i _ => l.length - (intOf i).toNat)
  case atStart => exact ⟨0, a, Nat.zero_le _, rfl, rfl, ⟨by rw [List.drop_zero, List.drop_zero]; exact HF.out⟩, ⟨rfl⟩, ⟨fun j hj u hu => by
    obtain ⟨u', h1, _, h3⟩ := HIN.out j hj
    rw [if_neg (by omega)]
    have e : u' = u := Option.some.inj (h1.symm.trans hu)
    rw [← e]
    exact h3⟩, HB0, ⟨Kept.refl _ _⟩⟩
  case round =>
    obtain ⟨kk, y, hk, rfl, rfl, HFy, HGy, HRy, HBy, HKy⟩ := hrel
    by_cases hlk : kk < l.length
    · obtain ⟨t, ht, ht2, hF2⟩ := hcut kk y hlk HFy.out
      obtain ⟨u, hui, hcell, _⟩ := HIN.out kk hlk
      have x0 : wr.cell? ⟨g, kk, none⟩ = some u := by
        simp only [World.cell?] at hcell ⊢
        rw [HGy.out]
        exact hcell
      have hR1 := HRy.out kk hlk u hui
      rw [if_neg (by omega)] at hR1
      have HT := Aside0.mk ht
      have HT2 := Aside0.mk ht2
      have HR1 := Aside0.mk hR1
      have HF2 := Aside0.mk hF2
      have HUI := Aside0.mk hui
      clear ht ht2 hR1 hF2 hcell hui
      go_wp2_with (go_at_call 31; refine (laws_markCubeS.calls k (okm kk) u _ y t.1 t.2 w0 _ HBy.out HR1.out HT.out).mono ?_; rintro e w5 ⟨rfl, hr5, hb5, hk5⟩)
      go_roundw
      case rel => exact ⟨kk + 1, t.1, by omega, rfl, by go_num, HF2, ⟨(hk5.2 g (by have := HKy.out.1; omega) (fun e => HG.out kk g e rfl)).trans HGy.out⟩, ⟨fun j hj u' hu' => by
        by_cases hjk : j = kk
        · subst hjk
          have e : u' = u := Option.some.inj (hu'.symm.trans HUI.out)
          subst e
          rw [if_pos (by omega), ← HT2.out]
          exact Kd.R_reok rfl hr5 (fun q hq => HR1.out.1 q hq)
        · have hR := HRy.out j hj u' hu'
          have e : (if j < kk + 1 then l'.getD j [] else l.getD j []) = (if j < kk then l'.getD j [] else l.getD j []) := by
            by_cases h1 : j < kk
            · rw [if_pos h1, if_pos (by omega)]
            · rw [if_neg h1, if_neg (by omega)]
          rw [e]
          exact Kd.R_step hR (fun q ho hlt => hk5.2 q hlt (fun e => hjk (HD.out j kk q ho e)))⟩, ⟨hb5⟩, ⟨Kept.then_ HKy.out hk5 (fun q hq => .inl (HP.out kk q hq))⟩⟩
      case measure => simp [intOf]; omega
    · obtain rfl : kk = l.length := by omega
      have hF := HFy.out
      rw [List.drop_length, show l'.drop l.length = [] by rw [← hl']; exact List.drop_length, markSS] at hF
      simp only [Option.some.injEq, Prod.mk.injEq] at hF
      obtain ⟨rfl, _⟩ := hF
      have hS := HS.out wr HGy.out (fun j hj u hu => by
        have := HRy.out j hj u hu
        rw [if_pos hj] at this
        exact this)
      have HS2 := Aside0.mk hS
      clear hS
      go_wp2
      go_ret
      exact ⟨rfl, HS2.out, HBy.out, HKy.out⟩
def laws_FnExactMovedParts.f (k : Nat) (l0_0 : List (List S79)) (l1 : List S79) : Option Bool :=
  (laws_szAssembly.f k l0_0 1048576).bind fun s1 => if s1 < 0 then some true else
  (laws_szCubeS.f l1 s1).bind fun s2 => if s2 < 0 then some true else
  (laws_toAssembly.f k l0_0).bind fun x => (laws_toCubeS.f k l1).bind fun y =>
  (spec_MovedParts.f k x y).bind fun ws => (impl_MovedParts.f k x y).bind fun g =>
  (laws_eqCubeSS.f k g.1 ws.1).bind fun e1 => (laws_eqAssembly.f k x x).bind fun e2 => (laws_eqCubeS.f k y y).bind fun e3 =>
  (laws_markAssembly.f k x 1).bind fun k1 => (laws_markCubeS.f k y k1).bind fun k2 =>
  (markSS k g.1 1).bind fun m => (laws_heldCubeSS.f k m.2 1).bind fun q =>
  if g.2 = ws.2 ∧ e1 = true ∧ e2 = true ∧ e3 = true ∧ 0 ≤ k2.1 ∧ q = m.1 ∧ 0 ≤ q then some true else none
set_option maxRecDepth 100000 in
set_option maxHeartbeats 4000000 in
theorem laws_FnExactMovedParts.calls (k : Nat) (A0_0 : Option Addr) (c0_0 : Nat) (l0_0 : List (List S79)) (A1 : Option Addr) (c1 : Nat) (l1 : List S79) (w : World) (hr0_0 : Kd.C (Kd.slice 79 k79) w A0_0 l0_0.length l0_0) (hc0_0 : l0_0.length ≤ c0_0) (hr1 : Kd.C k79 w A1 l1.length l1) (hc1 : l1.length ≤ c1) (h : laws_FnExactMovedParts.f k l0_0 l1 = some true) :
    Calls Try.prog 7 #[.agg #[.slice A0_0 l0_0.length c0_0], .slice A1 l1.length c1] w fun e w' => e = .returned (.bool true) ∧ Below w.heap.size w w' := by
  have hu24 := Try.underlying24
  have hu29 := Try.underlying29
  have HR := Aside0.mk hr0_0
  have HR1 := Aside0.mk hr1
  have HB1 := Aside0.mk (below_alloc (Below.refl w.heap.size w) (.cells #[.slice A0_0 l0_0.length c0_0] 24))
  have HBOX := Aside0.mk (heap_alloc_new w (.cells #[.slice A0_0 l0_0.length c0_0] 24 (0, 0)))
  clear hr0_0 hr1
  unfold laws_FnExactMovedParts.f at h
  replace h := Option.bind_eq_some_iff.mp h
  obtain ⟨s1, h1, h⟩ := h
  have H1 := Aside0.mk h1
  clear h1
  by_cases d1 : s1 < 0
  · clear h
    go_enter Try.func7, Try.ntmps7
    go_wp2_with (go_at_call 13; (with_reducible refine (laws_szAssembly.calls k _ _ l0_0 1048576 s1 _ (Kd.C_below HR.out HB1.out) hc0_0 H1.out).mono ?_); rintro e w2 ⟨rfl, hb2⟩)
    go_ret
    exact ⟨rfl, below_step HB1.out hb2⟩
  rw [if_neg d1] at h
  replace h := Option.bind_eq_some_iff.mp h
  obtain ⟨s2, h2, h⟩ := h
  have H2 := Aside0.mk h2
  clear h2
  by_cases d2 : s2 < 0
  · clear h
    go_enter Try.func7, Try.ntmps7
    go_wp2_with (first
      | (go_at_call 13; (with_reducible refine (laws_szAssembly.calls k _ _ l0_0 1048576 s1 _ (Kd.C_below HR.out HB1.out) hc0_0 H1.out).mono ?_); rintro e w2 ⟨rfl, hb2⟩; have HB2 := Aside0.mk (below_step HB1.out hb2); clear hb2)
      | (go_at_call 18; refine (laws_szCubeS.calls _ _ l1 s1 s2 _ (Kd.C_below HR1.out HB2.out) hc1 H2.out).mono ?_; rintro e w3 ⟨rfl, hb3⟩))
    go_ret
    exact ⟨rfl, below_step HB2.out hb3.below⟩
  rw [if_neg d2] at h
  replace h := Option.bind_eq_some_iff.mp h
  obtain ⟨x, hx, h⟩ := h
  replace h := Option.bind_eq_some_iff.mp h
  obtain ⟨y, hy, h⟩ := h
  replace h := Option.bind_eq_some_iff.mp h
  obtain ⟨⟨ws1, ws2⟩, hw, h⟩ := h
  replace h := Option.bind_eq_some_iff.mp h
  obtain ⟨⟨g1, g2⟩, hg, h⟩ := h
  replace h := Option.bind_eq_some_iff.mp h
  obtain ⟨e1, he1, h⟩ := h
  replace h := Option.bind_eq_some_iff.mp h
  obtain ⟨e2, he2, h⟩ := h
  replace h := Option.bind_eq_some_iff.mp h
  obtain ⟨e3, he3, h⟩ := h
  replace h := Option.bind_eq_some_iff.mp h
  obtain ⟨k1, hk1, h⟩ := h
  replace h := Option.bind_eq_some_iff.mp h
  obtain ⟨⟨k2, y2⟩, hk2, h⟩ := h
  replace h := Option.bind_eq_some_iff.mp h
  obtain ⟨⟨m1, m2⟩, hm, h⟩ := h
  replace h := Option.bind_eq_some_iff.mp h
  obtain ⟨q, hq, h⟩ := h
  by_cases hcond : g2 = ws2 ∧ e1 = true ∧ e2 = true ∧ e3 = true ∧ 0 ≤ k2 ∧ q = m1 ∧ 0 ≤ q
  case neg => exact absurd h (by rw [if_neg hcond]; simp)
  obtain ⟨rfl, rfl, rfl, rfl, hk0, rfl, hq0⟩ := hcond
  have HX := Aside0.mk hx
  have HY := Aside0.mk hy
  have HW := Aside0.mk hw
  have HG := Aside0.mk hg
  have HE1 := Aside0.mk he1
  have HE2 := Aside0.mk he2
  have HE3 := Aside0.mk he3
  have HK1 := Aside0.mk hk1
  have HK2 := Aside0.mk hk2
  have HM := Aside0.mk hm
  have HQ := Aside0.mk hq
  clear hx hy hw hg he1 he2 he3 hk1 hk2 hm hq h
  go_enter Try.func7, Try.ntmps7
  go_wp2_with (first
    | (go_at_call 13; (with_reducible refine (laws_szAssembly.calls k _ _ l0_0 1048576 s1 _ (Kd.C_below HR.out HB1.out) hc0_0 H1.out).mono ?_); rintro e w2 ⟨rfl, hb2⟩; have HB2 := Aside0.mk (below_step HB1.out hb2); have HX2 := Aside0.mk (blk_below HBOX.out hb2); clear hb2)
    | (go_at_call 18; refine (laws_szCubeS.calls _ _ l1 s1 s2 _ (Kd.C_below HR1.out HB2.out) hc1 H2.out).mono ?_; rintro e w3 ⟨rfl, hb3⟩; have HB3 := Aside0.mk (below_step HB2.out hb3.below); have HX3 := Aside0.mk (blk_below HX2.out hb3.below); have x0 := (blk_cell HX3.out 0).trans rfl; clear hb3)
    | (go_at_call 15; (with_reducible refine (laws_toAssembly.calls k _ _ l0_0 x _ (Kd.C_below HR.out HB3.out) hc0_0 HX.out).mono ?_); rintro e w4 ⟨v4, rfl, ho4, hb4⟩; obtain ⟨A4, c4, e4⟩ := Kd.S_slice ho4; subst e4; have HO4 := Aside0.mk ho4; have HB4 := Aside0.mk (below_step HB3.out hb4); have HX4 := Aside0.mk (blk_below HX3.out hb4); have x04 := (blk_cell HX4.out 0).trans rfl; clear ho4 hb4)
    | (go_at_call 20; (with_reducible refine (laws_toCubeS.calls k _ _ l1 y _ (Kd.C_below HR1.out HB4.out) hc1 HY.out).mono ?_); rintro e w5 ⟨v5, rfl, ho5, hb5⟩; obtain ⟨A5, c5, e5⟩ := Kd.R_slice ho5; subst e5; have HO5 := Aside0.mk ho5; have HO45 := Aside0.mk (Kd.S_below HO4.out hb5); have HB5 := Aside0.mk (below_step HB4.out hb5); have HX5 := Aside0.mk (blk_below HX4.out hb5); have x05 := (blk_cell HX5.out 0).trans rfl; clear ho5 hb5)
    | (go_at_call 27; (with_reducible refine (spec_MovedParts.calls k _ _ x _ _ y _ _ _ (Kd.S_reads' HO45.out).2.2 (Kd.S_reads' HO45.out).2.1 (Kd.R_reads' HO5.out).2.2 (Kd.R_reads' HO5.out).2.1 HW.out).mono ?_); rintro e w6 ⟨v6, rfl, ho6, hb6⟩; obtain ⟨A6, c6, e6⟩ := Kd.S_slice ho6; subst e6; have HO6 := Aside0.mk (srng ho6); have HB6 := Aside0.mk (below_step HB5.out hb6); have HX6 := Aside0.mk (blk_below HX5.out hb6); have x06 := (blk_cell HX6.out 0).trans rfl; clear ho6 hb6))
  go_wp2_with (first
    | (go_at_call 15; (with_reducible refine (laws_toAssembly.calls k _ _ l0_0 x _ (Kd.C_below HR.out HB6.out) hc0_0 HX.out).mono ?_); rintro e w7 ⟨v7, rfl, ho7, hb7⟩; obtain ⟨A7, c7, e7⟩ := Kd.S_slice ho7; subst e7; have HO7 := Aside0.mk (srng ho7); have HS7 := Aside0.mk hb7.size; have HO67 := Aside0.mk (Kd.S_below HO6.out hb7); have HB7 := Aside0.mk (below_step HB6.out hb7); have HX7 := Aside0.mk (blk_below HX6.out hb7); have x07 := (blk_cell HX7.out 0).trans rfl; have HBA := Aside0.mk (below_alloc (Below.refl w7.heap.size w7) (.cells #[.slice A7 x.length c7] 29)); have HBOX7 := Aside0.mk (heap_alloc_new w7 (.cells #[.slice A7 x.length c7] 29 (0, 0))); clear ho7 hb7)
    | (go_at_call 20; (with_reducible refine (laws_toCubeS.calls k _ _ l1 y _ (Kd.C_below HR1.out (below_step HB7.out HBA.out)) hc1 HY.out).mono ?_); rintro e w8 ⟨v8, rfl, ho8, hb8⟩; obtain ⟨A8, c8, e8⟩ := Kd.R_slice ho8; subst e8; have HO8 := Aside0.mk (rrng ho8); have HS8 := Aside0.mk hb8.size; have HO68 := Aside0.mk (Kd.S_below (Kd.S_below HO67.out HBA.out) hb8); have HO78 := Aside0.mk (Kd.S_below (Kd.S_below HO7.out HBA.out) hb8); have HB8 := Aside0.mk (below_step (below_step HB7.out HBA.out) hb8); have HX8 := Aside0.mk (blk_below (blk_below HX7.out HBA.out) hb8); have HY8 := Aside0.mk (blk_below HBOX7.out hb8); have x08 := (blk_cell HX8.out 0).trans rfl; have y08 := (blk_cell HY8.out 0).trans rfl; clear ho8 hb8)
    | (go_at_call 28; (with_reducible refine (impl_MovedParts.calls k _ _ x _ _ y _ _ _ (Kd.S_reads' HO78.out).2.2 (Kd.S_reads' HO78.out).2.1 (Kd.R_reads' HO8.out).2.2 (Kd.R_reads' HO8.out).2.1 HG.out).mono ?_); rintro e w9 ⟨v9, rfl, ho9, hb9⟩; obtain ⟨A9, c9, e9⟩ := Kd.S_slice ho9; subst e9; have HO9 := Aside0.mk (srng ho9); have HB9 := Aside0.mk (below_step HB8.out hb9); have HO69 := Aside0.mk (Kd.S_below HO68.out hb9); have HO79 := Aside0.mk (Kd.S_below HO78.out hb9); have HO89 := Aside0.mk (Kd.R_below HO8.out hb9); have HX9 := Aside0.mk (blk_below HX8.out hb9); have HY9 := Aside0.mk (blk_below HY8.out hb9); have x09 := (blk_cell HX9.out 0).trans rfl; have y09 := (blk_cell HY9.out 0).trans rfl; have HS9 := Aside0.mk hb9.size; clear ho9 hb9))
  have hne : (g2 != g2) = false := by simp
  go_wp2_with (go_at_call 29; (with_reducible refine (laws_eqCubeSS.calls k _ _ g1 _ _ ws1 true _ (Kd.S_reads' HO9.out).2.2 (Kd.S_reads' HO9.out).2.1 (Kd.S_reads' HO69.out).2.2 (Kd.S_reads' HO69.out).2.1 HE1.out).mono ?_); rintro e w10 ⟨rfl, hd10⟩; have HB10 := Aside0.mk (below_step HB9.out hd10); have HO710 := Aside0.mk (Kd.S_below HO79.out hd10); have HO810 := Aside0.mk (Kd.R_below HO89.out hd10); have HO610 := Aside0.mk (Kd.S_below HO69.out hd10); have HO910 := Aside0.mk (Kd.S_below HO9.out hd10); have HX10 := Aside0.mk (blk_below HX9.out hd10); have HY10 := Aside0.mk (blk_below HY9.out hd10); have x10 := (blk_cell HX10.out 0).trans rfl; have y10 := (blk_cell HY10.out 0).trans rfl; clear hd10)
  go_region_held3 (fun w' => w'.cell? ⟨w.heap.size, 0, none⟩ = some (.slice A0_0 l0_0.length c0_0) ∧ w'.cell? ⟨w7.heap.size, 0, none⟩ = some (.slice A7 x.length c7))
    (first | go_keep | (go_split_ands; refine ⟨?_, ?_⟩ <;> exact pw_cell_below ‹Below _ _ _› (by assumption)) | (go_split_ands; exact pw_cell_below ‹Below _ _ _› (by assumption)))
    (first
      | (go_at_call 15; (with_reducible refine (laws_toAssembly.calls k _ _ l0_0 x _ (Kd.C_below HR.out (by with_reducible repeat (first | exact HB10.out | apply below_drew1))) hc0_0 HX.out).mono ?_); rintro e w11 ⟨v11, rfl, ho11, hb11⟩; have HBR := Aside0.mk ((fun (W : World) (h : Below w10.heap.size w10 W) (g : Below W.heap.size W w11) => below_step h g) _ (by with_reducible repeat (first | exact Below.refl _ _ | apply below_drew1)) hb11); obtain ⟨A11, c11, e11⟩ := Kd.S_slice ho11; subst e11; have HO11 := Aside0.mk (Kd.S_R ho11); have HO711 := Aside0.mk (Kd.S_below HO710.out HBR.out))
      | (go_at_call 17; (with_reducible refine (laws_eqAssembly.calls k _ _ x _ _ x true _ (Kd.C_below (Kd.S_reads' HO711.out).2.2 (by with_reducible repeat (first | exact Below.refl _ _ | apply below_drew1))) (Kd.S_reads' HO711.out).2.1 (Kd.C_below (Kd.R_reads' HO11.out).2.2 (by with_reducible repeat (first | exact Below.refl _ _ | apply below_drew1))) (Kd.R_reads' HO11.out).2.1 HE2.out).mono ?_); rintro e w12 ⟨rfl, hb12⟩))
  rename_i hHeld
  clear hHeld
  have HBS := Aside0.mk ((fun (W : World) (h : Below w10.heap.size w10 W) (g : Below W.heap.size W w12) => below_step h g) _ (by with_reducible repeat (first | exact HBR.out | apply below_drew1)) hb12)
  have HB12 := Aside0.mk (below_step HB10.out HBS.out)
  have HX12 := Aside0.mk (blk_below HX10.out HBS.out)
  have HY12 := Aside0.mk (blk_below HY10.out HBS.out)
  have HO612 := Aside0.mk (Kd.S_below HO610.out HBS.out)
  have HO712 := Aside0.mk (Kd.S_below HO710.out HBS.out)
  have HO812 := Aside0.mk (Kd.R_below HO810.out HBS.out)
  have HO912 := Aside0.mk (Kd.S_below HO910.out HBS.out)
  clear hb11 hb12
  go_wp2_with (first
    | (go_at_call 20; (with_reducible refine (laws_toCubeS.calls k _ _ l1 y _ (Kd.C_below HR1.out HB12.out) hc1 HY.out).mono ?_); rintro e w13 ⟨v13, rfl, ho13, hb13⟩; obtain ⟨A13, c13, e13⟩ := Kd.R_slice ho13; subst e13; have HO13 := Aside0.mk ho13; have HBT := Aside0.mk hb13; have HO813 := Aside0.mk (Kd.R_below HO812.out hb13))
    | (go_at_call 22; (with_reducible refine (laws_eqCubeS.calls k _ _ y _ _ y true _ (Kd.R_reads' HO813.out).2.2 (Kd.R_reads' HO813.out).2.1 (Kd.R_reads' HO13.out).2.2 (Kd.R_reads' HO13.out).2.1 HE3.out).mono ?_); rintro e w14 ⟨rfl, hb14⟩; have HBU := Aside0.mk (below_step HBT.out hb14); have y14 := (blk_cell (blk_below HY12.out HBU.out) 0).trans rfl; have HX14 := Aside0.mk (blk_below HX12.out HBU.out); have HB14 := Aside0.mk (below_step HB12.out HBU.out); have HO714 := Aside0.mk (Kd.S_below HO712.out HBU.out); have HO814 := Aside0.mk (Kd.R_below HO812.out HBU.out); have HO914 := Aside0.mk (Kd.S_below HO912.out HBU.out); have HO614 := Aside0.mk (Kd.S_below HO612.out HBU.out)))
  have hs0 := HB6.out.size
  have hsx := blk_lt HX6.out
  have hs7 := HS7.out
  have hsA := HBA.out.size
  have hs8 := HS8.out
  have hs9 := HS9.out
  have hs7w := HB7.out.size
  have hs8w := HB8.out.size
  have hc : decide (k2 < 0) = false := decide_eq_false (by omega)
  go_wp2_with (first
    | (go_at_call 30; refine (laws_markAssembly.calls k _ _ x 1 k1 w _ HB14.out (Kd.S_lower HO714.out hs0) HK1.out).mono ?_; rintro e w15 ⟨rfl, hb15, hk15⟩; have HB15 := Aside0.mk hb15; have HX15 := Aside0.mk (blk_kept HX14.out hk15 (by omega)); have HO815 := Aside0.mk (Kd.R_step HO814.out (fun k ho hlt => hk15.2 k hlt (by omega))); have HO915 := Aside0.mk (Kd.S_step HO914.out (fun k ho hlt => hk15.2 k hlt (by omega))); have HO615 := Aside0.mk (Kd.S_step HO614.out (fun k ho hlt => hk15.2 k hlt (by omega))))
    | (go_at_call 31; refine (laws_markCubeS.calls k _ _ y k1 k2 y2 w _ HB15.out (Kd.R_lower HO815.out (by omega)) HK2.out).mono ?_; rintro e w16 ⟨rfl, hr16, hb16, hk16⟩; have HB16 := Aside0.mk hb16; have HX16 := Aside0.mk (blk_kept HX15.out hk16 (by omega)); have HO916 := Aside0.mk (Kd.S_step HO915.out (fun k ho hlt => hk16.2 k hlt (by omega))); have HO616 := Aside0.mk (Kd.S_step HO615.out (fun k ho hlt => hk16.2 k hlt (by omega))))
    | (go_at_call 29; (with_reducible refine (laws_eqCubeSS.calls k _ _ g1 _ _ ws1 true _ (Kd.S_reads' HO916.out).2.2 (Kd.S_reads' HO916.out).2.1 (Kd.S_reads' HO616.out).2.2 (Kd.S_reads' HO616.out).2.1 HE1.out).mono ?_); rintro e w17 ⟨rfl, hd17⟩))
  have HB17 := Aside0.mk (below_step HB16.out hd17)
  have HX17 := Aside0.mk (blk_below HX16.out hd17)
  have HO917 := Aside0.mk (Kd.S_below HO916.out hd17)
  have HO617 := Aside0.mk (Kd.S_below HO616.out hd17)
  have hq1 : decide (q < 0) = false := decide_eq_false (by omega)
  have hq2 : (q != q) = false := by simp
  go_wp2_with (first
    | (go_at_call 32; refine (markSS.calls k _ _ g1 1 q m2 w _ HB17.out (Kd.S_lower HO917.out (by omega)) HM.out).mono ?_; rintro e w18 ⟨rfl, hr18, hb18, hk18⟩; have HB18 := Aside0.mk hb18; have HX18 := Aside0.mk (blk_kept HX17.out hk18 (by omega)); have HR18 := Aside0.mk hr18; have HO618 := Aside0.mk (Kd.S_step HO617.out (fun k ho hlt => hk18.2 k hlt (by omega))); rw [(Kd.S_reads' hr18).1]; clear hr18 hb18 hk18)
    | (go_at_call 33; (with_reducible refine (laws_heldCubeSS.calls k _ _ m2 1 q _ (Kd.S_reads' HR18.out).2.2 (by have := (Kd.S_reads' HR18.out).1; have := (Kd.S_reads' HR18.out).2.1; omega) HQ.out).mono ?_); rintro e w19 ⟨rfl, hd19⟩; have HB19 := Aside0.mk (below_step HB18.out hd19.below); have HX19 := Aside0.mk (blk_below HX18.out hd19.below); have x019 := (blk_cell HX19.out 0).trans rfl; have HR19 := Aside0.mk (Kd.S_below HR18.out hd19.below); have HO619 := Aside0.mk (Kd.S_below HO618.out hd19.below)))
  go_wp2_with (first
    | (go_at_call 15; (with_reducible refine (laws_toAssembly.calls k _ _ l0_0 x _ (Kd.C_below HR.out HB19.out) hc0_0 HX.out).mono ?_); rintro e w20 ⟨v20, rfl, ho20, hb20⟩; obtain ⟨A20, c20, e20⟩ := Kd.S_slice ho20; subst e20; have HO20 := Aside0.mk (Kd.S_R ho20); have HC20 := Aside0.mk hb20; have HB20 := Aside0.mk (below_step HB19.out hb20))
    | (go_at_call 20; (with_reducible refine (laws_toCubeS.calls k _ _ l1 y _ (Kd.C_below HR1.out HB20.out) hc1 HY.out).mono ?_); rintro e w21 ⟨v21, rfl, ho21, hb21⟩; obtain ⟨A21, c21, e21⟩ := Kd.R_slice ho21; subst e21; have HO21 := Aside0.mk ho21; have HO2021 := Aside0.mk (Kd.R_below HO20.out hb21); have HC21 := Aside0.mk (below_step HC20.out hb21); have HB21 := Aside0.mk (below_step HB20.out hb21))
    | (go_at_call 28; (with_reducible refine (impl_MovedParts.calls k _ _ x _ _ y _ _ _ (Kd.R_reads' HO2021.out).2.2 (Kd.R_reads' HO2021.out).2.1 (Kd.R_reads' HO21.out).2.2 (Kd.R_reads' HO21.out).2.1 HG.out).mono ?_); rintro e w22 ⟨v22, rfl, ho22, hb22⟩; obtain ⟨A22, c22, e22⟩ := Kd.S_slice ho22; subst e22; have HO22 := Aside0.mk ho22; have HC22 := Aside0.mk (below_step HC21.out hb22); have HB22 := Aside0.mk (below_step HB21.out hb22); have HO622 := Aside0.mk (Kd.S_below HO619.out HC22.out))
    | (go_at_call 29; (with_reducible refine (laws_eqCubeSS.calls k _ _ g1 _ _ ws1 true _ (Kd.S_reads' HO22.out).2.2 (Kd.S_reads' HO22.out).2.1 (Kd.S_reads' HO622.out).2.2 (Kd.S_reads' HO622.out).2.1 HE1.out).mono ?_); rintro e w23 ⟨rfl, hd23⟩; have HB23 := Aside0.mk (below_step HB22.out hd23); have HR23 := Aside0.mk (Kd.S_below HR19.out (below_step HC22.out hd23)))
    | (go_at_call 33; (with_reducible refine (laws_heldCubeSS.calls k _ _ m2 1 q _ (Kd.S_reads' HR23.out).2.2 (by have := (Kd.S_reads' HR23.out).1; have := (Kd.S_reads' HR23.out).2.1; omega) HQ.out).mono ?_); rintro e w24 ⟨rfl, hd24⟩))
  go_ret
  exact ⟨rfl, below_step HB23.out hd24.below⟩

end Go.Proofs.Ytjgnlakgojookaa.Q

/- Written by a program of this session (wip/tools/pp.py) out of the translation, with the kit's printer. -/
import Derived.Test.YtbbhohaenijaoaaGreatQ0
import Derived.Test.YtbbhohaenijaoaaGreatQ10
import Derived.Test.YtbbhohaenijaoaaGreatQ12
import Derived.Test.YtbbhohaenijaoaaGreatQGimplsorted
import Derived.Test.YtbbhohaenijaoaaGreatQ13
import Derived.Test.YtbbhohaenijaoaaGreatQGimpltidyShapes
import Derived.Test.YtbbhohaenijaoaaGreatQ15
import Derived.LoopTactic
namespace Go.Proofs.YtbbhohaenijaoaaGreat.Q
open Go.RowKit Go.Proofs.YtbbhohaenijaoaaGreatW.PrintWords Go.Proofs.YtbbhohaenijaoaaGreatW.PrintLast Go.Proofs.YtbbhohaenijaoaaGreatW.PrintMore
attribute [local go_sem] max2_int min2_int max_two min_two max_three min_three max_four min_four
set_option linter.unusedVariables false
set_option linter.unusedSimpArgs false
theorem eqL_len : ∀ a b : List S44, a.length ≠ b.length → eqL a b = false
 | [], [], h => absurd rfl h
 | [], _ :: _, _ => rfl
 | _ :: _, [], _ => rfl
 | a :: r, b :: s, h => by
  rw [eqL, eqL_len r s (by simpa using h), Bool.and_false]
theorem eqL_run (a b : List S44) (hl : a.length = b.length) (hn : a.length ≤ 1000000) : ∀ (d i : Nat), i + d = a.length → impl_Cell_64.l0 (d + 1) a b (a.length : Int) (i : Int) = some (eqL (a.drop i) (b.drop i))
 | 0, i, h => by
  unfold impl_Cell_64.l0
  rw [if_neg (by omega), List.drop_of_length_le (by omega), List.drop_of_length_le (by omega)]
  rfl
 | d + 1, i, h => by
  have hi : i < a.length := by omega
  have hj : i < b.length := by omega
  have ea : a.drop i = rd_T44 a (i : Int) :: a.drop (i + 1) := by
   rw [List.drop_eq_getElem_cons hi]
   simp [rd_T44, List.getD_eq_getElem?_getD, List.getElem?_eq_getElem hi]
  have eb : b.drop i = rd_T44 b (i : Int) :: b.drop (i + 1) := by
   rw [List.drop_eq_getElem_cons hj]
   simp [rd_T44, List.getD_eq_getElem?_getD, List.getElem?_eq_getElem hj]
  unfold impl_Cell_64.l0
  rw [if_pos (by omega), if_pos (by omega), if_pos (by omega), if_pos (by omega), ea, eb, eqL]
  have hw : wrap64 ((i : Int) + 1) = ((i + 1 : Nat) : Int) := by unfold wrap64; omega
  rw [hw]
  cases h0 : (rd_T44 a (i : Int)).f0 == (rd_T44 b (i : Int)).f0
  ·rw [if_pos (by simp)]
   rfl
  ·cases h1 : (rd_T44 a (i : Int)).f1 == (rd_T44 b (i : Int)).f1
   ·rw [if_pos (by simp)]
    rfl
   ·rw [if_neg (by simp), eqL_run a b hl hn d (i + 1) (by omega)]
    rfl
theorem eqL_f (a b : List S44) (hn : a.length ≤ 1000000) : impl_Cell_64.f (a.length + 1) a b = some (eqL a b) := by
 unfold impl_Cell_64.f
 by_cases hl : a.length = b.length
 ·rw [if_pos (by omega)]
  have h := eqL_run a b hl hn a.length 0 (by omega)
  exact h
 ·rw [if_neg (by omega), eqL_len a b hl]
def impl_isCopy.small (fs : List (List S44)) (own : List S44) : Bool := decide (0 < fs.length ∧ fs.length ≤ 1000 ∧ own.length ≤ 1000000) && fs.all fun a => decide (a.length ≤ 1000000)
def impl_isCopy.f (k : Nat) (l0_0 : List S44) (a0_1 : Int) (a0_2 : Bool) (l1 : List S44) : Option Bool :=
 (impl_IsShape.f k l1).bind fun b => if b = true then (if l1.length = l0_0.length then (impl_normal.f k l1).bind fun own => (impl_forms.f k l0_0 (if a0_2 = true then 8 else 4)).bind fun fs => if impl_isCopy.small fs own = true then some (fs.any fun a => eqL a own) else none else some false) else some false
theorem impl_isCopy.mono : ∀ a0 a1 a2 a3 k, LeO (impl_isCopy.f k a0 a1 a2 a3) (impl_isCopy.f (k + 1) a0 a1 a2 a3) := by
 intro a0 a1 a2 a3 k
 unfold impl_isCopy.f
 refine LeO.bind (impl_IsShape.mono _ _) (fun b => ?_)
 split
 ·split
  ·exact LeO.bind (impl_normal.mono _ _) (fun own => LeO.bind (impl_forms.mono _ _ _) (fun fs => LeO.refl _))
  ·exact LeO.refl _
 ·exact LeO.refl _
set_option maxHeartbeats 1600000 in
theorem impl_formsOf.own (k : Nat) (A0_0 : Option Addr) (c0_0 : Nat) (l0_0 : List (S44)) (a0_1 : Int) (a0_2 : Bool) (fs : List (List S44)) (w : World) (hr0_0 : Kd.C k44 w A0_0 l0_0.length l0_0) (hc0_0 : l0_0.length ≤ c0_0) (h : impl_forms.f k l0_0 (if a0_2 = true then 8 else 4) = some fs) (hp : 0 < fs.length) (hl : fs.length ≤ 1000) (hs : ∀ a ∈ fs, a.length ≤ 1000000) :
  Calls Tryz.prog 62 #[.agg #[.slice A0_0 l0_0.length c0_0, .int .i64 a0_1, .bool a0_2]] w fun e w' => ∃ v ys, e = .returned v ∧ (∀ a, a ∈ ys ↔ a ∈ fs) ∧ Kd.R (Kd.slice 44 k44) 29 w' w.heap.size (fun _ => True) v ys ∧ Below w.heap.size w w' := by
 have hu30 := Tryz.underlying31
 have HR := Aside0.mk hr0_0
 have HH := Aside0.mk h
 have HB0 := Aside0.mk (below_alloc (Below.refl w.heap.size w) (.cells #[.slice A0_0 l0_0.length c0_0, .int .i64 a0_1, .bool a0_2] 31))
 have hE : ∀ i j, ∃ k, impl_equalShapes.f k (fs.getD i []) (fs.getD j []) = some (eqL (fs.getD i []) (fs.getD j [])) := by
  intro i j
  have hi : (fs.getD i []).length ≤ 1000000 := by
   by_cases hi : i < fs.length
   ·have e : fs.getD i [] = fs[i] := by simp [List.getD_eq_getElem?_getD, List.getElem?_eq_getElem hi]
    rw [e]
    exact hs _ (List.getElem_mem hi)
   ·rw [List.getD_eq_getElem?_getD, List.getElem?_eq_none (by omega)]
    simp
  refine ⟨(fs.getD i []).length + 1, ?_⟩
  unfold impl_equalShapes.f
  rw [eqL_f _ _ hi]
  rfl
 have HE := Aside0.mk hE
 have HP := Aside0.mk hp
 have HL := Aside0.mk hl
 clear hr0_0 h hE hp hl hs
 cases a0_2 with
 | true =>
  rw [if_pos rfl] at HH
  go_enter Tryz.func62, Tryz.ntmps62
  go_wp2_with (first
   | (go_at_call 77; (with_reducible refine (impl_forms.calls k _ _ l0_0 8 fs _ (Kd.C_below HR.out HB0.out) hc0_0 HH.out).mono ?_); rintro e w1 ⟨v1, rfl, ho1, hb1⟩; have HO1 := Aside0.mk (Kd.S_R ho1); have HB1 := Aside0.mk (below_step HB0.out hb1); clear ho1 hb1)
   | (go_at_call 76; refine (impl_tidyShapes.own _ w.heap.size (fun _ => True) v1 fs (Kd.R_lower HO1.out (by have := HB0.out.size; omega)) HP.out HL.out HE.out).mono ?_; rintro e w2 ⟨v2, ys, rfl, hm, hR2, hG2⟩; have HO2 := Aside0.mk hR2; have HM := Aside0.mk hm; have HB2 := Aside0.mk (below_grownC HB1.out hG2 (fun k hk => by have h9 := ((Kd.R_bound HO1.out).1 k hk).2.1; have := HB0.out.size; omega)); clear hR2 hG2 hm))
  go_ret
  exact ⟨_, ys, rfl, HM.out, HO2.out, HB2.out⟩
 | false =>
  rw [if_neg (by decide)] at HH
  go_enter Tryz.func62, Tryz.ntmps62
  go_wp2_with (first
   | (go_at_call 77; (with_reducible refine (impl_forms.calls k _ _ l0_0 4 fs _ (Kd.C_below HR.out HB0.out) hc0_0 HH.out).mono ?_); rintro e w1 ⟨v1, rfl, ho1, hb1⟩; have HO1 := Aside0.mk (Kd.S_R ho1); have HB1 := Aside0.mk (below_step HB0.out hb1); clear ho1 hb1)
   | (go_at_call 76; refine (impl_tidyShapes.own _ w.heap.size (fun _ => True) v1 fs (Kd.R_lower HO1.out (by have := HB0.out.size; omega)) HP.out HL.out HE.out).mono ?_; rintro e w2 ⟨v2, ys, rfl, hm, hR2, hG2⟩; have HO2 := Aside0.mk hR2; have HM := Aside0.mk hm; have HB2 := Aside0.mk (below_grownC HB1.out hG2 (fun k hk => by have h9 := ((Kd.R_bound HO1.out).1 k hk).2.1; have := HB0.out.size; omega)); clear hR2 hG2 hm))
  go_ret
  exact ⟨_, ys, rfl, HM.out, HO2.out, HB2.out⟩
set_option maxHeartbeats 1600000 in
theorem impl_isCopy.lit (A : Option Addr) (c : Nat) (l : List S44) (Ao : Option Addr) (co : Nat) (own : List S44) (B : Nat) (w : World) (hr : Kd.C k44 w A l.length l) (hc : l.length ≤ c) (hl : l.length ≤ 1000000) (hro : Kd.C k44 w Ao own.length own) (hco : own.length ≤ co) (hB : w.heap[B]? = some (.cells #[.slice Ao own.length co] 29 (0, 0))) :
  Calls Tryz.prog 63 #[.slice A l.length c, .pointer (some ⟨B, 0, none⟩)] w fun e w' => e = .returned (.bool (eqL l own)) ∧ Below w.heap.size w w' := by
 have HR := Aside0.mk hr
 have HRO := Aside0.mk hro
 have HF := Aside0.mk (eqL_f l own hl)
 have c0 := (blk_cell hB 0).trans rfl
 clear hr hro hB
 go_enter Tryz.func63, Tryz.ntmps63
 go_wp2_with (go_at_call 64; (with_reducible refine (impl_Cell_64.calls _ _ _ l _ _ own _ _ HR.out hc HRO.out hco HF.out).mono ?_); rintro e w1 ⟨rfl, hb1⟩)
 go_ret
 exact ⟨rfl, hb1.below⟩
set_option maxHeartbeats 1600000 in
theorem impl_isCopy.idx (A : Option Addr) (c : Nat) (l : List (List S44)) (Ao : Option Addr) (co : Nat) (own : List S44) (B : Nat) (w : World) (hr : Kd.C (Kd.slice 44 k44) w A l.length l) (hl : ∀ a ∈ l, a.length ≤ 1000000) (hro : Kd.C k44 w Ao own.length own) (hco : own.length ≤ co) (hB : w.heap[B]? = some (.cells #[.slice Ao own.length co] 29 (0, 0))) :
  Calls Tryz.prog 75 #[.slice A l.length c, .func (.func 63) #[] #[.pointer (some ⟨B, 0, none⟩)]] w fun e w' => (∃ j : Int, Aside0 ((l.any fun a => eqL a own) = decide (0 ≤ j)) ∧ e = .returned (.int .i64 j)) ∧ Below w.heap.size w w' := by
 have hlen := hr.2.1
 have HR := Aside0.mk hr
 have HRO := Aside0.mk hro
 have HB := Aside0.mk hB
 have HL := Aside0.mk hl
 clear hr hro hB hl
 go_enter Tryz.func75, Tryz.ntmps75
 go_wp2
 go_loopw [8] (fun i wr => ∃ kk : Nat, kk ≤ l.length ∧ i = .int .i64 kk ∧ Aside0 (((l.drop kk).any fun a => eqL a own) = l.any fun a => eqL a own) ∧ Aside0 (Below w.heap.size w wr)) (fun i _ => l.length - (intOf i).toNat)
 case atStart => exact ⟨0, Nat.zero_le _, rfl, ⟨rfl⟩, ⟨Below.refl _ _⟩⟩
 case round =>
  obtain ⟨kk, hk, rfl, HG, HBL⟩ := hrel
  by_cases hlt : kk < l.length
  ·obtain ⟨ad, cs, e, hsz, ⟨Ai, ci, rfl, hci, hCi⟩, hcell⟩ := ReadsRow.get_ (Kd.C_below HR.out HBL.out) ([] : List S44) (kk : Int) (by omega) (by omega)
   subst e
   have hd : l.drop kk = l.getD kk [] :: l.drop (kk + 1) := by
    rw [List.drop_eq_getElem_cons hlt]
    simp [List.getD_eq_getElem?_getD, List.getElem?_eq_getElem hlt]
   have hq : (l.getD kk []).length ≤ 1000000 := HL.out _ (by
    have e : l.getD kk [] = l[kk] := by simp [List.getD_eq_getElem?_getD, List.getElem?_eq_getElem hlt]
    rw [e]
    exact List.getElem_mem hlt)
   have HG2 := HG.out
   rw [hd, List.any_cons] at HG2
   have HG3 := Aside0.mk HG2
   clear hd HG2
   rw [Int.toNat_natCast] at hcell hci hCi
   have h0 := hcell 0 _ rfl
   rw [show kk * (Kd.slice 44 k44).sz + 0 = kk by show kk * 1 + 0 = kk; omega] at h0
   have HCI := Aside0.mk hCi
   have HCC := Aside0.mk hci
   have HBX := Aside0.mk (blk_below HB.out HBL.out)
   clear hcell hci hCi hsz
   generalize l.getD kk [] = q at HCI HCC h0 hq HG3
   have HQ := Aside0.mk hq
   clear hq
   have HLIT := Aside0.mk (impl_isCopy.lit Ai ci q Ao co own B wr HCI.out HCC.out HQ.out (Kd.C_below HRO.out HBL.out) hco HBX.out)
   cases p : eqL q own with
   | false =>
    rw [p] at HLIT HG3
    go_wp2_with (go_at_call 63; (with_reducible refine HLIT.out.mono ?_); rintro e w1 ⟨rfl, hb1⟩)
    go_roundw
    case rel => exact ⟨kk + 1, by omega, by go_num, ⟨by have h := HG3.out; rw [Bool.false_or] at h; exact h⟩, ⟨below_step HBL.out hb1⟩⟩
    case measure => simp [intOf]; omega
   | true =>
    rw [p] at HLIT HG3
    go_wp2_with (go_at_call 63; (with_reducible refine HLIT.out.mono ?_); rintro e w1 ⟨rfl, hb1⟩)
    go_ret
    exact ⟨⟨_, ⟨by rw [← HG3.out]; simp⟩, rfl⟩, below_step HBL.out hb1⟩
  ·have hkl : kk = l.length := by omega
   have HG2 := HG.out
   rw [hkl, List.drop_length] at HG2
   have HR2 := Aside0.mk HG2
   clear HG2 hkl
   go_wp2
   go_ret
   exact ⟨⟨_, ⟨by rw [← HR2.out]; rfl⟩, rfl⟩, HBL.out⟩
set_option maxHeartbeats 1600000 in
theorem impl_isCopy.has (A : Option Addr) (c : Nat) (l : List (List S44)) (Ao : Option Addr) (co : Nat) (own : List S44) (B : Nat) (w : World) (hr : Kd.C (Kd.slice 44 k44) w A l.length l) (hl : ∀ a ∈ l, a.length ≤ 1000000) (hro : Kd.C k44 w Ao own.length own) (hco : own.length ≤ co) (hB : w.heap[B]? = some (.cells #[.slice Ao own.length co] 29 (0, 0))) :
  Calls Tryz.prog 61 #[.slice A l.length c, .func (.func 63) #[] #[.pointer (some ⟨B, 0, none⟩)]] w fun e w' => e = .returned (.bool (l.any fun a => eqL a own)) ∧ Below w.heap.size w w' := by
 have hc := impl_isCopy.idx A c l Ao co own B w hr hl hro hco hB
 clear hr hB hl hro hco
 go_enter Tryz.func61, Tryz.ntmps61
 go_wp2_with (go_at_call 75; refine hc.mono ?_; rintro e w1 ⟨⟨j, hj, rfl⟩, hb1⟩)
 go_ret
 refine ⟨?_, hb1⟩
 rw [hj.out]
 first | rfl | (congr 2; simp; done) | (congr 2)
theorem any_same {fs ys : List (List S44)} {p : List S44 → Bool} (h : ∀ a, a ∈ ys ↔ a ∈ fs) : ys.any p = fs.any p := by
 rw [Bool.eq_iff_iff, List.any_eq_true, List.any_eq_true]
 constructor
 ·rintro ⟨a, h1, h2⟩
  exact ⟨a, (h a).1 h1, h2⟩
 ·rintro ⟨a, h1, h2⟩
  exact ⟨a, (h a).2 h1, h2⟩
set_option maxRecDepth 100000 in
set_option maxHeartbeats 1600000 in
theorem impl_isCopy.calls (k : Nat) (A0_0 : Option Addr) (c0_0 : Nat) (l0_0 : List (S44)) (a0_1 : Int) (a0_2 : Bool) (A1 : Option Addr) (c1 : Nat) (l1 : List (S44)) (r : Bool) (w : World) (hr0_0 : Kd.C k44 w A0_0 l0_0.length l0_0) (hc0_0 : l0_0.length ≤ c0_0) (hr1 : Kd.C k44 w A1 l1.length l1) (hc1 : l1.length ≤ c1) (h : impl_isCopy.f k l0_0 a0_1 a0_2 l1 = some r) :
  Calls Tryz.prog 38 #[.agg #[.slice A0_0 l0_0.length c0_0, .int .i64 a0_1, .bool a0_2], .slice A1 l1.length c1] w fun e w' => e = .returned (.bool r) ∧ Below w.heap.size w w' := by
 have hu30 := Tryz.underlying31
 have HR := Aside0.mk hr0_0
 have HR1 := Aside0.mk hr1
 clear hr0_0 hr1
 unfold impl_isCopy.f at h
 obtain ⟨b, hb, h1⟩ := Option.bind_eq_some_iff.mp h
 have HP := Aside0.mk hb
 clear h hb
 have HB0 := Aside0.mk (below_alloc (Below.refl w.heap.size w) (.cells #[.slice A0_0 l0_0.length c0_0, .int .i64 a0_1, .bool a0_2] 31))
 have HBX := Aside0.mk (heap_alloc_new w (.cells #[.slice A0_0 l0_0.length c0_0, .int .i64 a0_1, .bool a0_2] 31 (0, 0)))
 cases b with
 | false =>
  rw [if_neg (by decide)] at h1
  obtain rfl := Option.some.inj h1
  go_enter Tryz.func38, Tryz.ntmps38
  go_wp2_with (go_at_call 52; (with_reducible refine (impl_IsShape.calls k _ _ l1 false _ (Kd.C_below HR1.out HB0.out) hc1 HP.out).mono ?_); rintro e w1 ⟨rfl, hb1⟩; have HB1 := Aside0.mk (below_step HB0.out hb1); have HX1 := Aside0.mk (blk_below HBX.out hb1); have x0 := (blk_cell HX1.out 0).trans rfl; clear hb1)
  go_ret
  exact ⟨rfl, HB1.out⟩
 | true =>
  rw [if_pos rfl] at h1
  by_cases hl : l1.length = l0_0.length
  ·rw [if_pos hl] at h1
   obtain ⟨own, hn, h2⟩ := Option.bind_eq_some_iff.mp h1
   obtain ⟨fs, hf, h3⟩ := Option.bind_eq_some_iff.mp h2
   by_cases hsm : impl_isCopy.small fs own = true
   case neg => rw [if_neg hsm] at h3; cases h3
   rw [if_pos hsm] at h3
   obtain rfl := Option.some.inj h3
   unfold impl_isCopy.small at hsm
   rw [Bool.and_eq_true, decide_eq_true_eq, List.all_eq_true] at hsm
   obtain ⟨⟨hp1, hp2, hp3⟩, hal⟩ := hsm
   have HAL := Aside0.mk (fun a ha => of_decide_eq_true (hal a ha) : ∀ a ∈ fs, a.length ≤ 1000000)
   have HN := Aside0.mk hn
   have HF := Aside0.mk hf
   have HP1 := Aside0.mk hp1
   have HP2 := Aside0.mk hp2
   have hne : ((l1.length : Int) != (l0_0.length : Int)) = false := by rw [hl]; simp
   have heq : ((l1.length : Int) == (l0_0.length : Int)) = true := by rw [hl]; simp
   clear h1 h2 h3 hn hf hp1 hp2 hp3 hal hl
   go_enter Tryz.func38, Tryz.ntmps38
   go_upto_region 3 with (go_at_call 52; (with_reducible refine (impl_IsShape.calls k _ _ l1 true _ (Kd.C_below HR1.out HB0.out) hc1 HP.out).mono ?_); rintro e w1 ⟨rfl, hb1⟩; have HB1 := Aside0.mk (below_step HB0.out hb1); have HX1 := Aside0.mk (blk_below HBX.out hb1); have x0 := (blk_cell HX1.out 0).trans rfl; clear hb1)
   clear hne heq
   go_upto_region 4 with (go_at_call 60; (with_reducible refine (impl_normal.calls k _ _ l1 own _ (Kd.C_below HR1.out HB1.out) hc1 HN.out).mono ?_); rintro e w2 ⟨v2, rfl, ho2, hb2⟩; obtain ⟨a2, c2, e2⟩ := Kd.R_slice ho2; subst e2; have HO2 := Aside0.mk (Kd.R_alloc ho2 (.cells #[.slice a2 own.length c2] 29)); have HX2 := Aside0.mk (blk_below (blk_below HX1.out hb2) (below_alloc (Below.refl w2.heap.size w2) (.cells #[.slice a2 own.length c2] 29))); have HBX2 := Aside0.mk (heap_alloc_new w2 (.cells #[.slice a2 own.length c2] 29 (0, 0))); have HB2 := Aside0.mk (below_alloc (below_step HB1.out hb2) (.cells #[.slice a2 own.length c2] 29)); clear ho2 hb2 x0)
   generalize hW : w2.alloc (.cells #[.slice a2 own.length c2] 29) = W at HO2 HX2 HBX2 HB2 ⊢
   clear hW
   have x0 := (blk_cell HX2.out 0).trans rfl
   have x1 := (blk_cell HX2.out 1).trans rfl
   have x2 := (blk_cell HX2.out 2).trans rfl
   go_wp2_with (first
    | (go_at_call 62; refine (impl_formsOf.own k A0_0 c0_0 l0_0 a0_1 a0_2 fs _ (Kd.C_below HR.out HB2.out) hc0_0 HF.out HP1.out HP2.out HAL.out).mono ?_; rintro e w4 ⟨v4, ys, rfl, hm4, ho4, hb4⟩; obtain ⟨a4, c4, e4⟩ := Kd.R_slice ho4; subst e4; have HO4 := Aside0.mk ho4; have HM4 := Aside0.mk hm4; have HB4 := Aside0.mk (below_step HB2.out hb4); have HO5 := Aside0.mk (Kd.R_below HO2.out hb4); have HBX4 := Aside0.mk (blk_below HBX2.out hb4); clear ho4 hm4 hb4)
    | (go_at_call 61; refine (impl_isCopy.has a4 c4 ys a2 c2 own _ _ (Kd.R_reads' HO4.out).2.2 (fun a ha => HAL.out a ((HM4.out a).1 ha)) (Kd.R_reads' HO5.out).2.2 (Kd.R_reads' HO5.out).2.1 HBX4.out).mono ?_; rintro e w5 ⟨rfl, hb5⟩))
   go_ret
   exact ⟨by rw [any_same HM4.out]; rfl, below_step HB4.out hb5⟩
  ·rw [if_neg hl] at h1
   obtain rfl := Option.some.inj h1
   have hne : ((l1.length : Int) != (l0_0.length : Int)) = true := by simp; omega
   have heq : ((l1.length : Int) == (l0_0.length : Int)) = false := by simp; omega
   clear h1 hl
   go_enter Tryz.func38, Tryz.ntmps38
   go_wp2_with (go_at_call 52; (with_reducible refine (impl_IsShape.calls k _ _ l1 true _ (Kd.C_below HR1.out HB0.out) hc1 HP.out).mono ?_); rintro e w1 ⟨rfl, hb1⟩; have HB1 := Aside0.mk (below_step HB0.out hb1); have HX1 := Aside0.mk (blk_below HBX.out hb1); have x0 := (blk_cell HX1.out 0).trans rfl; clear hb1)
   go_ret
   exact ⟨rfl, HB1.out⟩
end Go.Proofs.YtbbhohaenijaoaaGreat.Q

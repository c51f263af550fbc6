/- Written by a program of this session (wip/tools/pp.py) out of the translation, with the kit's printer. -/
import Derived.Test.YtbphiipcnjelbaaGreatQ0
import Derived.Test.YtbphiipcnjelbaaGreatQ8
import Derived.Test.YtbphiipcnjelbaaGreatQ9
import Derived.Test.YtbphiipcnjelbaaGreatQGimplparts
import Derived.LoopTactic
namespace Go.Proofs.YtbphiipcnjelbaaGreat.Q
open Go.RowKit Go.Proofs.YtbphiipcnjelbaaGreatW.PrintWords Go.Proofs.YtbphiipcnjelbaaGreatW.PrintLast Go.Proofs.YtbphiipcnjelbaaGreatW.PrintMore
attribute [local go_sem] max2_int min2_int max_two min_two max_three min_three max_four min_four
set_option linter.unusedVariables false
set_option linter.unusedSimpArgs false
attribute [local go_sem] max2_int min2_int max_two min_two
def impl_IsPiece.mxs : Int → List Int → Int
 | m, [] => m
 | m, x :: r => impl_IsPiece.mxs (mx m x) r
def impl_IsPiece.f (k : Nat) (sh : List S66) (n : Int) (m : Bool) : Option Bool :=
 (impl_IsRegion.f k sh).bind fun b => if b = true then (impl_parts.f k sh).bind fun p => match p with | [] => none | x :: r => if impl_IsPiece.mxs x r = 0 then impl_within.f n 1 8 else some false else some false
theorem impl_IsPiece.mono : ∀ a0 a1 a2 k, LeO (impl_IsPiece.f k a0 a1 a2) (impl_IsPiece.f (k + 1) a0 a1 a2) := by
 intro a0 a1 a2 k
 unfold impl_IsPiece.f
 refine LeO.bind (impl_IsRegion.mono _ _) (fun b => ?_)
 split
 ·exact LeO.bind (impl_parts.mono _ _) (fun p => LeO.refl _)
 ·exact LeO.refl _
set_option maxHeartbeats 1600000 in
theorem impl_IsPiece.max (A : Option Addr) (c : Nat) (x : Int) (r : List Int) (w : World) (hr : Kd.C (Kd.int .i64) w A (x :: r).length (x :: r)) (hc : (x :: r).length ≤ c) :
  Calls Tryz.prog 84 #[.slice A (x :: r).length c] w fun e w' => e = .returned (.int .i64 (impl_IsPiece.mxs x r)) ∧ Below w.heap.size w w' := by
 have hlen := hr.2.1
 have HR := Aside0.mk hr
 obtain ⟨l, hl⟩ : ∃ l, l = x :: r := ⟨_, rfl⟩
 have HL := Aside0.mk hl
 rw [← hl] at hlen HR hc ⊢
 have hpos : 0 < l.length := by rw [hl]; simp
 clear hr hl
 obtain ⟨ad, e, h0⟩ := Kd.at_int HR.out 0 (by omega) (by omega)
 subst e
 have h00 : w.cell? ad = some (.int .i64 x) := by
  have h := h0
  rw [show ad.add (0 : Int).toNat = ad by simp [Addr.add]] at h
  rw [h, HL.out]
  rfl
 clear h0
 have hp2 : decide ((l.length : Int) < 1) = false := decide_eq_false (by omega)
 have hp3 : ((l.length : Int) < 1) = False := eq_false (by omega)
 have hp4 : ((0 : Int) < (l.length : Int)) = True := eq_true (by omega)
 go_enter Tryz.func84, Tryz.ntmps84
 go_wp2
 clear hp2 hp3 hp4
 go_loopw [3, 4] (fun v i wr => ∃ (kk : Nat) (m : Int), 1 ≤ kk ∧ kk ≤ l.length ∧ i = .int .i64 kk ∧ v = .int .i64 m ∧ Aside0 (impl_IsPiece.mxs m (l.drop kk) = impl_IsPiece.mxs x r) ∧ Aside0 (Below w.heap.size w wr)) (fun _ i _ => l.length - (intOf i).toNat)
 case atStart =>
  exact ⟨1, x, Nat.le_refl _, hpos, rfl, rfl, ⟨by rw [HL.out]; rfl⟩, ⟨by repeat (first | exact Below.refl _ _ | apply below_alloc | apply pw_below_drewN)⟩⟩
 case round =>
  obtain ⟨kk, m, hk1, hk, rfl, rfl, HG, HB⟩ := hrel
  by_cases hlt : kk < l.length
  ·obtain ⟨ad2, e2, hx⟩ := Kd.at_int HR.out (kk : Int) (by omega) (by omega)
   cases e2
   replace hx := pw_cell_below HB.out hx
   have hd : l.drop kk = rd l (kk : Int) :: l.drop (kk + 1) := by
    rw [List.drop_eq_getElem_cons hlt]
    simp [rd, List.getD_eq_getElem?_getD, List.getElem?_eq_getElem hlt]
   have hG := HG.out
   rw [hd] at hG
   have HG2 := Aside0.mk hG
   rw [Int.toNat_natCast] at hx
   generalize rd l (kk : Int) = y at hx HG2
   clear hd hG HG
   go_wp2
   go_roundw
   case rel => exact ⟨kk + 1, mx m y, by omega, by omega, by go_num, by first | rfl | (simp [max2_int]; done), HG2, HB⟩
   case measure => simp [intOf]; omega
  ·have hkl : kk = l.length := by omega
   subst hkl
   have hG := HG.out
   rw [List.drop_length] at hG
   have HG2 := Aside0.mk hG
   clear hG HG
   go_wp2
   go_ret
   exact ⟨by rw [← HG2.out]; rfl, HB.out⟩
set_option maxHeartbeats 1600000 in
theorem impl_IsPiece.conn (k : Nat) (A : Option Addr) (c : Nat) (sh : List S66) (x : Int) (r : List Int) (w : World) (hr : Kd.C k66 w A sh.length sh) (hc : sh.length ≤ c) (h : impl_parts.f k sh = some (x :: r)) :
  Calls Tryz.prog 66 #[.slice A sh.length c, .func (.func 67) #[] #[]] w fun e w' => e = .returned (.bool (decide (impl_IsPiece.mxs x r = 0))) ∧ Below w.heap.size w w' := by
 have HR := Aside0.mk hr
 have HH := Aside0.mk h
 clear hr h
 go_enter Tryz.func66, Tryz.ntmps66
 go_wp2_with (first
  | (go_at_call 85; refine (impl_parts.calls k A c sh (x :: r) _ HR.out hc HH.out).mono ?_; rintro e w1 ⟨v1, rfl, ho1, hb1⟩; obtain ⟨A1, c1, e1⟩ := Kd.R_slice ho1; subst e1; have HO := Aside0.mk ho1; have HB := Aside0.mk hb1; clear ho1 hb1)
  | (go_at_call 84; refine (impl_IsPiece.max A1 c1 x r _ (Kd.R_reads' HO.out).2.2 (Kd.R_reads' HO.out).2.1).mono ?_; rintro e w2 ⟨rfl, hb2⟩))
 go_ret
 exact ⟨by first | rfl | simp, below_step HB.out hb2⟩
set_option maxHeartbeats 1600000 in
theorem impl_IsPiece.calls (k : Nat) (A0_0 : Option Addr) (c0_0 : Nat) (l0_0 : List (S66)) (a0_1 : Int) (a0_2 : Bool) (r : Bool) (w : World) (hr0_0 : Kd.C k66 w A0_0 l0_0.length l0_0) (hc0_0 : l0_0.length ≤ c0_0) (h : impl_IsPiece.f k l0_0 a0_1 a0_2 = some r) :
  Calls Tryz.prog 46 #[.agg #[.slice A0_0 l0_0.length c0_0, .int .i64 a0_1, .bool a0_2]] w fun e w' => e = .returned (.bool r) ∧ Below w.heap.size w w' := by
 have hu30 := Tryz.underlying31
 have HR := Aside0.mk hr0_0
 clear hr0_0
 have HB0 := Aside0.mk (below_alloc (Below.refl w.heap.size w) (.cells #[.slice A0_0 l0_0.length c0_0, .int .i64 a0_1, .bool a0_2] 31))
 have HBX := Aside0.mk (heap_alloc_new w (.cells #[.slice A0_0 l0_0.length c0_0, .int .i64 a0_1, .bool a0_2] 31 (0, 0)))
 unfold impl_IsPiece.f at h
 obtain ⟨b, hb, h1⟩ := Option.bind_eq_some_iff.mp h
 have HP := Aside0.mk hb
 clear h hb
 cases b with
 | false =>
  rw [if_neg (by decide)] at h1
  obtain rfl := Option.some.inj h1
  go_enter Tryz.func46, Tryz.ntmps46
  go_wp2_with (go_at_call 65; (with_reducible refine (impl_IsRegion.calls k _ _ l0_0 false _ (Kd.C_below HR.out HB0.out) hc0_0 HP.out).mono ?_); rintro e w1 ⟨rfl, hd1⟩)
  go_ret
  exact ⟨rfl, below_step HB0.out hd1⟩
 | true =>
  rw [if_pos rfl] at h1
  obtain ⟨p, hp, h2⟩ := Option.bind_eq_some_iff.mp h1
  cases p with
  | nil => cases h2
  | cons x rr =>
   have HQ := Aside0.mk hp
   clear h1 hp
   by_cases hx : impl_IsPiece.mxs x rr = 0
   ·have h3 : impl_within.f a0_1 1 8 = some r := (if_pos hx).symm.trans h2
    have HW := Aside0.mk h3
    have hxt : decide (impl_IsPiece.mxs x rr = 0) = true := decide_eq_true hx
    clear h2 h3
    go_enter Tryz.func46, Tryz.ntmps46
    go_wp2_with (first
     | (go_at_call 65; (with_reducible refine (impl_IsRegion.calls k _ _ l0_0 true _ (Kd.C_below HR.out HB0.out) hc0_0 HP.out).mono ?_); rintro e w1 ⟨rfl, hd1⟩; have HD := Aside0.mk (below_step HB0.out hd1); have HX := Aside0.mk (blk_below HBX.out hd1); have x0 := (blk_cell HX.out 0).trans rfl; have x1 := (blk_cell HX.out 1).trans rfl)
     | (go_at_call 66; refine (impl_IsPiece.conn k A0_0 c0_0 l0_0 x rr _ (Kd.C_below HR.out HD.out) hc0_0 HQ.out).mono ?_; rw [hxt]; rintro e w2 ⟨rfl, hb2⟩; have HD2 := Aside0.mk (below_step HD.out hb2); have HX2 := Aside0.mk (blk_below HX.out hb2); have y1 := (blk_cell HX2.out 1).trans rfl)
     | (go_at_call 60; (with_reducible refine (impl_within.calls a0_1 1 8 r _ HW.out).mono ?_); rintro e w3 ⟨rfl, hd3⟩; have HD3 := Aside0.mk (below_step HD2.out hd3.below)))
    go_ret
    exact ⟨rfl, HD3.out⟩
   ·have h3 : some false = some r := (if_neg hx).symm.trans h2
    obtain rfl := Option.some.inj h3
    have hxt : decide (impl_IsPiece.mxs x rr = 0) = false := decide_eq_false hx
    clear h2 h3
    go_enter Tryz.func46, Tryz.ntmps46
    go_wp2_with (first
     | (go_at_call 65; (with_reducible refine (impl_IsRegion.calls k _ _ l0_0 true _ (Kd.C_below HR.out HB0.out) hc0_0 HP.out).mono ?_); rintro e w1 ⟨rfl, hd1⟩; have HD := Aside0.mk (below_step HB0.out hd1); have HX := Aside0.mk (blk_below HBX.out hd1); have x0 := (blk_cell HX.out 0).trans rfl; have x1 := (blk_cell HX.out 1).trans rfl)
     | (go_at_call 66; refine (impl_IsPiece.conn k A0_0 c0_0 l0_0 x rr _ (Kd.C_below HR.out HD.out) hc0_0 HQ.out).mono ?_; rw [hxt]; rintro e w2 ⟨rfl, hb2⟩; have HD2 := Aside0.mk (below_step HD.out hb2); have HX2 := Aside0.mk (blk_below HX.out hb2); have y1 := (blk_cell HX2.out 1).trans rfl))
    go_ret
    exact ⟨rfl, HD2.out⟩
end Go.Proofs.YtbphiipcnjelbaaGreat.Q

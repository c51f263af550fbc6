/- Written by a program of this session (wip/tools/pp.py) out of the translation, with the kit's printer. -/
import Derived.Test.YtbphiipcnjelbaaGreatQ0
import Derived.Test.YtbphiipcnjelbaaGreatQ11
import Derived.Test.YtbphiipcnjelbaaGreatQ12
import Derived.Test.YtbphiipcnjelbaaGreatQGimplsorted
import Derived.LoopTactic
import Derived.Laws.MakeOwn
namespace Go.Proofs.YtbphiipcnjelbaaGreat.Q
open Go.RowKit Go.Proofs.YtbphiipcnjelbaaGreatW.PrintWords Go.Proofs.YtbphiipcnjelbaaGreatW.PrintLast Go.Proofs.YtbphiipcnjelbaaGreatW.PrintMore
attribute [local go_sem] max2_int min2_int max_two min_two max_three min_three max_four min_four
set_option linter.unusedVariables false
set_option linter.unusedSimpArgs false
def impl_form.rows (k : Nat) (t : Int) : List S66 → Option (List S66)
 | [] => some []
 | c :: r => (impl_turnCell.f k c.f0 c.f1 t).bind fun p => (impl_form.rows k t r).bind fun q => some (⟨p.1, p.2⟩ :: q)
def impl_form.f (k : Nat) (l0 : List S66) (t : Int) : Option (List S66) :=
 if l0.length ≤ 1000000 then (impl_form.rows k t l0).bind fun q => (impl_sorted.f q).bind fun s => impl_normal.f k s else none
theorem impl_form.rows_mono (k : Nat) (t : Int) : ∀ l, LeO (impl_form.rows k t l) (impl_form.rows (k + 1) t l)
 | [] => LeO.refl _
 | c :: r => by
  unfold impl_form.rows
  exact LeO.bind (impl_turnCell.mono _ _ _ _) (fun p => LeO.bind (impl_form.rows_mono k t r) (fun q => LeO.refl _))
theorem impl_form.mono : ∀ a0 a1 k, LeO (impl_form.f k a0 a1) (impl_form.f (k + 1) a0 a1) := by
 intro a0 a1 k
 unfold impl_form.f
 split
 ·exact LeO.bind (impl_form.rows_mono k a1 a0) (fun q => LeO.bind (LeO.refl _) (fun s => impl_normal.mono _ _))
 ·exact LeO.refl _
theorem impl_form.rows_at (k : Nat) (t : Int) : ∀ (l q : List S66), impl_form.rows k t l = some q → q.length = l.length ∧ ∀ i, i < l.length → impl_turnCell.f k (l.getD i z66).f0 (l.getD i z66).f1 t = some ((q.getD i z66).f0, (q.getD i z66).f1)
 | [], q, h => by
  obtain rfl := Option.some.inj h
  exact ⟨rfl, fun i hi => by simp at hi⟩
 | c :: r, q, h => by
  unfold impl_form.rows at h
  obtain ⟨p, hp, h2⟩ := Option.bind_eq_some_iff.mp h
  obtain ⟨q1, hq1, h3⟩ := Option.bind_eq_some_iff.mp h2
  obtain rfl := Option.some.inj h3
  obtain ⟨e1, e2⟩ := impl_form.rows_at k t r q1 hq1
  refine ⟨by simp [e1], fun i hi => ?_⟩
  cases i with
  | zero => simpa using hp
  | succ i => simpa using e2 i (by simpa using hi)
theorem made_F (W : World) (n : Nat) (hn : n ≤ 1000000) (base : Nat) (hb : base ≤ W.heap.size) : Kd.R k66 66 (W.alloc (.cells (madeCells (Value.agg #[(.int .i64 0), (.int .i64 0)]).cells (n * 2)) 66)) base (fun _ => True) (.slice (some ⟨W.heap.size, 0, none⟩) 0 n) [] :=
 ⟨fun _ _ => trivial, [], World.ownsRow_made W _ n hb (by simp only [maxLen]; omega) (size_madeCells _ _), Reps.none _ _⟩
set_option maxRecDepth 100000 in
set_option maxHeartbeats 1600000 in
theorem impl_form.calls (k : Nat) (A0 : Option Addr) (c0 : Nat) (l0 : List S66) (a1 : Int) (r : List S66) (w : World) (hr0 : Kd.C k66 w A0 l0.length l0) (hc0 : l0.length ≤ c0) (h : impl_form.f k l0 a1 = some r) :
  Calls Tryz.prog 90 #[.slice A0 l0.length c0, .int .i64 a1] w fun e w' => ∃ v0_ : Value, e = .returned (v0_) ∧ Kd.R k66 66 w' w.heap.size (fun _ => True) v0_ r ∧ Below w.heap.size w w' := by
 have hlen := hr0.2.1
 have HR := Aside0.mk hr0
 clear hr0
 unfold impl_form.f at h
 by_cases hn : l0.length ≤ 1000000
 case neg => rw [if_neg hn] at h; cases h
 rw [if_pos hn] at h
 obtain ⟨q, hq, h2⟩ := Option.bind_eq_some_iff.mp h
 obtain ⟨s, hs, h3⟩ := Option.bind_eq_some_iff.mp h2
 obtain ⟨hql, hqa⟩ := impl_form.rows_at k a1 l0 q hq
 have HQA := Aside0.mk hqa
 have HQL := Aside0.mk hql
 have HS := Aside0.mk hs
 have HN := Aside0.mk h3
 clear h h2 hq hs h3 hqa hql
 have hu35 := Tryz.underlying66
 have hmk : ∀ W : World, (Instr.makeSlice 29 (.int .i64 0) (.int .i64 (l0.length : Int))).run Tryz.prog W = .ok (.slice (some ⟨W.heap.size, 0, none⟩) 0 l0.length) (W.alloc (.cells (madeCells (Value.agg #[(.int .i64 0), (.int .i64 0)]).cells (l0.length * 2)) 66)) := fun W => by
  obtain ⟨i, hi, h2⟩ := Option.map_eq_some_iff.1 info66
  simp only [Prod.mk.injEq] at h2
  have h := run_make (P := Tryz.prog) W 29 66 i _ Tryz.underlying29 hi h2.1 .i64 .i64 0 (l0.length : Int) (Int.le_refl _) (by omega) (by rw [h2.2.2]; omega) (by omega)
  rw [h2.2.1, Int.toNat_natCast] at h
  exact h
 go_enter Tryz.func90, Tryz.ntmps90
 go_wp2
 go_loopw [5, 13] (fun v i wr => ∃ kk : Nat, kk ≤ l0.length ∧ i = .int .i64 kk ∧ Aside0 (Kd.R k66 66 wr w.heap.size (fun _ => True) v (q.take kk)) ∧ Aside0 (Below w.heap.size w wr)) (fun _ i _ => l0.length - (intOf i).toNat)
 case atStart => exact ⟨0, Nat.zero_le _, rfl, ⟨made_F w l0.length hn _ (Nat.le_refl _)⟩, ⟨below_alloc (Below.refl _ _) _⟩⟩
 case round =>
  obtain ⟨kk, hk, rfl, HO, HB⟩ := hrel
  by_cases hlt : kk < l0.length
  ·obtain ⟨ad, e, h0, h1⟩ := at_T66 (Kd.C_below HR.out HB.out) (kk : Int) (by omega) (by omega)
   subst e
   rw [Int.toNat_natCast] at h0 h1
   have ht := HQA.out kk hlt
   have hrd : rd_T66 l0 (kk : Int) = l0.getD kk z66 := by simp [rd_T66]
   rw [← hrd] at ht
   have hd : q.take (kk + 1) = q.take kk ++ [q.getD kk z66] := by
    have hkq : kk < q.length := by have := HQL.out; omega
    rw [List.take_succ_eq_append_getElem hkq]
    simp [List.getD_eq_getElem?_getD, List.getElem?_eq_getElem hkq]
   have HD := Aside0.mk hd
   clear hd hrd
   generalize rd_T66 l0 kk = y at h0 h1 ht
   generalize q.getD kk z66 = z at ht HD
   have HT := Aside0.mk ht
   clear ht
   obtain ⟨ao, cap, e5⟩ := Kd.R_slice HO.out
   rw [List.length_take, Nat.min_eq_left (show kk ≤ q.length by have := HQL.out; omega)] at e5
   subst e5
   have HO1 := Aside0.mk (Kd.R_alloc HO.out (.cells #[.int .i64 y.f0, .int .i64 y.f1] 66))
   have HB1 := Aside0.mk (below_alloc HB.out (.cells #[.int .i64 y.f0, .int .i64 y.f1] 66))
   go_wp2_with (first
    | (go_at_call 124; (with_reducible refine (impl_turnCell.calls k y.f0 y.f1 a1 z.f0 z.f1 _ HT.out).mono ?_); rintro e w5 ⟨rfl, hb5⟩; have HO5 := Aside0.mk (Kd.R_below HO1.out hb5); have HB5 := Aside0.mk (below_step HB1.out hb5); clear hb5)
    | (at_builtin; refine Kd.R_append k66 (w0 := w) w.heap.size rfl (.tmp 17) (.tmp 21) 29 66 (.agg #[(.int .i64 0), (.int .i64 0)]) 16 rfl Tryz.underlying29 info66 rfl (by decide) (by omega) _ (q.take kk) z [.int .i64 z.f0, .int .i64 z.f1] (fun _ => True) (fun _ => False) rfl rfl ?aP (fun _ hk => hk.elim) ?aF ?aO ?aB ?aS ?aL ?_; (case aP => exact k66_mkM _ _ _ z); (case aB => exact HB5.out); (case aF => exact (fun _ _ => trivial)); (case aO => exact HO5.out); (case aS => exact below_size HB5.out); (case aL => rw [List.length_take]; have := HQL.out; omega); intro v2 w2 ho hb hg hat; have HO2 := Aside0.mk ho; have HB2 := Aside0.mk hb; clear ho hb hg hat))
   go_roundw
   case rel =>
    refine ⟨kk + 1, by omega, by go_num, ⟨?_⟩, HB2⟩
    rw [HD.out]
    exact HO2.out
   case measure => simp [intOf]; omega
  ·have hkl : kk = l0.length := by omega
   subst hkl
   have hO := HO.out
   rw [List.take_of_length_le (by have := HQL.out; omega)] at hO
   obtain ⟨ao, cap, e5⟩ := Kd.R_slice hO
   subst e5
   have HO2 := Aside0.mk hO
   clear hO
   go_wp2_with (first
    | (go_at_call 126; refine (impl_sorted.calls ao cap q s _ (Kd.R_reads' HO2.out).2.2 (Kd.R_reads' HO2.out).2.1 HS.out).mono ?_; rintro e w6 ⟨v6, rfl, ho6, hb6⟩; obtain ⟨a6, c6, e6⟩ := Kd.R_slice ho6; subst e6; have HO6 := Aside0.mk ho6; have HB6 := Aside0.mk (below_step HB.out hb6); clear ho6 hb6)
    | (go_at_call 125; refine (impl_normal.calls k a6 c6 s r _ (Kd.R_reads' HO6.out).2.2 (Kd.R_reads' HO6.out).2.1 HN.out).mono ?_; rintro e w7 ⟨v7, rfl, ho7, hb7⟩; have HO7 := Aside0.mk (Kd.R_lower ho7 (below_size HB6.out)); have HB7 := Aside0.mk (below_step HB6.out hb7); clear ho7 hb7))
   go_ret
   exact ⟨_, rfl, HO7.out, HB7.out⟩
end Go.Proofs.YtbphiipcnjelbaaGreat.Q

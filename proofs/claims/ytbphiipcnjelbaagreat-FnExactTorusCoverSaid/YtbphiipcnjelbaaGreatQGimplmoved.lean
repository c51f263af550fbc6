/- Written by a program of this session (wip/tools/pp.py) out of the translation, with the kit's printer. -/
import Derived.Test.YtbphiipcnjelbaaGreatQ0
import Derived.LoopTactic
import Derived.Laws.MakeOwn
namespace Go.Proofs.YtbphiipcnjelbaaGreat.Q
open Go.RowKit Go.Proofs.YtbphiipcnjelbaaGreatW.PrintWords Go.Proofs.YtbphiipcnjelbaaGreatW.PrintLast Go.Proofs.YtbphiipcnjelbaaGreatW.PrintMore
attribute [local go_sem] max2_int min2_int max_two min_two max_three min_three max_four min_four
set_option linter.unusedVariables false
set_option linter.unusedSimpArgs false
def impl_moved.g (a1 a2 : Int) (c : S66) : S66 := ⟨wrap64 (c.f0 + a1), wrap64 (c.f1 + a2)⟩
def impl_moved.f (l0 : List S66) (a1 a2 : Int) : Option (List S66) := if l0.length ≤ 1000000 then some (l0.map (impl_moved.g a1 a2)) else none
theorem made_R (W : World) (n : Nat) (hn : n ≤ 1000000) (base : Nat) (hb : base ≤ W.heap.size) : Kd.R k66 66 (W.alloc (.cells (madeCells (Value.agg #[(.int .i64 0), (.int .i64 0)]).cells (n * 2)) 66)) base (fun _ => True) (.slice (some ⟨W.heap.size, 0, none⟩) 0 n) [] :=
 ⟨fun _ _ => trivial, [], World.ownsRow_made W _ n hb (by simp only [maxLen]; omega) (size_madeCells _ _), Reps.none _ _⟩
set_option maxHeartbeats 1600000 in
theorem impl_moved.calls (A0 : Option Addr) (c0 : Nat) (l0 : List S66) (a1 a2 : Int) (r : List S66) (w : World) (hr0 : Kd.C k66 w A0 l0.length l0) (hc0 : l0.length ≤ c0) (h : impl_moved.f l0 a1 a2 = some r) :
  Calls Tryz.prog 145 #[.slice A0 l0.length c0, .int .i64 a1, .int .i64 a2] w fun e w' => ∃ v0_ : Value, e = .returned (v0_) ∧ Kd.R k66 66 w' w.heap.size (fun _ => True) v0_ r ∧ Below w.heap.size w w' := by
 have hlen := hr0.2.1
 have HR := Aside0.mk hr0
 clear hr0
 unfold impl_moved.f at h
 by_cases hn : l0.length ≤ 1000000
 case neg => rw [if_neg hn] at h; cases h
 rw [if_pos hn] at h
 obtain rfl := Option.some.inj h
 clear h
 have hu35 := Tryz.underlying66
 have hmk : ∀ W : World, (Instr.makeSlice 29 (.int .i64 0) (.int .i64 (l0.length : Int))).run Tryz.prog W = .ok (.slice (some ⟨W.heap.size, 0, none⟩) 0 l0.length) (W.alloc (.cells (madeCells (Value.agg #[(.int .i64 0), (.int .i64 0)]).cells (l0.length * 2)) 66)) := fun W => by
  obtain ⟨i, hi, h2⟩ := Option.map_eq_some_iff.1 info66
  simp only [Prod.mk.injEq] at h2
  have h := run_make (P := Tryz.prog) W 29 66 i _ Tryz.underlying29 hi h2.1 .i64 .i64 0 (l0.length : Int) (Int.le_refl _) (by omega) (by rw [h2.2.2]; omega) (by omega)
  rw [h2.2.1, Int.toNat_natCast] at h
  exact h
 go_enter Tryz.func145, Tryz.ntmps145
 go_wp2
 go_loopw [7, 15] (fun v i wr => ∃ kk : Nat, kk ≤ l0.length ∧ i = .int .i64 kk ∧ Aside0 (Kd.R k66 66 wr w.heap.size (fun _ => True) v ((l0.take kk).map (impl_moved.g a1 a2))) ∧ Aside0 (Below w.heap.size w wr)) (fun _ i _ => l0.length - (intOf i).toNat)
 case atStart => exact ⟨0, Nat.zero_le _, rfl, ⟨made_R w l0.length hn _ (Nat.le_refl _)⟩, ⟨below_alloc (Below.refl _ _) _⟩⟩
 case round =>
  obtain ⟨kk, hk, rfl, HO, HB⟩ := hrel
  by_cases hlt : kk < l0.length
  ·obtain ⟨ad, e, h0, h1⟩ := at_T66 (Kd.C_below HR.out HB.out) (kk : Int) (by omega) (by omega)
   subst e
   rw [Int.toNat_natCast] at h0 h1
   have hd : l0.take (kk + 1) = l0.take kk ++ [rd_T66 l0 kk] := by
    rw [List.take_succ_eq_append_getElem hlt]
    simp [rd_T66, List.getD_eq_getElem?_getD, List.getElem?_eq_getElem hlt]
   have HD := Aside0.mk hd
   clear hd
   generalize rd_T66 l0 kk = y at h0 h1 HD
   obtain ⟨ao, cap, e5⟩ := Kd.R_slice HO.out
   rw [List.length_map, List.length_take, Nat.min_eq_left hk] at e5
   subst e5
   have HO1 := Aside0.mk (Kd.R_alloc HO.out (.cells #[.int .i64 y.f0, .int .i64 y.f1] 66))
   have HB1 := Aside0.mk (below_alloc HB.out (.cells #[.int .i64 y.f0, .int .i64 y.f1] 66))
   obtain ⟨q0, hq0⟩ : ∃ q, q = wrap64 (y.f0 + a1) := ⟨_, rfl⟩
   obtain ⟨q1, hq1⟩ : ∃ q, q = wrap64 (y.f1 + a2) := ⟨_, rfl⟩
   have hq0' := hq0.symm
   have hq1' := hq1.symm
   have hz3 : (wr.alloc (.cells #[.int .i64 y.f0, .int .i64 y.f1] 66)).heap.size = wr.heap.size + 1 := by simp
   have HQ := Aside0.mk (And.intro hq0 hq1)
   clear hq0 hq1
   go_wp2_with (at_builtin; refine Kd.R_append k66 (w0 := w) w.heap.size rfl (.tmp 19) (.tmp 29) 29 66 (.agg #[(.int .i64 0), (.int .i64 0)]) 16 rfl Tryz.underlying29 info66 rfl (by decide) (by omega) _ ((l0.take kk).map (impl_moved.g a1 a2)) (⟨q0, q1⟩ : S66) [.int .i64 q0, .int .i64 q1] (fun _ => True) (fun _ => False) rfl (by rw [hz3]; rfl) ?aP (fun _ hk => hk.elim) ?aF ?aO ?aB ?aS ?aL ?_; (case aP => exact k66_mkM _ _ _ (⟨q0, q1⟩ : S66)); (case aB => exact HB1.out); (case aF => exact (fun _ _ => trivial)); (case aO => exact HO1.out); (case aS => exact below_size HB1.out); (case aL => rw [List.length_map, List.length_take]; omega); intro v2 w2 ho hb hg hat; have HO2 := Aside0.mk ho; have HB2 := Aside0.mk hb; clear ho hb hg hat)
   go_roundw
   case rel =>
    refine ⟨kk + 1, by omega, by go_num, ⟨?_⟩, HB2⟩
    rw [HD.out, List.map_append]
    have h := HO2.out
    rw [HQ.out.1, HQ.out.2] at h
    exact h
   case measure => simp [intOf]; omega
  ·have hkl : kk = l0.length := by omega
   subst hkl
   have hO := HO.out
   rw [List.take_length] at hO
   have HO2 := Aside0.mk hO
   go_wp2
   go_ret
   exact ⟨_, rfl, HO2.out, HB.out⟩
end Go.Proofs.YtbphiipcnjelbaaGreat.Q

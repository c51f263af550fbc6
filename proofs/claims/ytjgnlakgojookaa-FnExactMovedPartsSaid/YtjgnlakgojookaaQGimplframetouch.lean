/- Written by a program of this session (wip/tools/pp.py) out of the translation, with the kit's printer. -/
import Derived.Test.YtjgnlakgojookaaQ0
import Derived.Test.YtjgnlakgojookaaQ9
import Derived.Test.YtjgnlakgojookaaQ12
import Derived.Test.YtjgnlakgojookaaQGimplnewFrame
import Derived.Test.YtjgnlakgojookaaQ14
import Derived.LoopTactic
import Derived.Deep.RegionWith
import Derived.Deep.RegionHeld3
namespace Go.Proofs.Ytjgnlakgojookaa.Q
open Go.RowKit Go.Proofs.YtjgnlakgojookaaW.PrintWords Go.Proofs.YtjgnlakgojookaaW.PrintLast Go.Proofs.YtjgnlakgojookaaW.PrintMore
attribute [local go_sem] max2_int min2_int max_two min_two max_three min_three max_four min_four
set_option linter.unusedVariables false
set_option linter.unusedSimpArgs false

/-! ### impl_frame_touch: walked by hand -/
theorem bcellA {W w1 : World} (hb : Below W.heap.size W w1) : (∀ b o, b < W.heap.size → w1.cell? ⟨b, o, none⟩ = W.cell? ⟨b, o, none⟩) ∧ (∀ b o, b < W.heap.size → w1.frozen? ⟨b, o, none⟩ = W.frozen? ⟨b, o, none⟩) :=
  ⟨fun b o h => hb.cell (p := ⟨b, o, none⟩) h, fun b o h => hb.frozen (p := ⟨b, o, none⟩) h⟩
theorem idx_from (l : List S71) (a b c : Int) (hl : l.length ≤ 9223372036854775807) : ∀ (d k i : Nat), l.length - i = d → d < k → i ≤ l.length → ∃ j : Int, impl_Cube_109.l0 k l l.length (i : Int) a b c = some j ∧ decide (0 ≤ j) = hasC (l.drop i) a b c
  | 0, k, i, hd, hk, hi => by
    obtain ⟨m, rfl⟩ : ∃ m, k = m + 1 := ⟨k - 1, by omega⟩
    have hi2 : i = l.length := by omega
    subst hi2
    refine ⟨-1, ?_, ?_⟩
    · simp only [impl_Cube_109.l0]
      rw [if_neg (by omega)]
    · simp [hasC]
  | d + 1, k, i, hd, hk, hi => by
    obtain ⟨m, rfl⟩ : ∃ m, k = m + 1 := ⟨k - 1, by omega⟩
    have hlt : i < l.length := by omega
    have hdr : l.drop i = rd_T71 l i :: l.drop (i + 1) := by
      rw [List.drop_eq_getElem_cons hlt]
      simp [rd_T71, List.getD_eq_getElem?_getD, List.getElem?_eq_getElem hlt]
    rw [hdr]
    simp only [impl_Cube_109.l0]
    rw [if_pos (by omega), if_pos (by omega), if_pos (by omega)]
    by_cases hq : (a == (rd_T71 l i).f0 && (b == (rd_T71 l i).f1 && (c == (rd_T71 l i).f2))) = true
    · rw [if_pos hq]
      refine ⟨i, rfl, ?_⟩
      simp at hq
      obtain ⟨h1, h2, h3⟩ := hq
      simp [hasC, ← h1, ← h2, ← h3]
    · rw [if_neg hq, show wrap64 ((i : Int) + 1) = ((i + 1 : Nat) : Int) by unfold wrap64; omega]
      obtain ⟨j, h1, h2⟩ := idx_from l a b c hl d m (i + 1) (by omega) (by omega) (by omega)
      refine ⟨j, h1, ?_⟩
      rw [h2]
      have hq2 : ((rd_T71 l i).f0 == a && (rd_T71 l i).f1 == b && (rd_T71 l i).f2 == c) = false := by
        apply Bool.eq_false_iff.mpr
        intro h
        apply hq
        simp at h ⊢
        obtain ⟨⟨h1, h2⟩, h3⟩ := h
        exact ⟨h1.symm, h2.symm, h3.symm⟩
      simp only [hasC, List.any_cons, hq2, Bool.false_or]
theorem has_eq (l : List S71) (a b c : Int) (hl : l.length ≤ 9223372036854775807) : impl_Cube_97.f (l.length + 1) l a b c = some (hasC l a b c) := by
  obtain ⟨j, h1, h2⟩ := idx_from l a b c hl l.length (l.length + 1) 0 (by omega) (by omega) (by omega)
  unfold impl_Cube_97.f impl_Cube_109.f
  rw [show ((0 : Nat) : Int) = 0 from rfl] at h1
  rw [h1, Option.bind_some]
  rw [List.drop_zero] at h2
  rw [← h2]
theorem prt_C {w0 w : World} {F M : Nat} {A : Option Addr} {c : Nat} {ps : List (List S71)} {n : Nat} (h : Frm w0 w F M A c ps n) (a : Int) (h0 : 0 ≤ a) (h1 : a < ps.length) :
    ∃ ad A0 c0, A = some ad ∧ w.cell? (ad.add a.toNat) = some (.slice A0 (prt ps a).length c0) ∧ (prt ps a).length ≤ c0 ∧ k71.C w A0 (prt ps a).length (prt ps a) ∧ (ad.add a.toNat).block < w.heap.size := by
  obtain ⟨ad, A0, c0, e, hc, hl, hC⟩ := at_L4 h.C a h0 h1
  exact ⟨ad, A0, c0, e, hc, hl, hC, World.block_lt_of_cell? _ _ hc⟩
theorem below_drew1 {B : Nat} {w W : World} (h : Below B w W) : Below B w W.drew := ⟨h.os, h.tape, h.output, h.size, h.block⟩
set_option maxRecDepth 100000 in
set_option maxHeartbeats 1000000 in
theorem impl_frame_touch.lit (w0 w : World) (F M B1 B2 B3 : Nat) (A : Option Addr) (c : Nat) (ps : List (List S71)) (n : Nat) (a x y z q0 q1 q2 : Int) (hf : Frm w0 w F M A c ps n) (h0 : 0 ≤ a) (h1 : a < ps.length)
    (hb1 : w.heap[B1]? = some (.cells #[.pointer (some ⟨F, 0, none⟩)] 76 (0, 0))) (hb2 : w.heap[B2]? = some (.cells #[.int .i64 a] 3 (0, 0))) (hb3 : w.heap[B3]? = some (.cells #[.int .i64 x, .int .i64 y, .int .i64 z] 71 (0, 0))) :
    Calls Try.prog 115 #[.agg #[.int .i64 q0, .int .i64 q1, .int .i64 q2], .pointer (some ⟨B1, 0, none⟩), .pointer (some ⟨B2, 0, none⟩), .pointer (some ⟨B3, 0, none⟩)] w fun e w' => e = .returned (.bool (hasC (prt ps a) (wrap64 (q0 + x)) (wrap64 (q1 + y)) (wrap64 (q2 + z)))) ∧ Below w.heap.size w w' := by
  have hu71 := Try.underlying71
  have hu110 := Try.underlying110
  obtain ⟨ad, A0, c0, eA, hpc, hpl, hpC, hpb⟩ := prt_C hf a h0 h1
  have HH := Aside0.mk (has_eq (prt ps a) (wrap64 (q0 + x)) (wrap64 (q1 + y)) (wrap64 (q2 + z)) hpC.2.1)
  have HPL := Aside0.mk hpl
  have HPC := Aside0.mk hpC
  have f0 := (blk_cell hf.hF 0).trans rfl
  have g1 := (blk_cell hb1 0).trans rfl
  have g2 := (blk_cell hb2 0).trans rfl
  have g3 := (blk_cell hb3 0).trans rfl
  have g4 := (blk_cell hb3 1).trans rfl
  have g5 := (blk_cell hb3 2).trans rfl
  have l1 := blk_lt hf.hF
  have l2 := blk_lt hb1
  have l3 := blk_lt hb2
  have l4 := blk_lt hb3
  subst eA
  clear hf hb1 hb2 hb3 hpl hpC
  generalize prt ps a = pa at HH HPL HPC hpc ⊢
  generalize hasC pa (wrap64 (q0 + x)) (wrap64 (q1 + y)) (wrap64 (q2 + z)) = r at HH ⊢
  go_enter Try.func115, Try.ntmps115
  go_upto_region 1 with (fail)
  go_region_held3 (fun w' => w'.cell? ⟨B1, 0, none⟩ = some (.pointer (some ⟨F, 0, none⟩)) ∧ w'.cell? ⟨F, 0, none⟩ = some (.slice (some ad) ps.length c) ∧ w'.cell? ⟨B2, 0, none⟩ = some (.int .i64 a) ∧ w'.cell? (ad.add a.toNat) = some (.slice A0 pa.length c0) ∧ w'.cell? ⟨w.heap.size, 0, none⟩ = some (.int .i64 q0) ∧ w'.cell? ⟨w.heap.size, 1, none⟩ = some (.int .i64 q1) ∧ w'.cell? ⟨w.heap.size, 2, none⟩ = some (.int .i64 q2) ∧ w'.cell? ⟨B3, 0, none⟩ = some (.int .i64 x) ∧ w'.cell? ⟨B3, 1, none⟩ = some (.int .i64 y) ∧ w'.cell? ⟨B3, 2, none⟩ = some (.int .i64 z))
    (first | go_keep | (go_split_ands; refine ⟨?_, ?_, ?_, ?_, ?_, ?_, ?_, ?_, ?_, ?_⟩ <;> exact pw_cell_below ‹Below _ _ _› (by assumption)))
    (first
      | (go_at_call 102; (with_reducible refine (impl_plusCube.calls _ _ _ _ _ _ _ _ _ _ rfl).mono ?_); rintro e w6 ⟨rfl, hb6⟩; have HW6 := Aside0.mk (below_step (w := w) (by with_reducible repeat (first | exact Below.refl _ _ | apply below_alloc | apply below_drew1 | apply pw_below_drewN)) hb6))
      | (go_at_call 97; (with_reducible refine (impl_Cube_97.calls _ _ _ _ _ _ _ _ _ (Kd.C_below HPC.out (by with_reducible repeat (first | exact HW6.out | apply below_drew1 | apply pw_below_drewN))) HPL.out HH.out).mono ?_); rintro e w7 ⟨rfl, hb7⟩))
  go_wp2
  go_ret
  exact ⟨rfl, below_step HW6.out hb7⟩
set_option maxHeartbeats 1000000 in
theorem impl_frame_touch.idx (w0 w : World) (F M B1 B2 B3 : Nat) (A : Option Addr) (c : Nat) (ps : List (List S71)) (n : Nat) (a x y z : Int) (Al : Option Addr) (cl : Nat) (l : List S71) (hf : Frm w0 w F M A c ps n) (h0 : 0 ≤ a) (h1 : a < ps.length) (hr : Kd.C k71 w Al l.length l)
    (hb1 : w.heap[B1]? = some (.cells #[.pointer (some ⟨F, 0, none⟩)] 76 (0, 0))) (hb2 : w.heap[B2]? = some (.cells #[.int .i64 a] 3 (0, 0))) (hb3 : w.heap[B3]? = some (.cells #[.int .i64 x, .int .i64 y, .int .i64 z] 71 (0, 0))) :
    Calls Try.prog 98 #[.slice Al l.length cl, .func (.func 115) #[] #[.pointer (some ⟨B1, 0, none⟩), .pointer (some ⟨B2, 0, none⟩), .pointer (some ⟨B3, 0, none⟩)]] w fun e w' => (∃ j : Int, Aside0 (hitC (prt ps a) l x y z = !decide (j < 0)) ∧ e = .returned (.int .i64 j)) ∧ Below w.heap.size w w' := by
  have hlen := hr.2.1
  have HR := Aside0.mk hr
  have HF := Aside0.mk hf
  have HB1 := Aside0.mk hb1
  have HB2 := Aside0.mk hb2
  have HB3 := Aside0.mk hb3
  clear hr hf hb1 hb2 hb3
  go_enter Try.func98, Try.ntmps98
  go_wp2
  go_loopw [8] (fun i wr => ∃ kk : Nat, kk ≤ l.length ∧ i = .int .i64 kk ∧ Aside0 (hitC (prt ps a) l x y z = hitC (prt ps a) (l.drop kk) x y z) ∧ Aside0 (Below w.heap.size w wr)) (fun i _ => l.length - (intOf i).toNat)
  case atStart => exact ⟨0, Nat.zero_le _, rfl, ⟨rfl⟩, ⟨Below.refl _ _⟩⟩
  case round =>
    obtain ⟨kk, hk, rfl, HG, HBL⟩ := hrel
    by_cases hlt : kk < l.length
    · obtain ⟨ad, e, r0, r1, r2⟩ := at_T71 (Kd.C_below HR.out HBL.out) (kk : Int) (by omega) (by omega)
      subst e
      have hd : l.drop kk = rd_T71 l kk :: l.drop (kk + 1) := by
        rw [List.drop_eq_getElem_cons hlt]
        simp [rd_T71, List.getD_eq_getElem?_getD, List.getElem?_eq_getElem hlt]
      have HG2 := HG.out
      rw [hd] at HG2
      clear hd
      unfold hitC at HG2
      rw [List.any_cons] at HG2
      rw [Int.toNat_natCast] at r0 r1 r2
      generalize rd_T71 l kk = q at HG2 r0 r1 r2
      have hlit := fun (w1 : World) (hb : Below w.heap.size w w1) => impl_frame_touch.lit w0 w1 F M B1 B2 B3 A c ps n a x y z q.f0 q.f1 q.f2 (HF.out.below hb) h0 h1 (blk_below HB1.out hb) (blk_below HB2.out hb) (blk_below HB3.out hb)
      cases hq : hasC (prt ps a) (wrap64 (q.f0 + x)) (wrap64 (q.f1 + y)) (wrap64 (q.f2 + z)) with
      | false =>
        rw [hq, Bool.false_or] at HG2
        rw [hq] at hlit
        have HG3 := Aside0.mk HG2
        clear HG2
        go_wp2_with (go_at_call 115; refine (hlit _ HBL.out).mono ?_; rintro e w1 ⟨rfl, hb1⟩)
        go_roundw
        case rel => exact ⟨kk + 1, by omega, by go_num, HG3, ⟨below_step HBL.out hb1⟩⟩
        case measure => simp [intOf]; omega
      | true =>
        rw [hq, Bool.true_or] at HG2
        rw [hq] at hlit
        have HG3 := Aside0.mk HG2
        clear HG2
        go_wp2_with (go_at_call 115; refine (hlit _ HBL.out).mono ?_; rintro e w1 ⟨rfl, hb1⟩)
        go_ret
        exact ⟨⟨_, ⟨by unfold hitC; rw [HG3.out]; simp⟩, rfl⟩, below_step HBL.out hb1⟩
    · have hkl : kk = l.length := by omega
      have HG2 := HG.out
      rw [hkl, List.drop_length] at HG2
      have HR2 := Aside0.mk HG2
      clear HG2 hkl
      go_wp2
      go_ret
      exact ⟨⟨_, ⟨by rw [HR2.out]; rfl⟩, rfl⟩, HBL.out⟩
set_option maxHeartbeats 1000000 in
theorem impl_frame_touch.cf (w0 w : World) (F M B1 B2 B3 : Nat) (A : Option Addr) (c : Nat) (ps : List (List S71)) (n : Nat) (a x y z : Int) (Al : Option Addr) (cl : Nat) (l : List S71) (hf : Frm w0 w F M A c ps n) (h0 : 0 ≤ a) (h1 : a < ps.length) (hr : Kd.C k71 w Al l.length l)
    (hb1 : w.heap[B1]? = some (.cells #[.pointer (some ⟨F, 0, none⟩)] 76 (0, 0))) (hb2 : w.heap[B2]? = some (.cells #[.int .i64 a] 3 (0, 0))) (hb3 : w.heap[B3]? = some (.cells #[.int .i64 x, .int .i64 y, .int .i64 z] 71 (0, 0))) :
    Calls Try.prog 61 #[.slice Al l.length cl, .func (.func 115) #[] #[.pointer (some ⟨B1, 0, none⟩), .pointer (some ⟨B2, 0, none⟩), .pointer (some ⟨B3, 0, none⟩)]] w fun e w' => e = .returned (.bool (hitC (prt ps a) l x y z)) ∧ Below w.heap.size w w' := by
  have hcl := impl_frame_touch.idx w0 w F M B1 B2 B3 A c ps n a x y z Al cl l hf h0 h1 hr hb1 hb2 hb3
  clear hf hr hb1 hb2 hb3
  go_enter Try.func61, Try.ntmps61
  go_wp2_with (go_at_call 98; refine hcl.mono ?_; rintro e w1 ⟨⟨j, hj, rfl⟩, hb1⟩)
  go_ret
  refine ⟨?_, hb1⟩
  rw [hj.out]
  congr 2
  by_cases e : j < 0
  · simp [e]
  · simp [e]
    omega
theorem inC_eq (x y z lo hi : Int) : impl_inCube.f x y z lo hi = some (insC x y z lo hi) := by
  unfold impl_inCube.f impl_within.f insC
  by_cases h1 : lo ≤ x <;> by_cases h2 : x ≤ hi <;> by_cases h3 : lo ≤ y <;> by_cases h4 : y ≤ hi <;> by_cases h5 : lo ≤ z <;> by_cases h6 : z ≤ hi <;> simp [h1, h2, h3, h4, h5, h6]
theorem box3 (w : World) (o1 o2 o3 : Obj) : (((w.alloc o1).alloc o2).alloc o3).heap[w.heap.size]? = some o1 ∧ (((w.alloc o1).alloc o2).alloc o3).heap[w.heap.size + 1]? = some o2 ∧ (((w.alloc o1).alloc o2).alloc o3).heap[w.heap.size + 1 + 1]? = some o3 := by
  have h1 := heap_alloc_new w o1
  have h2 := heap_alloc_new (w.alloc o1) o2
  have h3 := heap_alloc_new ((w.alloc o1).alloc o2) o3
  have e1 : (w.alloc o1).heap.size = w.heap.size + 1 := by simp
  have e2 : ((w.alloc o1).alloc o2).heap.size = w.heap.size + 1 + 1 := by simp
  rw [e1] at h2
  rw [e2] at h3
  exact ⟨blk_alloc (blk_alloc h1 _) _, blk_alloc h2 _, h3⟩
theorem vm_cell {κ ε : Type} {P : Program} {k : TypeId} {kv : κ → Value} {ev : ε → Value} {w w' : World} {M : Nat} {L : List (κ × ε)} (hv : VM P k kv ev w M L) (hg : w.grownBy w' (some M)) {a : Addr} {v : Value} (hc : w.cell? a = some v) : w'.cell? a = some v := by
  obtain ⟨es, cl, hm, _⟩ := hv.1
  have hlt := World.block_lt_of_cell? _ _ hc
  have hne : a.block ≠ M := by
    intro e
    unfold World.cell? at hc
    rw [e, hm] at hc
    cases hc
  have hb := hg.block a.block hlt (fun e => hne (Option.some.inj e))
  unfold World.cell? at hc ⊢
  rw [hb]
  exact hc
theorem grown_kept {w w' : World} {M : Nat} (hg : w.grownBy w' (some M)) : Kept w w' (fun k => k = M) := ⟨hg.size, fun i hi hn => hg.block i hi (fun e => hn (Option.some.inj e))⟩
theorem Frm.stored {w0 w w' : World} {F M : Nat} {A : Option Addr} {c : Nat} {ps : List (List S71)} {n : Nat} {L : List (CtK × Bool)} (h : Frm w0 w F M A c ps n) (hv : VM Try.prog 128 ctV Value.bool w' M L) (hl : L.length ≤ n + 1) (hp : ∀ p ∈ L, p.2 = hitC (prt ps p.1.1) (prt ps p.1.2.1) p.1.2.2.1 p.1.2.2.2.1 p.1.2.2.2.2) (hg : w.grownBy w' (some M)) : Frm w0 w' F M A c ps (n + 1) :=
  ⟨h.bel.grown hg h.bel.size (fun k hk => by cases hk; exact h.lo), (hg.block F (blk_lt h.hF) (fun e => h.ne (Option.some.inj e))).trans h.hF, ⟨L, hv, hl, hp⟩, h.lo, h.C0, h.hc⟩
theorem Frm.put {w0 w : World} {F M : Nat} {A : Option Addr} {c : Nat} {ps : List (List S71)} {n : Nat} (h : Frm w0 w F M A c ps n) (hn : n < 1000000000) (a b x y z : Int) (ha : rng a = true) (hb : rng b = true) (hx : rng x = true) (hy : rng y = true) (hz : rng z = true) (v : Bool) (hv : v = hitC (prt ps a) (prt ps b) x y z) :
    ∃ w', (Instr.mapUpdate 108 (.map (some M)) (.agg #[.int .i64 a, .int .i64 b, .int .i64 x, .int .i64 y, .int .i64 z]) (.bool v)).run Try.prog w = .ok () w' ∧ Frm w0 w' F M A c ps (n + 1) ∧ Kept w w' (fun k => k = M) ∧ (∀ {p : Addr} {u : Value}, w.cell? p = some u → w'.cell? p = some u) := by
  obtain ⟨L, hvm, hl, hp⟩ := h.hM
  have hk := ct_key (p := (a, b, x, y, z)) ha hb hx hy hz
  obtain ⟨w', hr, hv', hg⟩ := VM.put lawCt hvm Try.underlying108 (by unfold maxLen; omega) hk v
  exact ⟨w', hr, h.stored hv' (by simp; omega) (fun p hp' => by rcases List.mem_cons.1 hp' with rfl | h2; exact hv; exact hp p h2) hg, grown_kept hg, fun hc => vm_cell hvm hg hc⟩
def keyC (a b x y z : Int) : CtK := (a, b, x, y, z)
theorem Frm.look {w0 w : World} {F M : Nat} {A : Option Addr} {c : Nat} {ps : List (List S71)} {n : Nat} (h : Frm w0 w F M A c ps n) (a b x y z : Int) (ha : rng a = true) (hb : rng b = true) (hx : rng x = true) (hy : rng y = true) (hz : rng z = true) :
    ∃ (v o : Bool), (o = true → v = hitC (prt ps a) (prt ps b) x y z) ∧ ∀ w', Below w.heap.size w w' → (Instr.lookup 108 (.map (some M)) (.agg #[.int .i64 a, .int .i64 b, .int .i64 x, .int .i64 y, .int .i64 z]) true).run Try.prog w' = .ok (.tuple #[.bool v, .bool o]) w' := by
  obtain ⟨L, hv, hl, hp⟩ := h.hM
  have hk := ct_key (p := keyC a b x y z) ha hb hx hy hz
  refine ⟨(mget L (keyC a b x y z)).getD false, (mget L (keyC a b x y z)).isSome, ?_, fun w' hb => ?_⟩
  · intro ho
    have hm : ∀ L : List (CtK × Bool), (∀ p ∈ L, p.2 = hitC (prt ps p.1.1) (prt ps p.1.2.1) p.1.2.2.1 p.1.2.2.2.1 p.1.2.2.2.2) → (mget L (keyC a b x y z)).isSome = true → (mget L (keyC a b x y z)).getD false = hitC (prt ps a) (prt ps b) x y z := by
      intro L
      induction L with
      | nil => intro _ h; simp [mget] at h
      | cons p r ih =>
        intro hp h
        unfold mget at h ⊢
        by_cases e : p.1 = keyC a b x y z
        · rw [if_pos e]
          have := hp p List.mem_cons_self
          rw [e] at this
          exact this
        · rw [if_neg e] at h ⊢
          exact ih (fun q hq => hp q (List.mem_cons_of_mem _ hq)) h
    exact hm L hp ho
  · have hr := (hv.below hb).look_ok lawCt ctV_inj Try.underlying108 (z := .bool false) (by kernel_rfl) hk
    rw [show (Value.agg #[.int .i64 a, .int .i64 b, .int .i64 x, .int .i64 y, .int .i64 z]) = ctV (keyC a b x y z) from rfl, hr]
    cases mget L (keyC a b x y z) <;> rfl
set_option maxRecDepth 100000 in
set_option maxHeartbeats 1000000 in
theorem impl_frame_touch.calls (w0 w : World) (F M : Nat) (A : Option Addr) (c : Nat) (ps : List (List S71)) (n : Nat) (a b x y z : Int) (hf : Frm w0 w F M A c ps n) (ha0 : 0 ≤ a) (ha1 : a < ps.length) (hb0 : 0 ≤ b) (hb1 : b < ps.length) (hn : n < 1000000000) (hx : rng x = true) (hy : rng y = true) (hz : rng z = true) :
    Calls Try.prog 110 #[.pointer (some ⟨F, 0, none⟩), .int .i64 a, .int .i64 b, .agg #[.int .i64 x, .int .i64 y, .int .i64 z]] w fun e w' => e = .returned (.bool (touchC ps a b x y z)) ∧ Frm w0 w' F M A c ps (n + 1) ∧ Kept w w' (fun k => k = M) := by
  have hlen := hf.C0.2.1
  have ha : rng a = true := by unfold rng; simp; omega
  have hb : rng b = true := by unfold rng; simp; omega
  obtain ⟨v, o, hvo, hlk⟩ := hf.look a b x y z ha hb hx hy hz
  have HIN := Aside0.mk (inC_eq x y z (-7) 7)
  have hu71 := Try.underlying71
  have hu110 := Try.underlying110
  have hu128 := Try.underlying128
  have HF := Aside0.mk hf
  have f0 := (blk_cell hf.hF 0).trans rfl
  have f1 := (blk_cell hf.hF 1).trans rfl
  have lF := blk_lt hf.hF
  have HLK := Aside0.mk hlk
  have HVO := Aside0.mk hvo
  have HKEY := Aside0.mk (And.intro ha (And.intro hb (And.intro hx (And.intro hy hz))))
  clear hf hlk hvo ha hb hx hy hz
  cases hi : insC x y z (-7) 7 with
  | false =>
    rw [hi] at HIN
    have ht : touchC ps a b x y z = false := by unfold touchC; rw [hi]; rfl
    rw [ht]
    clear ht hi
    go_enter Try.func110, Try.ntmps110
    go_wp2_with (go_at_call 63; (with_reducible refine (impl_inCube.calls _ _ _ _ _ _ _ HIN.out).mono ?_); rintro e w1 ⟨rfl, hb1⟩)
    go_ret
    have hb := below_step (w := w) (below_alloc (below_alloc (below_alloc (Below.refl _ _) _) _) _) hb1
    have hF := HF.out.below hb
    obtain ⟨L, hv, hl, hp⟩ := hF.hM
    exact ⟨rfl, ⟨hF.bel, hF.hF, ⟨L, hv, by omega, hp⟩, hF.lo, hF.C0, hF.hc⟩, Kept.of_below hb _⟩
  | true =>
    rw [hi] at HIN
    have ht : touchC ps a b x y z = hitC (prt ps a) (prt ps b) x y z := by unfold touchC; rw [hi]; rfl
    rw [ht]
    clear ht hi
    have HBX := Aside0.mk (box3 w (.cells #[.pointer (some ⟨F, 0, none⟩)] 76 (0, 0)) (.cells #[.int .i64 a] 3 (0, 0)) (.cells #[.int .i64 x, .int .i64 y, .int .i64 z] 71 (0, 0)))
    go_enter Try.func110, Try.ntmps110
    go_upto_region 4 with (go_at_call 63; (with_reducible refine (impl_inCube.calls _ _ _ _ _ _ _ HIN.out).mono ?_); rintro e w1 ⟨rfl, hb1⟩; have HB1 := Aside0.mk (below_step (w := w) (below_alloc (below_alloc (below_alloc (Below.refl _ _) _) _) _) hb1); have HX1 := Aside0.mk (blk_below HBX.out.1 hb1); have HX2 := Aside0.mk (blk_below HBX.out.2.1 hb1); have HX3 := Aside0.mk (blk_below HBX.out.2.2 hb1); have k1 := (blk_cell HX1.out 0).trans rfl; have k2 := (blk_cell HX2.out 0).trans rfl; have k3 := (blk_cell HX3.out 0).trans rfl; have k4 := (blk_cell HX3.out 1).trans rfl; have k5 := (blk_cell HX3.out 2).trans rfl; clear hb1)
    have HK := Aside0.mk (heap_alloc_new w1 (.cells #[.int .i64 a, .int .i64 b, .int .i64 x, .int .i64 y, .int .i64 z] 128 (0, 0)))
    have hl0 := HLK.out _ (below_alloc HB1.out (.cells #[.int .i64 a, .int .i64 b, .int .i64 x, .int .i64 y, .int .i64 z] 128 (0, 0)))
    have hl1 := HLK.out _ (below_drew1 (below_alloc HB1.out (.cells #[.int .i64 a, .int .i64 b, .int .i64 x, .int .i64 y, .int .i64 z] 128 (0, 0))))
    have f2 := pw_cell_below HB1.out f1
    go_region_held3 (fun w' => w'.cell? ⟨w.heap.size, 0, none⟩ = some (.pointer (some ⟨F, 0, none⟩)) ∧ w'.cell? ⟨F, 1, none⟩ = some (.map (some M)) ∧ w'.cell? ⟨w1.heap.size, 0, none⟩ = some (.int .i64 a) ∧ w'.cell? ⟨w1.heap.size, 1, none⟩ = some (.int .i64 b) ∧ w'.cell? ⟨w1.heap.size, 2, none⟩ = some (.int .i64 x) ∧ w'.cell? ⟨w1.heap.size, 3, none⟩ = some (.int .i64 y) ∧ w'.cell? ⟨w1.heap.size, 4, none⟩ = some (.int .i64 z)) (first | go_keep) (fail)
    rename_i hHeld
    clear hl0 hl1 hHeld k3 k4 k5
    cases o with
    | true =>
      go_wp2
      go_ret
      have hb := below_drew1 (below_alloc HB1.out (.cells #[.int .i64 a, .int .i64 b, .int .i64 x, .int .i64 y, .int .i64 z] 128 (0, 0)))
      have hF := HF.out.below hb
      obtain ⟨L, hv, hl, hp⟩ := hF.hM
      exact ⟨by rw [← HVO.out trivial]; rfl, ⟨hF.bel, hF.hF, ⟨L, hv, by omega, hp⟩, hF.lo, hF.C0, hF.hc⟩, Kept.of_below hb _⟩
    | false =>
      have hW2 := below_drew1 (below_alloc HB1.out (.cells #[.int .i64 a, .int .i64 b, .int .i64 x, .int .i64 y, .int .i64 z] 128 (0, 0)))
      have HW2 := Aside0.mk hW2
      obtain ⟨ad, A0, c0, eA, hpc, hpl, hpC, hpb⟩ := prt_C (HF.out.below HB1.out) b hb0 hb1
      subst eA
      have HKD := Aside0.mk (show (w1.alloc (.cells #[.int .i64 a, .int .i64 b, .int .i64 x, .int .i64 y, .int .i64 z] 128)).drew.heap[w1.heap.size]? = _ from HK.out)
      have HCF := Aside0.mk (impl_frame_touch.cf w0 _ F M w.heap.size (w.heap.size + 1) (w.heap.size + 1 + 1) (some ad) c ps n a x y z A0 c0 (prt ps b) (HF.out.below hW2) ha0 ha1 (Kd.C_below hpC (below_drew1 (below_alloc (Below.refl _ _) _))) (blk_below HX1.out (below_drew1 (below_alloc (Below.refl _ _) _))) (blk_below HX2.out (below_drew1 (below_alloc (Below.refl _ _) _))) (blk_below HX3.out (below_drew1 (below_alloc (Below.refl _ _) _))))
      have f3 := pw_cell_below HB1.out f0
      have l1 := blk_lt HX1.out
      have lF1 : F < w1.heap.size := by omega
      have HPC := Aside0.mk hpC
      have HPL := Aside0.mk hpl
      clear hpC hpl hW2 k2
      generalize hH : hitC (prt ps a) (prt ps b) x y z = r at HCF ⊢
      have HHH := Aside0.mk hH
      clear hH
      go_upto_region 8 with (go_at_call 61; refine HCF.out.mono ?_; rintro e w5 ⟨rfl, hb5⟩; have HB5 := Aside0.mk hb5; clear hb5)
      have hA := HF.out.below (below_step HW2.out HB5.out)
      obtain ⟨qa, qb, qx, qy, qz⟩ := HKEY.out
      obtain ⟨wa, ra, fa, ka, ca⟩ := hA.put hn a b x y z qa qb qx qy qz r HHH.out.symm
      obtain ⟨wb, rb, fb, kb, cb⟩ := (hA.below (below_drew1 (Below.refl _ _))).put hn a b x y z qa qb qx qy qz r HHH.out.symm
      have HA := Aside0.mk (And.intro fa (Kept.then_ (Kept.of_below (below_step HW2.out HB5.out) (fun k => k = M)) ka (fun _ h => .inl h)))
      have HB := Aside0.mk (And.intro fb (Kept.then_ (Kept.of_below (below_drew1 (below_step HW2.out HB5.out)) (fun k => k = M)) kb (fun _ h => .inl h)))
      have x1 := blk_below (blk_below HX1.out (below_drew1 (below_alloc (Below.refl _ _) (.cells #[.int .i64 a, .int .i64 b, .int .i64 x, .int .i64 y, .int .i64 z] 128)))) HB5.out
      have x2 := blk_below HKD.out HB5.out
      have e1 := (blk_cell x1 0).trans rfl
      have e2 := (blk_cell hA.hF 1).trans rfl
      have e3 := (blk_cell x2 0).trans rfl
      have e4 := (blk_cell x2 1).trans rfl
      have e5 := (blk_cell x2 2).trans rfl
      have e6 := (blk_cell x2 3).trans rfl
      have e7 := (blk_cell x2 4).trans rfl
      clear fa ka fb kb hA qa qb qx qy qz x1 x2 f0 f1 f2 f3 k1 hpc
      go_region_held3 (fun w' => w'.cell? ⟨w.heap.size, 0, none⟩ = some (.pointer (some ⟨F, 0, none⟩)) ∧ w'.cell? ⟨F, 1, none⟩ = some (.map (some M)) ∧ w'.cell? ⟨w1.heap.size, 0, none⟩ = some (.int .i64 a) ∧ w'.cell? ⟨w1.heap.size, 1, none⟩ = some (.int .i64 b) ∧ w'.cell? ⟨w1.heap.size, 2, none⟩ = some (.int .i64 x) ∧ w'.cell? ⟨w1.heap.size, 3, none⟩ = some (.int .i64 y) ∧ w'.cell? ⟨w1.heap.size, 4, none⟩ = some (.int .i64 z)) (first | go_keep | (go_split_ands; refine ⟨?_, ?_, ?_, ?_, ?_, ?_, ?_⟩ <;> first | exact ca (by assumption) | exact cb (by assumption))) (fail)
      rename_i hHeld
      clear hHeld e1 e2 e3 e4 e5 e6 e7
      go_wp2
      go_ret
      first
        | exact ⟨by rw [HHH.out]; rfl, HB.out.1, HB.out.2⟩
        | exact ⟨by rw [HHH.out]; rfl, HA.out.1, HA.out.2⟩

end Go.Proofs.Ytjgnlakgojookaa.Q

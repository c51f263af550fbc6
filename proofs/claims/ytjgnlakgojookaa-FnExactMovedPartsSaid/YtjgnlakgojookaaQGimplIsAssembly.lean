/- Written by a program of this session (wip/tools/pp.py) out of the translation, with the kit's printer. -/
import Derived.Test.YtjgnlakgojookaaQ0
import Derived.Test.YtjgnlakgojookaaQ11
import Derived.Test.YtjgnlakgojookaaQ13
import Derived.Test.YtjgnlakgojookaaQGimplnewFrame
import Derived.Test.YtjgnlakgojookaaQ14
import Derived.Test.YtjgnlakgojookaaQGimplframetouch
import Derived.Test.YtjgnlakgojookaaQGimplframeclear
import Derived.Test.YtjgnlakgojookaaQGimplframeareOffsets
import Derived.LoopTactic
import Derived.Deep.RegionHeld3
namespace Go.Proofs.Ytjgnlakgojookaa.Q
open Go.RowKit Go.Proofs.YtjgnlakgojookaaW.PrintWords Go.Proofs.YtjgnlakgojookaaW.PrintLast Go.Proofs.YtjgnlakgojookaaW.PrintMore
attribute [local go_sem] max2_int min2_int max_two min_two max_three min_three max_four min_four
set_option linter.unusedVariables false
set_option linter.unusedSimpArgs false

/-! ### impl_IsAssembly: walked by hand -/
set_option maxHeartbeats 800000 in
theorem impl_IsAssembly.lit (q : S71) (w : World) :
    Calls Try.prog 62 #[.agg #[.int .i64 q.f0, .int .i64 q.f1, .int .i64 q.f2]] w fun e w' => e = .returned (.bool (!inL 0 7 q)) ∧ Below w.heap.size w w' := by
  have h := inC_eq q.f0 q.f1 q.f2 0 7
  have hu71 := Try.underlying71
  go_enter Try.func62, Try.ntmps62
  go_wp2_with (go_at_call 63; (with_reducible refine (impl_inCube.calls _ _ _ _ _ _ _ h).mono ?_); rintro e w1 ⟨rfl, hb1⟩)
  go_ret
  exact ⟨rfl, below_step (below_alloc (Below.refl _ _) _) hb1⟩
set_option maxRecDepth 100000 in
set_option maxHeartbeats 800000 in
theorem impl_IsAssembly.idx (A : Option Addr) (c : Nat) (l : List S71) (w : World) (hr : Kd.C k71 w A l.length l) :
    Calls Try.prog 98 #[.slice A l.length c, .func (.func 62) #[] #[]] w fun e w' => (∃ j : Int, Aside0 (l.all (inL 0 7) = decide (j < 0)) ∧ e = .returned (.int .i64 j)) ∧ Below w.heap.size w w' := by
  have hlen := hr.2.1
  have HR := Aside0.mk hr
  clear hr
  go_enter Try.func98, Try.ntmps98
  go_wp2
  go_loopw [8] (fun i wr => ∃ kk : Nat, kk ≤ l.length ∧ i = .int .i64 kk ∧ Aside0 (l.all (inL 0 7) = (l.drop kk).all (inL 0 7)) ∧ Aside0 (Below w.heap.size w wr)) (fun i _ => l.length - (intOf i).toNat)
  case atStart => exact ⟨0, Nat.zero_le _, rfl, ⟨rfl⟩, ⟨Below.refl _ _⟩⟩
  case round =>
    obtain ⟨kk, hk, rfl, HG, HBL⟩ := hrel
    by_cases hlt : kk < l.length
    · obtain ⟨ad, e, r0, r1, r2⟩ := at_T71 (Kd.C_below HR.out HBL.out) (kk : Int) (by omega) (by omega)
      subst e
      have hd : l.drop kk = rd_T71 l kk :: l.drop (kk + 1) := by
        rw [List.drop_eq_getElem_cons hlt]
        simp [rd_T71, List.getD_eq_getElem?_getD, List.getElem?_eq_getElem hlt]
      have HG2 := HG.out
      rw [hd, List.all_cons] at HG2
      clear hd
      rw [Int.toNat_natCast] at r0 r1 r2
      generalize rd_T71 l kk = q at HG2 r0 r1 r2
      have hlit := fun w : World => impl_IsAssembly.lit q w
      cases hq : inL 0 7 q with
      | true =>
        rw [hq, Bool.true_and] at HG2
        rw [hq] at hlit
        have HG3 := Aside0.mk HG2
        clear HG2
        go_wp2_with (go_at_call 62; refine (hlit _).mono ?_; rintro e w1 ⟨rfl, hb1⟩)
        go_roundw
        case rel => exact ⟨kk + 1, by omega, by go_num, HG3, ⟨below_step HBL.out hb1⟩⟩
        case measure => simp [intOf]; omega
      | false =>
        rw [hq, Bool.false_and] at HG2
        rw [hq] at hlit
        have HG3 := Aside0.mk HG2
        clear HG2
        go_wp2_with (go_at_call 62; refine (hlit _).mono ?_; rintro e w1 ⟨rfl, hb1⟩)
        go_ret
        exact ⟨⟨_, ⟨by rw [HG3.out]; simp⟩, rfl⟩, below_step HBL.out hb1⟩
    · have hkl : kk = l.length := by omega
      have HG2 := HG.out
      rw [hkl, List.drop_length] at HG2
      have HR2 := Aside0.mk HG2
      clear HG2 hkl
      go_wp2
      go_ret
      exact ⟨⟨_, ⟨by rw [HR2.out]; rfl⟩, rfl⟩, HBL.out⟩
set_option maxHeartbeats 800000 in
theorem impl_IsAssembly.has (A : Option Addr) (c : Nat) (l : List S71) (w : World) (hr : Kd.C k71 w A l.length l) :
    Calls Try.prog 61 #[.slice A l.length c, .func (.func 62) #[] #[]] w fun e w' => e = .returned (.bool (!l.all (inL 0 7))) ∧ Below w.heap.size w w' := by
  have hc := impl_IsAssembly.idx A c l w hr
  clear hr
  go_enter Try.func61, Try.ntmps61
  go_wp2_with (go_at_call 98; refine hc.mono ?_; rintro e w1 ⟨⟨j, hj, rfl⟩, hb1⟩)
  go_ret
  refine ⟨?_, hb1⟩
  rw [hj.out]
  congr 2
  by_cases e : j < 0
  · simp [e]
  · simp [e]
    omega
def zeroC (n : Nat) : List S71 := List.replicate n z71
def impl_IsAssembly.one (k : Nat) (p : List S71) : Option Bool :=
  (impl_isSolid.f k p).bind fun a => if a = true then (impl_connectedCubes.f k p).bind fun b => if b = true then some (p.all (inL 0 7)) else some false else some false
def impl_IsAssembly.parts (k : Nat) : List (List S71) → Option Bool
  | [] => some true
  | p :: r => (impl_IsAssembly.one k p).bind fun a => if a = true then impl_IsAssembly.parts k r else some false
def impl_IsAssembly.f (k : Nat) (l0_0 : List (List S71)) : Option Bool :=
  if (l0_0.length : Int) < 2 then some false else if (l0_0.length : Int) > 4 then some false else (impl_IsAssembly.parts k l0_0).bind fun a => if a = true then some (clearG l0_0 (zeroC l0_0.length) 0 (zeroC l0_0.length)) else some false
theorem impl_IsAssembly.one_mono (k : Nat) (p : List S71) : LeO (impl_IsAssembly.one k p) (impl_IsAssembly.one (k + 1) p) := by
  unfold impl_IsAssembly.one
  refine LeO.bind (impl_isSolid.mono _ _) (fun a => LeO.ite (LeO.bind (impl_connectedCubes.mono _ _) (fun b => LeO.refl _)) (LeO.refl _))
theorem impl_IsAssembly.parts_mono (k : Nat) : ∀ l, LeO (impl_IsAssembly.parts k l) (impl_IsAssembly.parts (k + 1) l)
  | [] => LeO.refl _
  | p :: r => by
    unfold impl_IsAssembly.parts
    exact LeO.bind (impl_IsAssembly.one_mono k p) (fun a => LeO.ite (impl_IsAssembly.parts_mono k r) (LeO.refl _))
theorem impl_IsAssembly.mono : ∀ a0 k, LeO (impl_IsAssembly.f k a0) (impl_IsAssembly.f (k + 1) a0) := by
  intro a0 k
  unfold impl_IsAssembly.f
  exact LeO.ite (LeO.refl _) (LeO.ite (LeO.refl _) (LeO.bind (impl_IsAssembly.parts_mono k a0) (fun _ => LeO.refl _)))
def zero3 : Array Value := #[.int .i64 0, .int .i64 0, .int .i64 0]
theorem made_zero (m i : Nat) (h : i < m) : (madeCells zero3 m)[i]? = some (.int .i64 0) := by
  have h3 : i % 3 = 0 ∨ i % 3 = 1 ∨ i % 3 = 2 := by omega
  simp [madeCells, zero3, h]
  rcases h3 with h3 | h3 | h3 <;> simp [h3]
theorem mk_run (n : Nat) (hn : n ≤ 100) (W : World) : (Instr.makeSlice 36 (.int .i64 (n : Int)) (.int .i64 (n : Int))).run Try.prog W = .ok (.slice (some ⟨W.heap.size, 0, none⟩) n n) (W.alloc (.cells (madeCells zero3 (n * 3)) 71)) := by
  obtain ⟨i0, hi, hzz⟩ := Option.map_eq_some_iff.1 info71
  simp only [Prod.mk.injEq] at hzz
  obtain ⟨hz0, hz1, hz2⟩ := hzz
  have hr := run_make (P := Try.prog) W 36 71 i0 (.agg zero3) Try.underlying36 hi hz0 .i64 .i64 (n : Int) (n : Int) (by omega) (by omega) (by rw [hz2]; omega) (by omega)
  simp only [Int.toNat_natCast] at hr
  rw [hz1] at hr
  exact hr
theorem mk_C (n : Nat) (hn : n ≤ 100) (W : World) : Kd.C k71 (W.alloc (.cells (madeCells zero3 (n * 3)) 71)) (some ⟨W.heap.size, 0, none⟩) n (zeroC n) := by
  refine ⟨by simp [zeroC], by omega, fun h0 => ⟨_, rfl, fun j p hj => ?_⟩⟩
  have hj2 : j < n := by
    have := (List.getElem?_eq_some_iff.1 hj).1
    simpa [zeroC] using this
  obtain rfl : p = z71 := by
    simp only [zeroC, List.getElem?_replicate, hj2, if_true, Option.some.injEq] at hj
    exact hj.symm
  refine ⟨[.int .i64 0, .int .i64 0, .int .i64 0], rfl, k71_mk _ _, fun i u hu => ?_⟩
  have hi : i < 3 := by
    have := (List.getElem?_eq_some_iff.1 hu).1
    simpa using this
  have hu2 : u = .int .i64 0 := by
    match i, hi with
    | 0, _ => simpa using hu.symm
    | 1, _ => simpa using hu.symm
    | 2, _ => simpa using hu.symm
  rw [hu2, add_plain]
  have hb := blk_cell (heap_alloc_new W (.cells (madeCells zero3 (n * 3)) 71 (0, 0))) (j * 3 + i)
  show World.cell? _ ⟨W.heap.size, j * 3 + i, none⟩ = _
  exact hb.trans (made_zero _ _ (by omega))
theorem clear_zero (w0 w : World) (F M : Nat) (A : Option Addr) (c : Nat) (ps : List (List S71)) (m : Nat) (Al : Option Addr) (cl n : Nat) (hf : Frm w0 w F M A c ps m) (hr : Kd.C k71 w Al n (zeroC n)) (hcl : n ≤ cl) (hl : n ≤ ps.length) (hl4 : n ≤ 4) (hm : m < 800000000) :
    Calls Try.prog 65 #[.pointer (some ⟨F, 0, none⟩), .slice Al n cl] w fun e w' => e = .returned (.bool (clearG ps (zeroC n) 0 (zeroC n))) ∧ Frm w0 w' F M A c ps (m + 16) ∧ Kept w w' (fun k => k = M) := by
  have hz : (zeroC n).length = n := by simp [zeroC]
  have h := impl_frame_clear.calls w0 w F M A c ps m Al cl (zeroC n) hf (by rw [hz]; exact hr) (by omega) (by omega) (by omega) hm
  rw [hz] at h
  exact h
set_option maxRecDepth 100000 in
set_option maxHeartbeats 2000000 in
theorem impl_IsAssembly.calls (k : Nat) (A0_0 : Option Addr) (c0_0 : Nat) (l0_0 : List (List S71)) (r : Bool) (w : World) (hr0_0 : Kd.C (Kd.slice 71 k71) w A0_0 l0_0.length l0_0) (hc0_0 : l0_0.length ≤ c0_0) (h : impl_IsAssembly.f k l0_0 = some r) :
    Calls Try.prog 16 #[.agg #[.slice A0_0 l0_0.length c0_0]] w fun e w' => e = .returned (.bool r) ∧ Below w.heap.size w w' := by
  have hlen := hr0_0.2.1
  have HR := Aside0.mk hr0_0
  have HBOX := Aside0.mk (heap_alloc_new w (.cells #[.slice A0_0 l0_0.length c0_0] 29 (0, 0)))
  have HB1 := Aside0.mk (below_alloc (Below.refl w.heap.size w) (.cells #[.slice A0_0 l0_0.length c0_0] 29))
  have hu29 := Try.underlying29
  have hu27 := Try.underlying27
  clear hr0_0
  unfold impl_IsAssembly.f at h
  by_cases h1 : (l0_0.length : Int) < 2
  · rw [if_pos h1] at h
    obtain rfl := Option.some.inj h
    go_enter Try.func16, Try.ntmps16
    go_wp2
    go_ret
    exact ⟨rfl, HB1.out⟩
  · rw [if_neg h1] at h
    by_cases h2 : (l0_0.length : Int) > 4
    · rw [if_pos h2] at h
      obtain rfl := Option.some.inj h
      go_enter Try.func16, Try.ntmps16
      go_wp2
      go_ret
      exact ⟨rfl, HB1.out⟩
    · rw [if_neg h2] at h
      have H := Aside0.mk h
      have hmk := fun W : World => mk_run l0_0.length (by omega) W
      clear h
      go_enter Try.func16, Try.ntmps16
      go_wp2
      go_loopw [18] (fun i wr => ∃ kk : Nat, kk ≤ l0_0.length ∧ i = .int .i64 kk ∧ Aside0 ((impl_IsAssembly.parts k (l0_0.drop kk)).bind (fun a => if a = true then some (clearG l0_0 (zeroC l0_0.length) 0 (zeroC l0_0.length)) else some false) = some r) ∧ Aside0 (wr.heap[w.heap.size]? = some (.cells #[.slice A0_0 l0_0.length c0_0] 29 (0, 0))) ∧ Aside0 (Below w.heap.size w wr)) (fun i _ => l0_0.length - (intOf i).toNat)
      case atStart => exact ⟨0, Nat.zero_le _, rfl, H, HBOX, HB1⟩
      case round =>
        obtain ⟨kk, hk, rfl, HG, HX, HB⟩ := hrel
        by_cases hlt : kk < l0_0.length
        · obtain ⟨ad, Ai, ci, e, r0, hci, hCi⟩ := at_L4 (Kd.C_below HR.out HB.out) (kk : Int) (by omega) (by omega)
          have hd : l0_0.drop kk = rd_L4 l0_0 kk :: l0_0.drop (kk + 1) := by
            rw [List.drop_eq_getElem_cons hlt]
            simp [rd_L4, List.getD_eq_getElem?_getD, List.getElem?_eq_getElem hlt]
          subst e
          have HG2 := HG.out
          rw [hd, impl_IsAssembly.parts] at HG2
          clear hd
          rw [Int.toNat_natCast] at r0
          generalize rd_L4 l0_0 kk = q at HG2 r0 hci hCi
          have HCI := Aside0.mk hCi
          have HCC := Aside0.mk hci
          clear hci hCi
          obtain ⟨a0, hg0, HG3⟩ := Option.bind_eq_some_iff.mp HG2
          clear HG2
          obtain ⟨a, ho, hg1⟩ := Option.bind_eq_some_iff.mp hg0
          clear hg0
          unfold impl_IsAssembly.one at ho
          obtain ⟨b, hs, ho2⟩ := Option.bind_eq_some_iff.mp ho
          clear ho
          have HS := Aside0.mk hs
          clear hs
          have x0 := (blk_cell HX.out 0).trans rfl
          cases b with
          | false =>
            rw [if_neg (by decide)] at ho2
            obtain rfl := Option.some.inj ho2
            rw [if_neg (by decide)] at hg1
            obtain rfl := Option.some.inj hg1
            rw [if_neg (by decide)] at HG3
            obtain rfl := Option.some.inj HG3
            go_wp2_with (go_at_call 59; (with_reducible refine (impl_isSolid.calls k _ _ q _ _ HCI.out HCC.out HS.out).mono ?_); rintro e w1 ⟨rfl, hb1⟩)
            go_ret
            exact ⟨rfl, below_step HB.out hb1⟩
          | true =>
            rw [if_pos rfl] at ho2
            obtain ⟨d, hc, ho3⟩ := Option.bind_eq_some_iff.mp ho2
            clear ho2
            have HCN := Aside0.mk hc
            clear hc
            cases d with
            | false =>
              rw [if_neg (by decide)] at ho3
              obtain rfl := Option.some.inj ho3
              rw [if_neg (by decide)] at hg1
              obtain rfl := Option.some.inj hg1
              rw [if_neg (by decide)] at HG3
              obtain rfl := Option.some.inj HG3
              go_wp2_with (first
                | (go_at_call 59; (with_reducible refine (impl_isSolid.calls k _ _ q _ _ HCI.out HCC.out HS.out).mono ?_); rintro e w1 ⟨rfl, hb1⟩)
                | (go_at_call 60; (with_reducible refine (impl_connectedCubes.calls k _ _ q _ _ (Kd.C_below HCI.out hb1) HCC.out HCN.out).mono ?_); rintro e w2 ⟨rfl, hb2⟩))
              go_ret
              exact ⟨rfl, below_step (below_step HB.out hb1) hb2⟩
            | true =>
              rw [if_pos rfl] at ho3
              obtain rfl := Option.some.inj ho3
              clear ho3
              have HHAS := Aside0.mk (fun (w1 : World) (hb : Below wr.heap.size wr w1) => impl_IsAssembly.has Ai ci q w1 (Kd.C_below HCI.out hb))
              cases ha : q.all (inL 0 7) with
              | false =>
                rw [ha] at hg1 HHAS
                rw [if_neg (by decide)] at hg1
                obtain rfl := Option.some.inj hg1
                rw [if_neg (by decide)] at HG3
                obtain rfl := Option.some.inj HG3
                clear ha
                go_wp2_with (first
                  | (go_at_call 59; (with_reducible refine (impl_isSolid.calls k _ _ q _ _ HCI.out HCC.out HS.out).mono ?_); rintro e w1 ⟨rfl, hb1⟩)
                  | (go_at_call 60; (with_reducible refine (impl_connectedCubes.calls k _ _ q _ _ (Kd.C_below HCI.out hb1) HCC.out HCN.out).mono ?_); rintro e w2 ⟨rfl, hb2⟩)
                  | (go_at_call 61; refine (HHAS.out _ (below_step hb1 hb2)).mono ?_; rintro e w3 ⟨rfl, hb3⟩))
                go_ret
                exact ⟨rfl, below_step (below_step (below_step HB.out hb1) hb2) hb3⟩
              | true =>
                rw [ha] at hg1 HHAS
                rw [if_pos rfl] at hg1
                have HG5 := Aside0.mk (show (impl_IsAssembly.parts k (l0_0.drop (kk + 1))).bind (fun a => if a = true then some (clearG l0_0 (zeroC l0_0.length) 0 (zeroC l0_0.length)) else some false) = some r by rw [hg1]; exact HG3)
                clear ha hg1 HG3
                go_wp2_with (first
                  | (go_at_call 59; (with_reducible refine (impl_isSolid.calls k _ _ q _ _ HCI.out HCC.out HS.out).mono ?_); rintro e w1 ⟨rfl, hb1⟩)
                  | (go_at_call 60; (with_reducible refine (impl_connectedCubes.calls k _ _ q _ _ (Kd.C_below HCI.out hb1) HCC.out HCN.out).mono ?_); rintro e w2 ⟨rfl, hb2⟩)
                  | (go_at_call 61; refine (HHAS.out _ (below_step hb1 hb2)).mono ?_; rintro e w3 ⟨rfl, hb3⟩))
                go_roundw
                case rel => exact ⟨kk + 1, by omega, by go_num, HG5, ⟨blk_below (blk_below (blk_below HX.out hb1) hb2) hb3⟩, ⟨below_step (below_step (below_step HB.out hb1) hb2) hb3⟩⟩
                case measure => simp [intOf]; omega
        · have hkl : kk = l0_0.length := by omega
          have HG2 := HG.out
          rw [hkl, List.drop_length] at HG2
          have hr2 : r = clearG l0_0 (zeroC l0_0.length) 0 (zeroC l0_0.length) := by
            simp only [impl_IsAssembly.parts, Option.bind_some, if_true, Option.some.injEq] at HG2
            exact HG2.symm
          have HR2 := Aside0.mk hr2
          clear hr2 HG2 hkl
          have x0 := (blk_cell HX.out 0).trans rfl
          have lX := blk_lt HX.out
          go_upto_region 9 with (fail)
          go_region_held3 (fun w' => w'.cell? ⟨w.heap.size, 0, none⟩ = some (.slice A0_0 l0_0.length c0_0))
            (first | go_keep | (go_split_ands; exact pw_cell_below (Frm.bel ‹Frm _ _ _ _ _ _ _ _›) (by assumption)) | (go_split_ands; exact HFX.out.1.cell HFX.out.2 (by assumption)))
            (first
              | (go_at_call 64; refine (impl_newFrame.calls A0_0 c0_0 l0_0 _ (Kd.C_below HR.out (by with_reducible repeat (first | exact HB.out | apply below_alloc | apply below_drew1 | apply pw_below_drewN))) hc0_0).mono ?_; rintro e w5 ⟨F, M, rfl, hf5⟩; have HF5 := Aside0.mk hf5)
              | (go_at_call 65; refine (clear_zero _ _ F M A0_0 c0_0 l0_0 0 _ _ l0_0.length (HF5.out.below (by with_reducible repeat (first | exact Below.refl _ _ | apply below_alloc | apply below_drew1 | apply pw_below_drewN))) (by first | exact mk_C _ (by omega) _ | exact Kd.C_below (Kd.C_below (mk_C _ (by omega) _) (below_drew1 (Below.refl _ _))) HF5.out.bel) (Nat.le_refl _) (Nat.le_refl _) (by omega) (by omega)).mono ?_; rintro e w6 ⟨rfl, hf6, hk6⟩; have HFX := Aside0.mk (And.intro (HF5.out.below (by with_reducible repeat (first | exact Below.refl _ _ | apply below_alloc | apply below_drew1 | apply pw_below_drewN))) hk6)))
          all_goals (
            rename_i hHeld
            clear hHeld
            go_wp2
            go_ret
            exact ⟨by rw [HR2.out]; rfl, below_step (by with_reducible repeat (first | exact HB.out | apply below_alloc | apply below_drew1 | apply pw_below_drewN)) hf6.bel⟩)

end Go.Proofs.Ytjgnlakgojookaa.Q

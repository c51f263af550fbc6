/- Written by a program of this session (wip/tools/pp.py) out of the translation, with the kit's printer. -/
import Derived.Test.YtpinaeegopdknaaQ0
import Derived.Test.YtpinaeegopdknaaQ8
import Derived.Test.YtpinaeegopdknaaQ10
import Derived.Test.YtpinaeegopdknaaQ11
import Derived.Test.YtpinaeegopdknaaQGimplLatticetiles
import Derived.Test.YtpinaeegopdknaaVMap
namespace Go.Proofs.Ytpinaeegopdknaa.Q
open Go.RowKit Go.Proofs.YtpinaeegopdknaaW.PrintWords Go.Proofs.YtpinaeegopdknaaW.PrintLast Go.Proofs.YtpinaeegopdknaaW.PrintMore
attribute [local go_sem] max2_int min2_int max_two min_two max_three min_three max_four min_four
set_option linter.unusedVariables false
set_option linter.unusedSimpArgs false

/-! ### impl_PatchOf: walked by hand -/
theorem rng_wrap (x : Int) : rng (wrap64 x) = true := by
  unfold rng wrap64
  simp
  omega
def impl_PatchOf.o (a1_0 a1_1 a1_2 : Int) : List S43 → List ((Int × Int) × (Int × Int)) → Option (List ((Int × Int) × (Int × Int)))
  | [], L => some L
  | c :: r, L => (impl_Lattice_modulo.f a1_0 a1_1 a1_2 c.f0 c.f1).bind fun p => if (rng p.1 && rng p.2) = true then impl_PatchOf.o a1_0 a1_1 a1_2 r ((p, (c.f0, c.f1)) :: L) else none
def impl_PatchOf.ls (ls : List ((Int × Int) × Int)) (q : Int × Int) : List ((Int × Int) × Int) := if (mget ls q).isSome = true then ls else (q, 97 + (mlen ls : Int) % 26) :: ls
def impl_PatchOf.row (a1_0 a1_1 a1_2 : Int) (own : List ((Int × Int) × (Int × Int))) (y : Nat) : Nat → Nat → List ((Int × Int) × Int) → List Int → Option (List ((Int × Int) × Int) × List Int)
  | 0, _, ls, out => some (ls, out)
  | n + 1, x, ls, out => (impl_Lattice_modulo.f a1_0 a1_1 a1_2 (x : Int) (y : Int)).bind fun p => if (rng p.1 && rng p.2) = true ∧ out.length < 1000 ∧ ls.length < 1000 then
      impl_PatchOf.row a1_0 a1_1 a1_2 own y n (x + 1) (impl_PatchOf.ls ls (wrap64 ((x : Int) - ((mget own p).getD (0, 0)).1), wrap64 ((y : Int) - ((mget own p).getD (0, 0)).2)))
        (out ++ [((mget (impl_PatchOf.ls ls (wrap64 ((x : Int) - ((mget own p).getD (0, 0)).1), wrap64 ((y : Int) - ((mget own p).getD (0, 0)).2))) (wrap64 ((x : Int) - ((mget own p).getD (0, 0)).1), wrap64 ((y : Int) - ((mget own p).getD (0, 0)).2))).getD 0)])
    else none
def impl_PatchOf.rows (a1_0 a1_1 a1_2 : Int) (own : List ((Int × Int) × (Int × Int))) (wide : Nat) : Nat → Nat → List ((Int × Int) × Int) → List Int → Option (List Int)
  | 0, _, _, out => some out
  | n + 1, y, ls, out => if out.length < 1000 then (impl_PatchOf.row a1_0 a1_1 a1_2 own y wide 0 ls (if 0 < y then out ++ [47] else out)).bind fun z => impl_PatchOf.rows a1_0 a1_1 a1_2 own wide n (y + 1) z.1 z.2 else none
def impl_PatchOf.f (k : Nat) (l0 : List S43) (a1_0 : Int) (a1_1 : Int) (a1_2 : Int) (a2 : Int) (a3 : Int) : Option (ByteArray × Int) :=
  (impl_IsShape.f k l0).bind fun s => if s = true then (impl_IsLattice.f a1_0 a1_1 a1_2).bind fun q => if q = true then (impl_within.f a2 1 20).bind fun u => if u = true then (impl_within.f a3 1 20).bind fun v => if v = true then
    (impl_Lattice_tiles.f a1_0 a1_1 a1_2 l0).bind fun t => if t = true then (if 0 ≤ a2 ∧ a2 ≤ 20 ∧ 0 ≤ a3 ∧ a3 ≤ 20 then (impl_PatchOf.o a1_0 a1_1 a1_2 l0 []).bind fun own => (impl_PatchOf.rows a1_0 a1_1 a1_2 own a2.toNat a3.toNat 0 [] []).bind fun out => some (strOfNums out, 0) else none)
      else some ((⟨#[]⟩ : ByteArray), 5) else some ((⟨#[]⟩ : ByteArray), 2) else some ((⟨#[]⟩ : ByteArray), 2) else some ((⟨#[]⟩ : ByteArray), 2) else some ((⟨#[]⟩ : ByteArray), 1)
theorem impl_PatchOf.mono : ∀ a0 a1 a2 a3 a4 a5 k, LeO (impl_PatchOf.f k a0 a1 a2 a3 a4 a5) (impl_PatchOf.f (k + 1) a0 a1 a2 a3 a4 a5) := by
  intro a0 a1 a2 a3 a4 a5 k
  unfold impl_PatchOf.f
  exact LeO.bind (impl_IsShape.mono _ _) (fun _ => LeO.refl _)
theorem below_drew1 {B : Nat} {w W : World} (h : Below B w W) : Below B w W.drew := ⟨h.os, h.tape, h.output, h.size, h.block⟩
theorem R_map {α : Type} {d : Kd α} {e : Nat} {w : World} {base : Nat} {ok : Nat → Prop} {v : Value} {xs : List α} {κ ε : Type} {P : Program} {k : TypeId} {kv : κ → Value} {ev : ε → Value} {b : Nat} {L : List (κ × ε)} (h : d.R e w base ok v xs) (hv : VM P k kv ev w b L) : d.R e w base (fun k => ok k ∧ k ≠ b) v xs :=
  Kd.R_mono (Kd.R_bound h) (fun j hj => ⟨hj.1, fun e => by
    obtain ⟨es, cl, hm, _⟩ := hv.1
    obtain ⟨_, _, _, q, _, cells, hc⟩ := hj
    rw [e, hm] at hc
    cases hc⟩)
theorem R_map_grown {α : Type} {d : Kd α} {e : Nat} {w w1 : World} {base : Nat} {ok : Nat → Prop} {v : Value} {xs : List α} {κ ε : Type} {P : Program} {k : TypeId} {kv : κ → Value} {ev : ε → Value} {b : Nat} {L : List (κ × ε)} (h : d.R e w base ok v xs) (hv : VM P k kv ev w b L) (hg : w.grownBy w1 (some b)) : d.R e w1 base ok v xs :=
  Kd.R_mono (Kd.R_grown (R_map h hv) hg (fun _ hk e => hk.2 (Option.some.inj e))) (fun _ hk => hk.1)
theorem VM_ne {α : Type} {d : Kd α} {e : Nat} {w : World} {base : Nat} {ok : Nat → Prop} {v : Value} {xs : List α} {κ ε : Type} {P : Program} {k : TypeId} {kv : κ → Value} {ev : ε → Value} {b : Nat} {L : List (κ × ε)} (h : d.R e w base ok v xs) (hv : VM P k kv ev w b L) : some b ≠ v.ownBlock := fun e => (R_map h hv).1 b e.symm |>.2 rfl
theorem cell_put {w : World} {b n m : Nat} {L : List ((Int × Int) × (Int × Int))} (h : VM Try.prog 43 cellV cellV w b L) (hn : L.length = n) (hm : n < m) (hl : m ≤ 9223372036854775807) (p0 p1 c0 c1 : Int) (hr : (rng p0 && rng p1) = true) :
    ∃ w', Sem.run Try.prog (Instr.mapUpdate 48 (.map (some b)) (.agg #[.int .i64 p0, .int .i64 p1]) (.agg #[.int .i64 c0, .int .i64 c1])) w = .ok () w' ∧ VM Try.prog 43 cellV cellV w' b (((p0, p1), (c0, c1)) :: L) ∧ w.grownBy w' (some b) :=
  VM.put lawCell h Try.underlying48 (by unfold maxLen; omega) (x := (p0, p1)) (cell_key (p := (p0, p1)) (Bool.and_eq_true_iff.mp hr).1 (Bool.and_eq_true_iff.mp hr).2) (c0, c1)
set_option maxRecDepth 100000 in
set_option maxHeartbeats 8000000 in
theorem impl_PatchOf.calls (k : Nat) (A0 : Option Addr) (c0 : Nat) (l0 : List S43) (a1_0 : Int) (a1_1 : Int) (a1_2 : Int) (a2 : Int) (a3 : Int) (r1 : ByteArray) (r2 : Int) (w : World) (hr0 : Kd.C k43 w A0 l0.length l0) (hc0 : l0.length ≤ c0) (h : impl_PatchOf.f k l0 a1_0 a1_1 a1_2 a2 a3 = some (r1, r2)) :
    Calls Try.prog 9 #[.slice A0 l0.length c0, .agg #[.int .i64 a1_0, .int .i64 a1_1, .int .i64 a1_2], .int .i64 a2, .int .i64 a3] w fun e w' => e = .returned (.tuple #[.string r1, .int .i64 r2]) ∧ Below w.heap.size w w' := by
  have hlen := hr0.2.1
  have HR := Aside0.mk hr0
  have HC := Aside0.mk hc0
  clear hr0 hc0
  unfold impl_PatchOf.f at h
  obtain ⟨s, hs, h1⟩ := Option.bind_eq_some_iff.mp h
  clear h
  have HS := Aside0.mk hs
  clear hs
  have hmm := @run_makeMap Try.prog
  have hu28 := Try.underlying30
  have hu33 := Try.underlying43
  cases s with
  | false =>
    rw [if_neg (by decide)] at h1
    simp only [Option.some.injEq, Prod.mk.injEq] at h1
    obtain ⟨rfl, rfl⟩ := h1
    go_enter Try.func9, Try.ntmps9
    go_wp2_with (go_at_call 20; (with_reducible refine (impl_IsShape.calls k _ _ l0 _ _ (Kd.C_below HR.out (below_alloc (Below.refl _ _) _)) HC.out HS.out).mono ?_); rintro e w1 ⟨rfl, hb1⟩)
    go_ret2
    exact ⟨rfl, below_step (below_alloc (Below.refl _ _) _) hb1⟩
  | true =>
    rw [if_pos rfl] at h1
    obtain ⟨q, hq, h2⟩ := Option.bind_eq_some_iff.mp h1
    clear h1
    have HQ := Aside0.mk hq
    clear hq
    cases q with
    | false =>
      rw [if_neg (by decide)] at h2
      simp only [Option.some.injEq, Prod.mk.injEq] at h2
      obtain ⟨rfl, rfl⟩ := h2
      go_enter Try.func9, Try.ntmps9
      go_wp2_with (first
        | (go_at_call 20; (with_reducible refine (impl_IsShape.calls k _ _ l0 _ _ (Kd.C_below HR.out (below_alloc (Below.refl _ _) _)) HC.out HS.out).mono ?_); rintro e w1 ⟨rfl, hb1⟩; have HBX := Aside0.mk (blk_below (heap_alloc_new w (.cells #[.int .i64 a1_0, .int .i64 a1_1, .int .i64 a1_2] 30 (0, 0))) hb1); have HB1 := Aside0.mk (below_step (below_alloc (Below.refl w.heap.size w) _) hb1); clear hb1; have e0 := (blk_cell HBX.out 0).trans rfl; have e1 := (blk_cell HBX.out 1).trans rfl; have e2 := (blk_cell HBX.out 2).trans rfl)
        | (go_at_call 21; (with_reducible refine (impl_IsLattice.calls _ _ _ _ _ HQ.out).mono ?_); rintro e w2 ⟨rfl, hb2⟩; have HBY := Aside0.mk (blk_below HBX.out hb2); have HB2 := Aside0.mk (below_step HB1.out hb2); clear hb2; have g0 := (blk_cell HBY.out 0).trans rfl; have g1 := (blk_cell HBY.out 1).trans rfl; have g2 := (blk_cell HBY.out 2).trans rfl))
      go_ret2
      exact ⟨rfl, HB2.out⟩
    | true =>
      rw [if_pos rfl] at h2
      obtain ⟨u, hu, h3⟩ := Option.bind_eq_some_iff.mp h2
      clear h2
      have HU := Aside0.mk hu
      clear hu
      cases u with
      | false =>
        rw [if_neg (by decide)] at h3
        simp only [Option.some.injEq, Prod.mk.injEq] at h3
        obtain ⟨rfl, rfl⟩ := h3
        go_enter Try.func9, Try.ntmps9
        go_wp2_with (first
          | (go_at_call 20; (with_reducible refine (impl_IsShape.calls k _ _ l0 _ _ (Kd.C_below HR.out (below_alloc (Below.refl _ _) _)) HC.out HS.out).mono ?_); rintro e w1 ⟨rfl, hb1⟩; have HBX := Aside0.mk (blk_below (heap_alloc_new w (.cells #[.int .i64 a1_0, .int .i64 a1_1, .int .i64 a1_2] 30 (0, 0))) hb1); have HB1 := Aside0.mk (below_step (below_alloc (Below.refl w.heap.size w) _) hb1); clear hb1; have e0 := (blk_cell HBX.out 0).trans rfl; have e1 := (blk_cell HBX.out 1).trans rfl; have e2 := (blk_cell HBX.out 2).trans rfl)
          | (go_at_call 21; (with_reducible refine (impl_IsLattice.calls _ _ _ _ _ HQ.out).mono ?_); rintro e w2 ⟨rfl, hb2⟩; have HBY := Aside0.mk (blk_below HBX.out hb2); have HB2 := Aside0.mk (below_step HB1.out hb2); clear hb2; have g0 := (blk_cell HBY.out 0).trans rfl; have g1 := (blk_cell HBY.out 1).trans rfl; have g2 := (blk_cell HBY.out 2).trans rfl)
          | (go_at_call 22; (with_reducible refine (impl_within.calls _ _ _ _ _ HU.out).mono ?_); rintro e w3 ⟨rfl, hd3⟩; have HB3 := Aside0.mk (below_step HB2.out hd3.below)))
        go_ret2
        exact ⟨rfl, HB3.out⟩
      | true =>
        rw [if_pos rfl] at h3
        obtain ⟨v, hv, h4⟩ := Option.bind_eq_some_iff.mp h3
        clear h3
        have HW := Aside0.mk hv
        clear hv
        cases v with
        | false =>
          rw [if_neg (by decide)] at h4
          simp only [Option.some.injEq, Prod.mk.injEq] at h4
          obtain ⟨rfl, rfl⟩ := h4
          go_enter Try.func9, Try.ntmps9
          go_wp2_with (first
            | (go_at_call 20; (with_reducible refine (impl_IsShape.calls k _ _ l0 _ _ (Kd.C_below HR.out (below_alloc (Below.refl _ _) _)) HC.out HS.out).mono ?_); rintro e w1 ⟨rfl, hb1⟩; have HBX := Aside0.mk (blk_below (heap_alloc_new w (.cells #[.int .i64 a1_0, .int .i64 a1_1, .int .i64 a1_2] 30 (0, 0))) hb1); have HB1 := Aside0.mk (below_step (below_alloc (Below.refl w.heap.size w) _) hb1); clear hb1; have e0 := (blk_cell HBX.out 0).trans rfl; have e1 := (blk_cell HBX.out 1).trans rfl; have e2 := (blk_cell HBX.out 2).trans rfl)
            | (go_at_call 21; (with_reducible refine (impl_IsLattice.calls _ _ _ _ _ HQ.out).mono ?_); rintro e w2 ⟨rfl, hb2⟩; have HBY := Aside0.mk (blk_below HBX.out hb2); have HB2 := Aside0.mk (below_step HB1.out hb2); clear hb2; have g0 := (blk_cell HBY.out 0).trans rfl; have g1 := (blk_cell HBY.out 1).trans rfl; have g2 := (blk_cell HBY.out 2).trans rfl)
            | (go_at_call 22; (with_reducible refine (impl_within.calls a2 _ _ _ _ HU.out).mono ?_); rintro e w3 ⟨rfl, hd3⟩; have HB3 := Aside0.mk (below_step HB2.out hd3.below); have HBOX3 := Aside0.mk (blk_below HBY.out hd3.below); clear hd3; have q30 := (blk_cell HBOX3.out 0).trans rfl; have q31 := (blk_cell HBOX3.out 1).trans rfl; have q32 := (blk_cell HBOX3.out 2).trans rfl)
            | (go_at_call 22; (with_reducible refine (impl_within.calls a3 _ _ _ _ HW.out).mono ?_); rintro e w4 ⟨rfl, hd4⟩; have HB4 := Aside0.mk (below_step HB3.out hd4.below); have HBOX4 := Aside0.mk (blk_below HBOX3.out hd4.below); clear hd4; have q40 := (blk_cell HBOX4.out 0).trans rfl; have q41 := (blk_cell HBOX4.out 1).trans rfl; have q42 := (blk_cell HBOX4.out 2).trans rfl))
          go_ret2
          exact ⟨rfl, HB4.out⟩
        | true =>
          rw [if_pos rfl] at h4
          obtain ⟨t, ht, h5⟩ := Option.bind_eq_some_iff.mp h4
          clear h4
          have HT := Aside0.mk ht
          clear ht
          cases t with
          | false =>
            rw [if_neg (by decide)] at h5
            simp only [Option.some.injEq, Prod.mk.injEq] at h5
            obtain ⟨rfl, rfl⟩ := h5
            go_enter Try.func9, Try.ntmps9
            go_wp2_with (first
              | (go_at_call 20; (with_reducible refine (impl_IsShape.calls k _ _ l0 _ _ (Kd.C_below HR.out (below_alloc (Below.refl _ _) _)) HC.out HS.out).mono ?_); rintro e w1 ⟨rfl, hb1⟩; have HBX := Aside0.mk (blk_below (heap_alloc_new w (.cells #[.int .i64 a1_0, .int .i64 a1_1, .int .i64 a1_2] 30 (0, 0))) hb1); have HB1 := Aside0.mk (below_step (below_alloc (Below.refl w.heap.size w) _) hb1); clear hb1; have e0 := (blk_cell HBX.out 0).trans rfl; have e1 := (blk_cell HBX.out 1).trans rfl; have e2 := (blk_cell HBX.out 2).trans rfl)
              | (go_at_call 21; (with_reducible refine (impl_IsLattice.calls _ _ _ _ _ HQ.out).mono ?_); rintro e w2 ⟨rfl, hb2⟩; have HBY := Aside0.mk (blk_below HBX.out hb2); have HB2 := Aside0.mk (below_step HB1.out hb2); clear hb2; have g0 := (blk_cell HBY.out 0).trans rfl; have g1 := (blk_cell HBY.out 1).trans rfl; have g2 := (blk_cell HBY.out 2).trans rfl)
              | (go_at_call 22; (with_reducible refine (impl_within.calls a2 _ _ _ _ HU.out).mono ?_); rintro e w3 ⟨rfl, hd3⟩; have HB3 := Aside0.mk (below_step HB2.out hd3.below); have HBOX3 := Aside0.mk (blk_below HBY.out hd3.below); clear hd3; have q30 := (blk_cell HBOX3.out 0).trans rfl; have q31 := (blk_cell HBOX3.out 1).trans rfl; have q32 := (blk_cell HBOX3.out 2).trans rfl)
              | (go_at_call 22; (with_reducible refine (impl_within.calls a3 _ _ _ _ HW.out).mono ?_); rintro e w4 ⟨rfl, hd4⟩; have HB4 := Aside0.mk (below_step HB3.out hd4.below); have HBOX4 := Aside0.mk (blk_below HBOX3.out hd4.below); clear hd4; have q40 := (blk_cell HBOX4.out 0).trans rfl; have q41 := (blk_cell HBOX4.out 1).trans rfl; have q42 := (blk_cell HBOX4.out 2).trans rfl)
              | (go_at_call 23; (with_reducible refine (impl_Lattice_tiles.calls _ _ _ _ _ l0 _ _ (Kd.C_below HR.out HB4.out) HC.out HT.out).mono ?_); rintro e w5 ⟨rfl, hb5⟩; have HB5 := Aside0.mk (below_step HB4.out hb5); have HBOX5 := Aside0.mk (blk_below HBOX4.out hb5); clear hb5))
            go_ret2
            exact ⟨rfl, HB5.out⟩
          | true =>
            rw [if_pos rfl] at h5
            split at h5
            case isFalse => exact absurd h5 (by simp)
            rename_i hsz
            obtain ⟨own, ho, h6⟩ := Option.bind_eq_some_iff.mp h5
            clear h5
            obtain ⟨outF, hf, h7⟩ := Option.bind_eq_some_iff.mp h6
            clear h6
            simp only [Option.some.injEq, Prod.mk.injEq] at h7
            obtain ⟨rfl, rfl⟩ := h7
            obtain ⟨m2, rfl⟩ : ∃ m : Nat, a2 = (m : Int) := ⟨a2.toNat, by omega⟩
            obtain ⟨m3, rfl⟩ : ∃ m : Nat, a3 = (m : Int) := ⟨a3.toNat, by omega⟩
            simp only [Int.toNat_natCast] at hf
            have HO := Aside0.mk ho
            have HF := Aside0.mk hf
            clear ho hf
            go_enter Try.func9, Try.ntmps9
            go_wp2_with (first
              | (go_at_call 20; (with_reducible refine (impl_IsShape.calls k _ _ l0 _ _ (Kd.C_below HR.out (below_alloc (Below.refl _ _) _)) HC.out HS.out).mono ?_); rintro e w1 ⟨rfl, hb1⟩; have HBX := Aside0.mk (blk_below (heap_alloc_new w (.cells #[.int .i64 a1_0, .int .i64 a1_1, .int .i64 a1_2] 30 (0, 0))) hb1); have HB1 := Aside0.mk (below_step (below_alloc (Below.refl w.heap.size w) _) hb1); clear hb1; have e0 := (blk_cell HBX.out 0).trans rfl; have e1 := (blk_cell HBX.out 1).trans rfl; have e2 := (blk_cell HBX.out 2).trans rfl)
              | (go_at_call 21; (with_reducible refine (impl_IsLattice.calls _ _ _ _ _ HQ.out).mono ?_); rintro e w2 ⟨rfl, hb2⟩; have HBY := Aside0.mk (blk_below HBX.out hb2); have HB2 := Aside0.mk (below_step HB1.out hb2); clear hb2; have g0 := (blk_cell HBY.out 0).trans rfl; have g1 := (blk_cell HBY.out 1).trans rfl; have g2 := (blk_cell HBY.out 2).trans rfl)
              | (go_at_call 22; (with_reducible refine (impl_within.calls (m2 : Int) _ _ _ _ HU.out).mono ?_); rintro e w3 ⟨rfl, hd3⟩; have HB3 := Aside0.mk (below_step HB2.out hd3.below); have HBOX3 := Aside0.mk (blk_below HBY.out hd3.below); clear hd3; have q30 := (blk_cell HBOX3.out 0).trans rfl; have q31 := (blk_cell HBOX3.out 1).trans rfl; have q32 := (blk_cell HBOX3.out 2).trans rfl)
              | (go_at_call 22; (with_reducible refine (impl_within.calls (m3 : Int) _ _ _ _ HW.out).mono ?_); rintro e w4 ⟨rfl, hd4⟩; have HB4 := Aside0.mk (below_step HB3.out hd4.below); have HBOX4 := Aside0.mk (blk_below HBOX3.out hd4.below); clear hd4; have q40 := (blk_cell HBOX4.out 0).trans rfl; have q41 := (blk_cell HBOX4.out 1).trans rfl; have q42 := (blk_cell HBOX4.out 2).trans rfl)
              | (go_at_call 23; (with_reducible refine (impl_Lattice_tiles.calls _ _ _ _ _ l0 _ _ (Kd.C_below HR.out HB4.out) HC.out HT.out).mono ?_); rintro e w5 ⟨rfl, hb5⟩; have HB5 := Aside0.mk (below_step HB4.out hb5); have HBOX5 := Aside0.mk (blk_below HBOX4.out hb5); clear hb5))
            go_loopw [44] (fun i wr => ∃ (kk : Nat) (L : List ((Int × Int) × (Int × Int))), kk ≤ l0.length ∧ i = .int .i64 kk ∧ Aside0 (impl_PatchOf.o a1_0 a1_1 a1_2 (l0.drop kk) L = some own) ∧ Aside0 (L.length = kk) ∧ Aside0 (VM Try.prog 43 cellV cellV wr w5.heap.size L) ∧ Aside0 (wr.heap[w.heap.size]? = some (.cells #[.int .i64 a1_0, .int .i64 a1_1, .int .i64 a1_2] 30 (0, 0))) ∧ Aside0 (Below w.heap.size w wr)) (fun i _ => l0.length - (intOf i).toNat)
            case atStart => exact ⟨0, [], Nat.zero_le _, rfl, HO, ⟨rfl⟩, ⟨VM.made (P := Try.prog) (k := 43) (kv := cellV) (ev := cellV) w5⟩, ⟨blk_alloc HBOX5.out _⟩, ⟨below_alloc HB5.out _⟩⟩
            case round =>
              obtain ⟨kk, L, hk, rfl, HG, HN, HV, HX0, HB⟩ := hrel
              by_cases hlt : kk < l0.length
              · obtain ⟨ad, e, h0, h1⟩ := at_T43 (Kd.C_below HR.out HB.out) (kk : Int) (by omega) (by omega)
                have hd : l0.drop kk = rd_T43 l0 kk :: l0.drop (kk + 1) := by
                  rw [List.drop_eq_getElem_cons hlt]
                  simp [rd_T43, List.getD_eq_getElem?_getD, List.getElem?_eq_getElem hlt]
                have HG2 := HG.out
                rw [hd] at HG2
                clear hd
                unfold impl_PatchOf.o at HG2
                obtain ⟨p, hp, HG3⟩ := Option.bind_eq_some_iff.mp HG2
                clear HG2
                split at HG3
                case isFalse => exact absurd HG3 (by simp)
                rename_i hrg
                have HRG := Aside0.mk hrg
                have HP := Aside0.mk hp
                have HG4 := Aside0.mk HG3
                clear hrg hp HG3
                have HX1 := Aside0.mk (blk_alloc HX0.out (.cells #[.int .i64 (rd_T43 l0 kk).f0, .int .i64 (rd_T43 l0 kk).f1] 43))
                have HC1 := Aside0.mk (heap_alloc_new wr (.cells #[.int .i64 (rd_T43 l0 kk).f0, .int .i64 (rd_T43 l0 kk).f1] 43))
                have x0 := (blk_cell HX1.out 0).trans rfl
                have x1 := (blk_cell HX1.out 1).trans rfl
                have x2 := (blk_cell HX1.out 2).trans rfl
                subst e
                rw [Int.toNat_natCast] at h0 h1
                obtain ⟨p0, p1⟩ := p
                go_upto_region 11 with (fail)
                go_region_with (first
                  | (go_at_call 24; (with_reducible refine (impl_Lattice_modulo.calls _ _ _ _ _ _ _ _ HP.out).mono ?_); rintro e w6 ⟨rfl, hb6⟩; have HV1 := Aside0.mk (VM.below (by repeat (first | exact VM.alloc HV.out _ | with_reducible apply VM.drew | with_reducible apply VM.drewN)) hb6); have HC6 := Aside0.mk (blk_below (by exact HC1.out) hb6); have HX2 := Aside0.mk (blk_below (by exact HX1.out) hb6); have HB6 := Aside0.mk (below_step (by with_reducible repeat (first | exact HB.out | apply below_alloc | apply below_drew1 | apply pw_below_drewN)) hb6); clear hb6; have y0 := (blk_cell HC6.out 0).trans rfl; have y1 := (blk_cell HC6.out 1).trans rfl; obtain ⟨wa, ra, va, ga⟩ := cell_put HV1.out HN.out hlt hlen p0 p1 (rd_T43 l0 kk).f0 (rd_T43 l0 kk).f1 HRG.out; obtain ⟨wb, rb, vb, gb⟩ := cell_put (VM.drew HV1.out) HN.out hlt hlen p0 p1 (rd_T43 l0 kk).f0 (rd_T43 l0 kk).f1 HRG.out; have VA := Aside0.mk va; have VB := Aside0.mk vb; clear va vb)
                    | fail)
                all_goals (
                  have hl5 := blk_lt HBOX5.out
                  have XA := Aside0.mk (blk_grown HX2.out ga (by simp; omega))
                  have XB := Aside0.mk (blk_grown (w := World.drew _) HX2.out gb (by simp; omega))
                  have hs6 := HB6.out.size
                  have BA := Aside0.mk (HB6.out.grown ga (by omega) (fun k hk => by cases hk; omega))
                  have BB := Aside0.mk ((below_drew1 HB6.out).grown gb (by have := (below_drew1 HB6.out).size; omega) (fun k hk => by cases hk; omega))
                  clear ra rb ga gb hs6 hl5
                  go_wp2
                  go_roundw
                  case rel => first
                    | exact ⟨kk + 1, (((p0, p1), ((rd_T43 l0 kk).f0, (rd_T43 l0 kk).f1)) :: L), by omega, by go_num, HG4, ⟨by simp [HN.out]⟩, VA, XA, BA⟩
                    | exact ⟨kk + 1, (((p0, p1), ((rd_T43 l0 kk).f0, (rd_T43 l0 kk).f1)) :: L), by omega, by go_num, HG4, ⟨by simp [HN.out]⟩, VB, XB, BB⟩
                  case measure => simp [intOf]; omega)
              · have hkl : kk = l0.length := by omega
                have HG2 := HG.out
                rw [hkl, List.drop_length] at HG2
                obtain rfl : L = own := Option.some.inj HG2
                clear HG2 hkl
                go_wp2_with (first
                  | ((with_reducible refine gate_dst (N := 55) rfl ?_); refine Kd.R_lit (Kd.int .u8) _ 5 ?hg (N := 55) ?hd (xs := ([] : List Int)) (inner := []) (ok := fun _ => True) (okp := fun _ => True) ?hr ?hp (fun _ hk => hk) trivial (Below.refl _ _) (Nat.le_refl _) (by simp) ?_; (case hd => rfl); (case hg => rfl); (case hr => first | (go_simp; done) | (go_simp; rfl)); (case hp => exact (Reps.none _ _)); intro v7 w7 ho7 hb7 hg_ hnew_; clear hg_ hnew_; have HL7 := Aside0.mk ho7; have HVO := Aside0.mk (VM.below (VM.alloc HV.out _) hb7); have HVL := Aside0.mk (VM.below (VM.made (P := Try.prog) (k := 43) (kv := cellV) (ev := fun x : Int => Value.int .u8 x) wr) hb7); have HX7 := Aside0.mk (blk_below (blk_alloc HX0.out _) hb7); have HB7 := Aside0.mk (below_step (below_alloc HB.out _) hb7); clear ho7 hb7))
                have hwl0 : w5.heap.size < wr.heap.size := VM.lt HV.out
                have hw5 := HB5.out.size
                obtain ⟨lb, hlb⟩ : ∃ lb, lb = wr.heap.size := ⟨_, rfl⟩
                rw [← hlb] at HVL hwl0
                have hlb1 : lb + 1 ≤ (wr.alloc (Obj.map #[] 0)).heap.size := by rw [hlb]; simp
                have HL8 := Aside0.mk (Kd.R_lower HL7.out hlb1)
                rw [← hlb]
                clear hlb hlb1
                go_loopw [14, 57] (fun v14 i w8 => ∃ (yy : Nat) (ls : List ((Int × Int) × Int)) (out : List Int), yy ≤ m3 ∧ i = .int .i64 yy ∧ Aside0 (impl_PatchOf.rows a1_0 a1_1 a1_2 L m2 (m3 - yy) yy ls out = some outF) ∧ Aside0 (VM Try.prog 43 cellV cellV w8 w5.heap.size L) ∧ Aside0 (VM Try.prog 43 cellV (fun x : Int => Value.int .u8 x) w8 lb ls) ∧ Aside0 ((Kd.int .u8).R 5 w8 (lb + 1) (fun _ => True) v14 out) ∧ Aside0 (w8.heap[w.heap.size]? = some (.cells #[.int .i64 a1_0, .int .i64 a1_1, .int .i64 a1_2] 30 (0, 0))) ∧ Aside0 (Below w.heap.size w w8)) (fun _ i _ => m3 - (intOf i).toNat)
                case atStart => exact ⟨0, [], [], Nat.zero_le _, rfl, HF, HVO, HVL, HL8, HX7, HB7⟩
                case round =>
                  clear HL7 HL8 HVO HVL HX7 HB7
                  obtain ⟨yy, ls, out, hy, rfl, HFy, HV8, HL8, HO8, HX8, HB8⟩ := hrel
                  obtain ⟨Ao, co, eo⟩ := Kd.R_slice HO8.out
                  subst eo
                  by_cases hyl : yy < m3
                  · have hs : m3 - yy = (m3 - (yy + 1)) + 1 := by omega
                    have HF2 := HFy.out
                    rw [hs, impl_PatchOf.rows] at HF2
                    clear hs
                    split at HF2
                    case isFalse => exact absurd HF2 (by simp)
                    rename_i hol
                    obtain ⟨⟨ls2, out2⟩, hrow, hrest⟩ := Option.bind_eq_some_iff.mp HF2
                    have HROW := Aside0.mk hrow
                    have HREST := Aside0.mk hrest
                    clear HF2 hrow hrest
                    obtain ⟨out1, hout1⟩ : ∃ o, o = (if 0 < yy then out ++ [47] else out) := ⟨_, rfl⟩
                    rw [← hout1] at HROW
                    go_upto_if 61 with (fail)
                    go_cut [14] (fun v14 wc => Aside0 (VM Try.prog 43 cellV cellV wc w5.heap.size L) ∧ Aside0 (VM Try.prog 43 cellV (fun x : Int => Value.int .u8 x) wc lb ls) ∧ Aside0 ((Kd.int .u8).R 5 wc (lb + 1) (fun _ => True) v14 out1) ∧ Aside0 (wc.heap[w.heap.size]? = some (.cells #[.int .i64 a1_0, .int .i64 a1_1, .int .i64 a1_2] 30 (0, 0))) ∧ Aside0 (Below w.heap.size w wc))
                    case first =>
                      by_cases hy0 : 0 < yy
                      · rw [if_pos hy0] at hout1
                        subst hout1
                        have hrow8 := Kd.R_base HO8.out
                        have hs8 := HB8.out.size
                        go_wp2_with (first | ((with_reducible refine gate_builtin (b := .append) (xs := #[.tmp 62, .tmp 63]) rfl ?_); at_builtin; refine Kd.R_append (Kd.int .u8) (w0 := wr) (lb + 1) rfl (.tmp 62) (.tmp 63) 34 5 (.int .u8 0) 1 rfl Try.underlying34 info5 rfl (by decide) (by omega) (.slice Ao out.length co) out (47 : Int) [.int .u8 47] (fun _ => True) (fun _ => False) rfl rfl ?aP (fun _ hk => hk.elim) ?aF ?aO ?aB ?aS ?aL ?_; (case aP => exact rfl); (case aB => with_reducible repeat (first | exact Below.refl _ _ | apply below_alloc | apply below_drew1)); (case aF => exact fun _ _ => trivial); (case aO => exact (by (with_reducible repeat (first | apply Kd.R_alloc | apply Kd.R_drew)); exact HO8.out)); (case aS => have hlt8 := VM.lt HL8.out; first | omega | (simp; omega)); (case aL => omega); intro v216 w32 ho hb hg hat; have HOA := Aside0.mk ho; have HBA := Aside0.mk hb; have HGA := Aside0.mk hg; clear ho hb hg hat))
                        go_meet
                        case rel => exact ⟨⟨VM.kept HV8.out HGA.out (VM_ne HO8.out HV8.out)⟩, ⟨VM.kept HL8.out HGA.out (VM_ne HO8.out HL8.out)⟩, HOA, ⟨(HGA.out.block w.heap.size (blk_lt HX8.out) (fun e => by have := hrow8 _ e.symm; omega)).trans HX8.out⟩, ⟨HB8.out.grown HGA.out hs8 (fun k hk => by have := hrow8 k hk; omega)⟩⟩
                      · rw [if_neg hy0] at hout1
                        subst hout1
                        go_wp2
                        go_meet
                        case rel => exact ⟨HV8, HL8, HO8, HX8, HB8⟩
                    case rest =>
                      clear HV8 HL8 HO8 HX8 HB8 hout1
                      obtain ⟨HV9, HL9, HO9, HX9, HB9⟩ := hcut
                      have HROW9 := HROW
                      clear HROW
                      go_wp2
                      go_loopw [14, 66] (fun v14 i w9 => ∃ (xx : Nat) (ls3 : List ((Int × Int) × Int)) (out3 : List Int), xx ≤ m2 ∧ i = .int .i64 xx ∧ Aside0 (impl_PatchOf.row a1_0 a1_1 a1_2 L yy (m2 - xx) xx ls3 out3 = some (ls2, out2)) ∧ Aside0 (VM Try.prog 43 cellV cellV w9 w5.heap.size L) ∧ Aside0 (VM Try.prog 43 cellV (fun x : Int => Value.int .u8 x) w9 lb ls3) ∧ Aside0 ((Kd.int .u8).R 5 w9 (lb + 1) (fun _ => True) v14 out3) ∧ Aside0 (w9.heap[w.heap.size]? = some (.cells #[.int .i64 a1_0, .int .i64 a1_1, .int .i64 a1_2] 30 (0, 0))) ∧ Aside0 (Below w.heap.size w w9)) (fun _ i _ => m2 - (intOf i).toNat)
                      case atStart => exact ⟨0, ls, out1, Nat.zero_le _, rfl, HROW9, HV9, HL9, HO9, HX9, HB9⟩
                      case round =>
                        clear HV9 HL9 HO9 HX9 HB9 HROW9
                        obtain ⟨xx, ls3, out3, hx, rfl, HF3, HV3, HL3, HO3, HX3, HB3⟩ := hrel
                        obtain ⟨A3, c3, e3⟩ := Kd.R_slice HO3.out
                        subst e3
                        by_cases hxl : xx < m2
                        · have hs : m2 - xx = (m2 - (xx + 1)) + 1 := by omega
                          have HF4 := HF3.out
                          rw [hs, impl_PatchOf.row] at HF4
                          clear hs
                          obtain ⟨⟨p0, p1⟩, hp, HF5⟩ := Option.bind_eq_some_iff.mp HF4
                          clear HF4
                          split at HF5
                          case isFalse => exact absurd HF5 (by simp)
                          rename_i hcd
                          obtain ⟨hrg, ho3, hl3⟩ := hcd
                          have HP := Aside0.mk hp
                          have HF6 := Aside0.mk HF5
                          have HRG := Aside0.mk hrg
                          clear hp HF5 hrg
                          obtain ⟨cc0, cc1, hcc⟩ : ∃ c0 c1 : Int, (mget L (p0, p1)).getD (0, 0) = (c0, c1) := ⟨_, _, rfl⟩
                          have HCC := Aside0.mk hcc
                          rw [hcc] at HF6
                          have hq0 : ∃ q0, q0 = wrap64 ((xx : Int) - cc0) := ⟨_, rfl⟩
                          have hq1 : ∃ q1, q1 = wrap64 ((yy : Int) - cc1) := ⟨_, rfl⟩
                          obtain ⟨q0, hq0⟩ := hq0
                          obtain ⟨q1, hq1⟩ := hq1
                          simp only at HF6
                          rw [← hq0, ← hq1] at HF6
                          clear hcc
                          have x0 := (blk_cell HX3.out 0).trans rfl
                          have x1 := (blk_cell HX3.out 1).trans rfl
                          have x2 := (blk_cell HX3.out 2).trans rfl
                          go_upto_region 23 with (fail)
                          go_cut [17] (fun v17 wc => ∃ g : Nat, v17 = .pointer (some ⟨g, 0, none⟩) ∧ Aside0 (wc.heap[g]? = some (.cells #[.int .i64 cc0, .int .i64 cc1] 43 (0, 0))) ∧ Aside0 (VM Try.prog 43 cellV cellV wc w5.heap.size L) ∧ Aside0 (VM Try.prog 43 cellV (fun x : Int => Value.int .u8 x) wc lb ls3) ∧ Aside0 ((Kd.int .u8).R 5 wc (lb + 1) (fun _ => True) (.slice A3 out3.length c3) out3) ∧ Aside0 (wc.heap[w.heap.size]? = some (.cells #[.int .i64 a1_0, .int .i64 a1_1, .int .i64 a1_2] 30 (0, 0))) ∧ Aside0 (Below w.heap.size w wc))
                          case first =>
                            go_wp2_with (first
                              | (go_at_call 24; (with_reducible refine (impl_Lattice_modulo.calls _ _ _ _ _ _ _ _ HP.out).mono ?_); rintro e w10 ⟨rfl, hb10⟩; have HV10 := Aside0.mk (VM.below HV3.out hb10); have HBB := Aside0.mk hb10; have hlk : (Instr.lookup 48 (.map (some w5.heap.size)) (.agg #[.int .i64 p0, .int .i64 p1]) false).run Try.prog w10 = .ok (.agg #[.int .i64 cc0, .int .i64 cc1]) w10 := (VM.look lawCell cellV_inj HV10.out Try.underlying48 (z := cellV (0, 0)) (by first | kernel_rfl | rfl) (x := (p0, p1)) (cell_key (p := (p0, p1)) (Bool.and_eq_true_iff.mp HRG.out).1 (Bool.and_eq_true_iff.mp HRG.out).2)).trans (by rw [show (((mget L (p0, p1)).map cellV).getD (cellV (0, 0))) = cellV ((mget L (p0, p1)).getD (0, 0)) by cases mget L (p0, p1) <;> rfl, HCC.out]; rfl)))
                            go_meet
                            case rel => exact ⟨_, rfl, ⟨heap_alloc_new w10 _⟩, ⟨VM.alloc HV10.out _⟩, ⟨VM.alloc (VM.below HL3.out HBB.out) _⟩, ⟨Kd.R_alloc (Kd.R_below HO3.out HBB.out) _⟩, ⟨blk_alloc (blk_below HX3.out HBB.out) _⟩, ⟨below_alloc (below_step HB3.out HBB.out) _⟩⟩
                          case rest =>
                            clear HV3 HL3 HO3 HX3 HB3 x0 x1 x2
                            obtain ⟨g17, rfl, HG17, HVA, HLA, HOA3, HXA, HBA3⟩ := hcut
                            have y0 := (blk_cell HG17.out 0).trans rfl
                            have y1 := (blk_cell HG17.out 1).trans rfl
                            go_upto_region 24 with (fail)
                            go_cut [18] (fun v18 wc => ∃ g : Nat, v18 = .pointer (some ⟨g, 0, none⟩) ∧ Aside0 (wc.heap[g]? = some (.cells #[.int .i64 q0, .int .i64 q1] 43 (0, 0))) ∧ Aside0 (VM Try.prog 43 cellV cellV wc w5.heap.size L) ∧ Aside0 (VM Try.prog 43 cellV (fun x : Int => Value.int .u8 x) wc lb ls3) ∧ Aside0 ((Kd.int .u8).R 5 wc (lb + 1) (fun _ => True) (.slice A3 out3.length c3) out3) ∧ Aside0 (wc.heap[w.heap.size]? = some (.cells #[.int .i64 a1_0, .int .i64 a1_1, .int .i64 a1_2] 30 (0, 0))) ∧ Aside0 (Below w.heap.size w wc))
                            case first =>
                              have hq0' := hq0.symm
                              have hq1' := hq1.symm
                              clear hq0 hq1
                              go_wp2
                              go_meet
                              case rel => exact ⟨_, rfl, ⟨heap_alloc_new _ _⟩, ⟨VM.alloc HVA.out _⟩, ⟨VM.alloc HLA.out _⟩, ⟨Kd.R_alloc HOA3.out _⟩, ⟨blk_alloc HXA.out _⟩, ⟨below_alloc HBA3.out _⟩⟩
                            case rest =>
                              clear HG17 HVA HLA HOA3 HXA HBA3 y0 y1
                              obtain ⟨g18, rfl, HG18, HVB, HLB, HOB, HXB, HBB3⟩ := hcut
                              have hkq : KOk Try.prog 43 cellV (q0, q1) := cell_key (p := (q0, q1)) (by rw [hq0]; exact rng_wrap _) (by rw [hq1]; exact rng_wrap _)
                              have z0 := (blk_cell HG18.out 0).trans rfl
                              have z1 := (blk_cell HG18.out 1).trans rfl
                              have hlo := VM.look_ok lawCell cellV_inj HLB.out Try.underlying50 (z := .int .u8 0) (by first | kernel_rfl | rfl) (x := (q0, q1)) hkq
                              have hlen3 := HLB.out.len lawCell cellV_inj Try.underlying50 3
                              dsimp only [cellV] at hlo
                              obtain ⟨u0, hu0⟩ : ∃ u, ((mget ls3 (q0, q1)).map (fun x : Int => Value.int .u8 x)).getD (.int .u8 0) = u := ⟨_, rfl⟩
                              rw [hu0] at hlo
                              obtain ⟨kn, hkn⟩ : ∃ b, (mget ls3 (q0, q1)).isSome = b := ⟨_, rfl⟩
                              have HKN := Aside0.mk hkn
                              rw [hkn] at hlo
                              have hml3 := mlen_le ls3
                              have hsB : w.heap.size < lb := by omega
                              have VG18 := Aside0.mk (show g18 ≠ lb from fun e => by
                                obtain ⟨es, cl, hm, _⟩ := HLB.out.1
                                have h2 := HG18.out
                                rw [e, hm] at h2
                                cases h2)
                              clear hu0 hkn hq0 hq1
                              go_upto_if 92 with (fail)
                              go_cut [] (fun wc => Aside0 (wc.heap[g18]? = some (.cells #[.int .i64 q0, .int .i64 q1] 43 (0, 0))) ∧ Aside0 (VM Try.prog 43 cellV cellV wc w5.heap.size L) ∧ Aside0 (VM Try.prog 43 cellV (fun x : Int => Value.int .u8 x) wc lb (impl_PatchOf.ls ls3 (q0, q1))) ∧ Aside0 ((Kd.int .u8).R 5 wc (lb + 1) (fun _ => True) (.slice A3 out3.length c3) out3) ∧ Aside0 (wc.heap[w.heap.size]? = some (.cells #[.int .i64 a1_0, .int .i64 a1_1, .int .i64 a1_2] 30 (0, 0))) ∧ Aside0 (Below w.heap.size w wc))
                              case first =>
                                cases kn with
                                | true =>
                                  go_wp2
                                  go_meet
                                  case rel =>
                                    have e : impl_PatchOf.ls ls3 (q0, q1) = ls3 := by unfold impl_PatchOf.ls; rw [if_pos HKN.out]
                                    rw [e]
                                    exact ⟨HG18, HVB, HLB, HOB, HXB, HBB3⟩
                                | false =>
                                  obtain ⟨n3, hn3⟩ : ∃ n, mlen ls3 = n := ⟨_, rfl⟩
                                  rw [hn3] at hlen3 hml3
                                  have HN3 := Aside0.mk hn3
                                  clear hn3
                                  go_wp2_with (first
                                    | (at_mapUpdate; refine wpList_vm_put rfl _ _ _ 50 rfl 5 lawCell Try.underlying50 HLB.out rfl (by unfold maxLen; omega) (q0, q1) _ rfl rfl hkq ?_; intro w2 hv2 hg2; have HV2 := Aside0.mk hv2; have HG2 := Aside0.mk hg2; clear hv2 hg2))
                                  go_meet
                                  case rel =>
                                    have e : impl_PatchOf.ls ls3 (q0, q1) = ((q0, q1), 97 + (n3 : Int) % 26) :: ls3 := by unfold impl_PatchOf.ls; rw [if_neg (by rw [HKN.out]; simp), HN3.out]
                                    rw [e]
                                    have hw : w.heap.size ≠ lb := by have := hsB; omega
                                    exact ⟨⟨(HG2.out.block g18 (blk_lt HG18.out) (fun e => VG18.out (Option.some.inj e))).trans HG18.out⟩, ⟨VM.kept HVB.out HG2.out (fun e => by have := Option.some.inj e; omega)⟩, HV2, ⟨R_map_grown HOB.out HLB.out HG2.out⟩, ⟨(HG2.out.block w.heap.size (blk_lt HXB.out) (fun e => hw (Option.some.inj e))).trans HXB.out⟩, ⟨HBB3.out.grown HG2.out HBB3.out.size (fun k hk => by cases hk; omega)⟩⟩
                              case rest =>
                                clear HG18 HVB HLB HOB HXB HBB3 z0 z1 hlo hlen3
                                obtain ⟨HG19, HVC, HLC, HOC, HXC, HBC3⟩ := hcut
                                have z0 := (blk_cell HG19.out 0).trans rfl
                                have z1 := (blk_cell HG19.out 1).trans rfl
                                have hl2 := VM.look lawCell cellV_inj HLC.out Try.underlying50 (z := .int .u8 0) (by first | kernel_rfl | rfl) (x := (q0, q1)) hkq
                                dsimp only [cellV] at hl2
                                rw [show ((mget (impl_PatchOf.ls ls3 (q0, q1)) (q0, q1)).map (fun x : Int => Value.int .u8 x)).getD (.int .u8 0) = Value.int .u8 ((mget (impl_PatchOf.ls ls3 (q0, q1)) (q0, q1)).getD 0) by cases mget (impl_PatchOf.ls ls3 (q0, q1)) (q0, q1) <;> rfl] at hl2
                                generalize (mget (impl_PatchOf.ls ls3 (q0, q1)) (q0, q1)).getD 0 = lt at hl2 HF6
                                have hrowC := Kd.R_base HOC.out
                                have hsC := HBC3.out.size
                                go_wp2_with (first | ((with_reducible refine gate_builtin (b := .append) (xs := #[.tmp 100, .tmp 104]) rfl ?_); at_builtin; refine Kd.R_append (Kd.int .u8) (w0 := wc) (lb + 1) rfl (.tmp 100) (.tmp 104) 34 5 (.int .u8 0) 1 rfl Try.underlying34 info5 rfl (by decide) (by omega) (.slice A3 out3.length c3) out3 lt [.int .u8 lt] (fun _ => True) (fun _ => False) rfl rfl ?aP (fun _ hk => hk.elim) ?aF ?aO ?aB ?aS ?aL ?_; (case aP => exact rfl); (case aB => with_reducible repeat (first | exact Below.refl _ _ | apply below_alloc | apply below_drew1)); (case aF => exact fun _ _ => trivial); (case aO => exact (by (with_reducible repeat (first | apply Kd.R_alloc | apply Kd.R_drew)); exact HOC.out)); (case aS => have hlt8 := VM.lt HLC.out; first | omega | (simp; omega)); (case aL => omega); intro v216 w32 ho hb hg hat; have HOA := Aside0.mk ho; have HGA := Aside0.mk hg; clear ho hb hg hat))
                                go_roundw
                                case rel => exact ⟨xx + 1, _, out3 ++ [lt], by omega, by go_num, HF6, ⟨VM.kept HVC.out HGA.out (VM_ne HOC.out HVC.out)⟩, ⟨VM.kept HLC.out HGA.out (VM_ne HOC.out HLC.out)⟩, HOA, ⟨(HGA.out.block w.heap.size (blk_lt HXC.out) (fun e => by have := hrowC _ e.symm; omega)).trans HXC.out⟩, ⟨HBC3.out.grown HGA.out hsC (fun k hk => by have := hrowC k hk; omega)⟩⟩
                                case measure => simp [intOf]; omega
                        · have hxe : xx = m2 := by omega
                          have HF4 := HF3.out
                          rw [hxe, Nat.sub_self, impl_PatchOf.row] at HF4
                          simp only [Option.some.injEq, Prod.mk.injEq] at HF4
                          obtain ⟨rfl, rfl⟩ := HF4
                          clear hxe
                          go_wp2
                          go_roundw
                          case rel => exact ⟨yy + 1, _, _, by omega, by go_num, HREST, HV3, HL3, HO3, HX3, HB3⟩
                          case measure => simp [intOf]; omega
                  · have hye : yy = m3 := by omega
                    have HF4 := HFy.out
                    rw [hye, Nat.sub_self, impl_PatchOf.rows] at HF4
                    obtain rfl := Option.some.inj HF4
                    clear hye HF4
                    have hcv := own_string (P := Try.prog) Try.underlying34 Try.underlying5 Try.underlying9 (Kd.own_of_R HO8.out)
                    go_wp2
                    go_ret2
                    exact ⟨rfl, HB8.out⟩

end Go.Proofs.Ytpinaeegopdknaa.Q

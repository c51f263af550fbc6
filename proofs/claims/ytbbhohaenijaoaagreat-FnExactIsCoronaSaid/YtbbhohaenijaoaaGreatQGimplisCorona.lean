/- Written by a program of this session (wip/tools/pp.py) out of the translation, with the kit's printer. -/
import Derived.Test.YtbbhohaenijaoaaGreatQ0
import Derived.Test.YtbbhohaenijaoaaGreatQGimplparts
import Derived.Test.YtbbhohaenijaoaaGreatQ12
import Derived.Test.YtbbhohaenijaoaaGreatQGimplbeside
import Derived.Test.YtbbhohaenijaoaaGreatQGimplisCopy
import Derived.LoopTactic
import Derived.Test.YtbbhohaenijaoaaGreatVMap
namespace Go.Proofs.YtbbhohaenijaoaaGreat.Q
open Go.RowKit Go.Proofs.YtbbhohaenijaoaaGreatW.PrintWords Go.Proofs.YtbbhohaenijaoaaGreatW.PrintLast Go.Proofs.YtbbhohaenijaoaaGreatW.PrintMore
attribute [local go_sem] max2_int min2_int max_two min_two max_three min_three max_four min_four
set_option linter.unusedVariables false
set_option linter.unusedSimpArgs false
def inM (L : List ((Int × Int) × Bool)) (c : S44) : Bool := (mget L (c.f0, c.f1)).getD false
def prC (c : S44) : Bool := prng c.f0 && prng c.f1
def bndB (c : S44) : Bool := decide (-1000000 ≤ c.f0 ∧ c.f0 ≤ 1000000 ∧ -1000000 ≤ c.f1 ∧ c.f1 ≤ 1000000)
theorem bndB_C {c : S44} (h : bndB c = true) : bndC c := by
 unfold bndB at h
 rw [decide_eq_true_eq] at h
 exact h
theorem bndB_pr {c : S44} (h : bndB c = true) : prC c = true := by
 have := of_decide_eq_true h
 unfold prC prng
 simp only [Bool.and_eq_true, decide_eq_true_eq]
 omega
def impl_isCorona.mark : List S44 → List ((Int × Int) × Bool) → List ((Int × Int) × Bool)
 | [], L => L
 | c :: r, L => impl_isCorona.mark r (((c.f0, c.f1), true) :: L)
def impl_isCorona.one : List S44 → List ((Int × Int) × Bool) → Option (List ((Int × Int) × Bool))
 | [], L => some L
 | c :: r, L => if inM L c = true then none else impl_isCorona.one r (((c.f0, c.f1), true) :: L)
def impl_isCorona.ok (s : List S44) (L : List ((Int × Int) × Bool)) : Bool := s.all prC && decide (L.length + s.length ≤ 1000000000)
def impl_isCorona.go (k : Nat) (l0 : List S44) (n : Int) (m : Bool) (ring : List S44) : List (List S44) → List ((Int × Int) × Bool) → Option Bool
 | [], L => some (!(ring.any fun c => !inM L c))
 | s :: r, L => (impl_isCopy.f k l0 n m s).bind fun b => if b = true then (if (s.any fun c => memC ring c) = true then (if impl_isCorona.ok s L = true then (match impl_isCorona.one s L with | none => some false | some L2 => impl_isCorona.go k l0 n m ring r L2) else none) else some false) else some false
def impl_isCorona.f (k : Nat) (l0_0 : List S44) (a0_1 : Int) (a0_2 : Bool) (l1 : List (List S44)) : Option Bool :=
 if l0_0.length ≤ 1000 ∧ l0_0.all bndB = true ∧ (besC l0_0).all bndB = true ∧ (besC l0_0).length ≤ 1000000 then impl_isCorona.go k l0_0 a0_1 a0_2 (besC l0_0) l1 (impl_isCorona.mark l0_0 []) else none
theorem impl_isCorona.go_mono (k : Nat) (l0 : List S44) (n : Int) (m : Bool) (ring : List S44) : ∀ l L, LeO (impl_isCorona.go k l0 n m ring l L) (impl_isCorona.go (k + 1) l0 n m ring l L)
 | [], L => LeO.refl _
 | s :: r, L => by
  unfold impl_isCorona.go
  refine LeO.bind (impl_isCopy.mono _ _ _ _ _) (fun b => ?_)
  split
  ·split
   ·split
    ·split
     ·exact LeO.refl _
     ·exact impl_isCorona.go_mono k l0 n m ring r _
    ·exact LeO.refl _
   ·exact LeO.refl _
  ·exact LeO.refl _
theorem impl_isCorona.mono : ∀ a0 a1 a2 a3 k, LeO (impl_isCorona.f k a0 a1 a2 a3) (impl_isCorona.f (k + 1) a0 a1 a2 a3) := by
 intro a0 a1 a2 a3 k
 unfold impl_isCorona.f
 split
 ·exact impl_isCorona.go_mono _ _ _ _ _ _ _
 ·exact LeO.refl _
theorem map_ne {w : World} {R M : Nat} {cs : Array Value} {t : TypeId} {fr : Nat × Nat} {L : List ((Int × Int) × Bool)} (h : w.heap[R]? = some (.cells cs t fr)) (hv : VM Tryz.prog 44 pcV Value.bool w M L) : R ≠ M := by
 obtain ⟨es, cl, hm, _⟩ := hv.1
 rintro rfl
 rw [hm] at h
 cases h
theorem bool_look {w : World} {M : Nat} {L : List ((Int × Int) × Bool)} (hv : VM Tryz.prog 44 pcV Value.bool w M L) (c : S44) (hc : prC c = true) : (Instr.lookup 59 (.map (some M)) (.agg #[.int .i64 c.f0, .int .i64 c.f1]) false).run Tryz.prog w = .ok (.bool (inM L c)) w := by
 have h := VM.look lawPC pcV_inj hv Tryz.underlying59 (z := .bool false) (by first | kernel_rfl | rfl) (x := (c.f0, c.f1)) (pc_key (p := (c.f0, c.f1)) (Bool.and_eq_true_iff.mp hc).1 (Bool.and_eq_true_iff.mp hc).2)
 have e : ((mget L (c.f0, c.f1)).map Value.bool).getD (.bool false) = .bool (inM L c) := by
  unfold inM
  cases mget L (c.f0, c.f1) <;> rfl
 rw [e] at h
 exact h
structure CW (w W : World) (A : Option Addr) (n c : Nat) (x : Int) (m : Bool) (ring : List S44) (R U M : Nat) (aR : Option Addr) (cR : Nat) (L : List ((Int × Int) × Bool)) : Prop where
 hb : Below w.heap.size w W
 bp : W.heap[w.heap.size]? = some (.cells #[.slice A n c, .int .i64 x, .bool m] 31 (0, 0))
 br : W.heap[R]? = some (.cells #[.slice aR ring.length cR] 29 (0, 0))
 bu : W.heap[U]? = some (.cells #[.map (some M)] 59 (0, 0))
 vm : VM Tryz.prog 44 pcV Value.bool W M L
 rr : Kd.R k44 44 W w.heap.size (fun _ => True) (.slice aR ring.length cR) ring
 hM : w.heap.size ≤ M
section
variable {w W W' : World} {A : Option Addr} {n c : Nat} {x : Int} {m : Bool} {ring : List S44} {R U M : Nat} {aR : Option Addr} {cR : Nat} {L : List ((Int × Int) × Bool)}
theorem CW.below (h : CW w W A n c x m ring R U M aR cR L) (hb : Below W.heap.size W W') : CW w W' A n c x m ring R U M aR cR L :=
 ⟨below_step h.hb hb, blk_below h.bp hb, blk_below h.br hb, blk_below h.bu hb, h.vm.below hb, Kd.R_below h.rr hb, h.hM⟩
theorem CW.alloc (h : CW w W A n c x m ring R U M aR cR L) (o : Obj) : CW w (W.alloc o) A n c x m ring R U M aR cR L := h.below (below_alloc (Below.refl _ _) o)
theorem CW.put {k : S44} (h : CW w W A n c x m ring R U M aR cR L) (hv : VM Tryz.prog 44 pcV Value.bool W' M (((k.f0, k.f1), true) :: L)) (hg : W.grownBy W' (some M)) : CW w W' A n c x m ring R U M aR cR (((k.f0, k.f1), true) :: L) := by
 refine ⟨h.hb.grown hg h.hb.size (fun j hj => by cases hj; exact h.hM), blk_grown h.bp hg (fun e => map_ne h.bp h.vm (Option.some.inj e)), blk_grown h.br hg (fun e => map_ne h.br h.vm (Option.some.inj e)), blk_grown h.bu hg (fun e => map_ne h.bu h.vm (Option.some.inj e)), hv, ?_, h.hM⟩
 have hm : Kd.R k44 44 W w.heap.size (fun k => True ∧ k ≠ M) (.slice aR ring.length cR) ring := Kd.R_mono (Kd.R_bound h.rr) (fun j hj => ⟨trivial, fun e => by
  obtain ⟨_, _, _, q, _, cells, hc⟩ := hj
  exact map_ne hc h.vm e⟩)
 exact Kd.R_mono (Kd.R_grown hm hg (fun _ hk e => hk.2 (Option.some.inj e))) (fun _ _ => trivial)
end
set_option maxHeartbeats 1600000 in
theorem impl_isCorona.lit1 (c : S44) (Ao : Option Addr) (co : Nat) (ring : List S44) (B : Nat) (w : World) (hl : ring.length ≤ 1000000) (hro : Kd.C k44 w Ao ring.length ring) (hco : ring.length ≤ co) (hB : w.heap[B]? = some (.cells #[.slice Ao ring.length co] 29 (0, 0))) :
  Calls Tryz.prog 40 #[.agg #[.int .i64 c.f0, .int .i64 c.f1], .pointer (some ⟨B, 0, none⟩)] w fun e w' => e = .returned (.bool (memC ring c)) ∧ Below w.heap.size w w' := by
 have hu35 := Tryz.underlying44
 have HRO := Aside0.mk hro
 have HF := Aside0.mk (cont_eq ring c hl)
 have HB := Aside0.mk hB
 have c0 := (blk_cell hB 0).trans rfl
 have c1 := (blk_cell (blk_below hB (below_alloc (Below.refl w.heap.size w) (.cells #[.int .i64 c.f0, .int .i64 c.f1] 44))) 0).trans rfl
 clear hro hB
 go_enter Tryz.func40, Tryz.ntmps40
 go_wp2_with (go_at_call 41; refine (impl_Cell_41.calls _ _ _ ring _ _ _ _ (Kd.C_below HRO.out (by first | exact Below.refl _ _ | exact below_alloc (Below.refl _ _) _)) hco HF.out).mono ?_; rintro e w1 ⟨rfl, hb1⟩; have HB1 := Aside0.mk hb1; clear hb1)
 go_ret
 exact ⟨rfl, by first | exact HB1.out | exact below_step (below_alloc (Below.refl _ _) _) HB1.out⟩
set_option maxHeartbeats 1600000 in
theorem impl_isCorona.lit2 (c : S44) (hc : prC c = true) (B M : Nat) (L : List ((Int × Int) × Bool)) (w : World) (hB : w.heap[B]? = some (.cells #[.map (some M)] 59 (0, 0))) (hv : VM Tryz.prog 44 pcV Value.bool w M L) :
  Calls Tryz.prog 42 #[.agg #[.int .i64 c.f0, .int .i64 c.f1], .pointer (some ⟨B, 0, none⟩)] w fun e w' => e = .returned (.bool (!inM L c)) ∧ Below w.heap.size w w' := by
 have hu35 := Tryz.underlying44
 have hl1 := bool_look hv c hc
 have hl2 := bool_look (hv.alloc (.cells #[.int .i64 c.f0, .int .i64 c.f1] 44)) c hc
 have c0 := (blk_cell hB 0).trans rfl
 have c1 := (blk_cell (blk_below hB (below_alloc (Below.refl w.heap.size w) (.cells #[.int .i64 c.f0, .int .i64 c.f1] 44))) 0).trans rfl
 clear hv hB
 go_enter Tryz.func42, Tryz.ntmps42
 go_wp2
 go_ret
 exact ⟨rfl, by repeat (first | exact Below.refl _ _ | apply below_alloc | apply pw_below_drewN)⟩
set_option maxHeartbeats 1600000 in
theorem impl_isCorona.idx1 (A : Option Addr) (c : Nat) (l : List S44) (Ao : Option Addr) (co : Nat) (ring : List S44) (B : Nat) (w : World) (hr : Kd.C k44 w A l.length l) (hl : ring.length ≤ 1000000) (hro : Kd.C k44 w Ao ring.length ring) (hco : ring.length ≤ co) (hB : w.heap[B]? = some (.cells #[.slice Ao ring.length co] 29 (0, 0))) :
  Calls Tryz.prog 65 #[.slice A l.length c, .func (.func 40) #[] #[.pointer (some ⟨B, 0, none⟩)]] w fun e w' => (∃ j : Int, Aside0 ((l.any fun c => memC ring c) = decide (0 ≤ j)) ∧ e = .returned (.int .i64 j)) ∧ Below w.heap.size w w' := by
 have hlen := hr.2.1
 have hu35 := Tryz.underlying44
 have HR := Aside0.mk hr
 have HRO := Aside0.mk hro
 have HB := Aside0.mk hB
 clear hr hro hB
 go_enter Tryz.func65, Tryz.ntmps65
 go_wp2
 go_loopw [8] (fun i wr => ∃ kk : Nat, kk ≤ l.length ∧ i = .int .i64 kk ∧ Aside0 (((l.drop kk).any fun c => memC ring c) = l.any fun c => memC ring c) ∧ Aside0 (Below w.heap.size w wr)) (fun i _ => l.length - (intOf i).toNat)
 case atStart => exact ⟨0, Nat.zero_le _, rfl, ⟨rfl⟩, ⟨Below.refl _ _⟩⟩
 case round =>
  obtain ⟨kk, hk, rfl, HG, HBL⟩ := hrel
  by_cases hlt : kk < l.length
  ·obtain ⟨ad, e, h0, h1⟩ := at_T44 (Kd.C_below HR.out HBL.out) (kk : Int) (by omega) (by omega)
   subst e
   rw [Int.toNat_natCast] at h0 h1
   have hd : l.drop kk = rd_T44 l (kk : Int) :: l.drop (kk + 1) := by rw [rdN l hlt, ← List.drop_eq_getElem_cons hlt]
   have hin : rd_T44 l (kk : Int) ∈ l := by rw [rdN l hlt]; exact List.getElem_mem hlt
   have HG2 := HG.out
   rw [hd, List.any_cons] at HG2
   have HG3 := Aside0.mk HG2
   clear hd HG2
   have HLIT := Aside0.mk (impl_isCorona.lit1 (rd_T44 l (kk : Int)) Ao co ring B wr hl (Kd.C_below HRO.out HBL.out) hco (blk_below HB.out HBL.out))
   clear hin
   generalize rd_T44 l (kk : Int) = q at h0 h1 HG3 HLIT
   obtain ⟨p, hp⟩ : ∃ p, p = memC ring q := ⟨_, rfl⟩
   rw [← hp] at HLIT HG3
   clear hp
   cases p with
   | false =>
    go_wp2_with (go_at_call 40; refine HLIT.out.mono ?_; rintro e w1 ⟨rfl, hb1⟩)
    go_roundw
    case rel => exact ⟨kk + 1, by omega, by go_num, ⟨by have h := HG3.out; rw [Bool.false_or] at h; exact h⟩, ⟨below_step HBL.out hb1⟩⟩
    case measure => simp [intOf]; omega
   | true =>
    go_wp2_with (go_at_call 40; refine HLIT.out.mono ?_; rintro e w1 ⟨rfl, hb1⟩)
    go_ret
    exact ⟨⟨_, ⟨by rw [← HG3.out]; simp⟩, rfl⟩, below_step HBL.out hb1⟩
  ·have hkl : kk = l.length := by omega
   have HG2 := HG.out
   rw [hkl, List.drop_length] at HG2
   have HR2 := Aside0.mk HG2
   clear HG2 hkl
   go_wp2
   go_ret
   exact ⟨⟨_, ⟨by rw [← HR2.out]; rfl⟩, rfl⟩, HBL.out⟩
set_option maxHeartbeats 1600000 in
theorem impl_isCorona.has1 (A : Option Addr) (c : Nat) (l : List S44) (Ao : Option Addr) (co : Nat) (ring : List S44) (B : Nat) (w : World) (hr : Kd.C k44 w A l.length l) (hl : ring.length ≤ 1000000) (hro : Kd.C k44 w Ao ring.length ring) (hco : ring.length ≤ co) (hB : w.heap[B]? = some (.cells #[.slice Ao ring.length co] 29 (0, 0))) :
  Calls Tryz.prog 39 #[.slice A l.length c, .func (.func 40) #[] #[.pointer (some ⟨B, 0, none⟩)]] w fun e w' => e = .returned (.bool (l.any fun c => memC ring c)) ∧ Below w.heap.size w w' := by
 have hc := impl_isCorona.idx1 A c l Ao co ring B w hr hl hro hco hB
 clear hr hro hB
 go_enter Tryz.func39, Tryz.ntmps39
 go_wp2_with (go_at_call 65; refine hc.mono ?_; rintro e w1 ⟨⟨j, hj, rfl⟩, hb1⟩)
 go_ret
 refine ⟨?_, hb1⟩
 rw [hj.out]
 first | rfl | (congr 2; simp; done) | (congr 2)
set_option maxHeartbeats 1600000 in
theorem impl_isCorona.idx2 (A : Option Addr) (c : Nat) (l : List S44) (B M : Nat) (L : List ((Int × Int) × Bool)) (w : World) (hr : Kd.C k44 w A l.length l) (hp : ∀ c ∈ l, prC c = true) (hB : w.heap[B]? = some (.cells #[.map (some M)] 59 (0, 0))) (hv : VM Tryz.prog 44 pcV Value.bool w M L) :
  Calls Tryz.prog 65 #[.slice A l.length c, .func (.func 42) #[] #[.pointer (some ⟨B, 0, none⟩)]] w fun e w' => (∃ j : Int, Aside0 ((l.any fun c => !inM L c) = decide (0 ≤ j)) ∧ e = .returned (.int .i64 j)) ∧ Below w.heap.size w w' := by
 have hlen := hr.2.1
 have hu35 := Tryz.underlying44
 have HR := Aside0.mk hr
 have HPR := Aside0.mk hp
 have HB := Aside0.mk hB
 have HV := Aside0.mk hv
 clear hr hp hB hv
 go_enter Tryz.func65, Tryz.ntmps65
 go_wp2
 go_loopw [8] (fun i wr => ∃ kk : Nat, kk ≤ l.length ∧ i = .int .i64 kk ∧ Aside0 (((l.drop kk).any fun c => !inM L c) = l.any fun c => !inM L c) ∧ Aside0 (Below w.heap.size w wr)) (fun i _ => l.length - (intOf i).toNat)
 case atStart => exact ⟨0, Nat.zero_le _, rfl, ⟨rfl⟩, ⟨Below.refl _ _⟩⟩
 case round =>
  obtain ⟨kk, hk, rfl, HG, HBL⟩ := hrel
  by_cases hlt : kk < l.length
  ·obtain ⟨ad, e, h0, h1⟩ := at_T44 (Kd.C_below HR.out HBL.out) (kk : Int) (by omega) (by omega)
   subst e
   rw [Int.toNat_natCast] at h0 h1
   have hd : l.drop kk = rd_T44 l (kk : Int) :: l.drop (kk + 1) := by rw [rdN l hlt, ← List.drop_eq_getElem_cons hlt]
   have hin : rd_T44 l (kk : Int) ∈ l := by rw [rdN l hlt]; exact List.getElem_mem hlt
   have HG2 := HG.out
   rw [hd, List.any_cons] at HG2
   have HG3 := Aside0.mk HG2
   clear hd HG2
   have HLIT := Aside0.mk (impl_isCorona.lit2 (rd_T44 l (kk : Int)) (HPR.out _ hin) B M L wr (blk_below HB.out HBL.out) (HV.out.below HBL.out))
   clear hin
   generalize rd_T44 l (kk : Int) = q at h0 h1 HG3 HLIT
   obtain ⟨p, hp⟩ : ∃ p, p = !inM L q := ⟨_, rfl⟩
   rw [← hp] at HLIT HG3
   clear hp
   cases p with
   | false =>
    go_wp2_with (go_at_call 42; refine HLIT.out.mono ?_; rintro e w1 ⟨rfl, hb1⟩)
    go_roundw
    case rel => exact ⟨kk + 1, by omega, by go_num, ⟨by have h := HG3.out; rw [Bool.false_or] at h; exact h⟩, ⟨below_step HBL.out hb1⟩⟩
    case measure => simp [intOf]; omega
   | true =>
    go_wp2_with (go_at_call 42; refine HLIT.out.mono ?_; rintro e w1 ⟨rfl, hb1⟩)
    go_ret
    exact ⟨⟨_, ⟨by rw [← HG3.out]; simp⟩, rfl⟩, below_step HBL.out hb1⟩
  ·have hkl : kk = l.length := by omega
   have HG2 := HG.out
   rw [hkl, List.drop_length] at HG2
   have HR2 := Aside0.mk HG2
   clear HG2 hkl
   go_wp2
   go_ret
   exact ⟨⟨_, ⟨by rw [← HR2.out]; rfl⟩, rfl⟩, HBL.out⟩
set_option maxHeartbeats 1600000 in
theorem impl_isCorona.has2 (A : Option Addr) (c : Nat) (l : List S44) (B M : Nat) (L : List ((Int × Int) × Bool)) (w : World) (hr : Kd.C k44 w A l.length l) (hp : ∀ c ∈ l, prC c = true) (hB : w.heap[B]? = some (.cells #[.map (some M)] 59 (0, 0))) (hv : VM Tryz.prog 44 pcV Value.bool w M L) :
  Calls Tryz.prog 39 #[.slice A l.length c, .func (.func 42) #[] #[.pointer (some ⟨B, 0, none⟩)]] w fun e w' => e = .returned (.bool (l.any fun c => !inM L c)) ∧ Below w.heap.size w w' := by
 have hc := impl_isCorona.idx2 A c l B M L w hr hp hB hv
 clear hr hp hB hv
 go_enter Tryz.func39, Tryz.ntmps39
 go_wp2_with (go_at_call 65; refine hc.mono ?_; rintro e w1 ⟨⟨j, hj, rfl⟩, hb1⟩)
 go_ret
 refine ⟨?_, hb1⟩
 rw [hj.out]
 first | rfl | (congr 2; simp; done) | (congr 2)
set_option maxRecDepth 100000 in
set_option maxHeartbeats 4000000 in
theorem impl_isCorona.calls (k : Nat) (A0_0 : Option Addr) (c0_0 : Nat) (l0_0 : List (S44)) (a0_1 : Int) (a0_2 : Bool) (A1 : Option Addr) (c1 : Nat) (l1 : List (List (S44))) (r : Bool) (w : World) (hr0_0 : Kd.C k44 w A0_0 l0_0.length l0_0) (hc0_0 : l0_0.length ≤ c0_0) (hr1 : Kd.C (Kd.slice 44 k44) w A1 l1.length l1) (hc1 : l1.length ≤ c1) (h : impl_isCorona.f k l0_0 a0_1 a0_2 l1 = some r) :
  Calls Tryz.prog 20 #[.agg #[.slice A0_0 l0_0.length c0_0, .int .i64 a0_1, .bool a0_2], .slice A1 l1.length c1] w fun e w' => e = .returned (.bool r) ∧ Below w.heap.size w w' := by
 have hu30 := Tryz.underlying31
 have hu44 := Tryz.underlying44
 have hlen1 := hr1.2.1
 have HR := Aside0.mk hr0_0
 have HR1 := Aside0.mk hr1
 clear hr0_0 hr1
 unfold impl_isCorona.f at h
 by_cases hg : l0_0.length ≤ 1000 ∧ l0_0.all bndB = true ∧ (besC l0_0).all bndB = true ∧ (besC l0_0).length ≤ 1000000
 case neg => rw [if_neg hg] at h; cases h
 rw [if_pos hg] at h
 obtain ⟨hl0, hb0, hbr, hlr⟩ := hg
 have HH := Aside0.mk h
 have HB0L := Aside0.mk (fun c hc => List.all_eq_true.mp hb0 c hc : ∀ c ∈ l0_0, bndB c = true)
 have HPR := Aside0.mk (fun c hc => bndB_pr (List.all_eq_true.mp hbr c hc) : ∀ c ∈ besC l0_0, prC c = true)
 clear h hb0 hbr
 have HB0 := Aside0.mk (below_alloc (Below.refl w.heap.size w) (.cells #[.slice A0_0 l0_0.length c0_0, .int .i64 a0_1, .bool a0_2] 31))
 have HBX := Aside0.mk (heap_alloc_new w (.cells #[.slice A0_0 l0_0.length c0_0, .int .i64 a0_1, .bool a0_2] 31 (0, 0)))
 have hmm := @run_makeMap Tryz.prog
 go_enter Tryz.func20, Tryz.ntmps20
 go_upto_region 2 with (go_at_call 36; refine (impl_beside.corners A0_0 c0_0 l0_0 _ (Kd.C_below HR.out HB0.out) hc0_0 hl0 (fun c hc => bndB_C (HB0L.out c hc))).mono ?_; rintro e w1 ⟨v1, rfl, ho1, hb1⟩; obtain ⟨aR, cR, e1⟩ := Kd.R_slice ho1; subst e1; have HO1 := Aside0.mk ho1; have HB1 := Aside0.mk hb1; clear ho1 hb1)
 go_upto_region 3 with (fail)
 have e1 := size_al w1 (.cells #[.slice aR (besC l0_0).length cR] 29)
 have e2 := size_al (w1.alloc (.cells #[.slice aR (besC l0_0).length cR] 29)) (.map #[] 0)
 rw [e1] at e2
 have hcw : CW w (((w1.alloc (.cells #[.slice aR (besC l0_0).length cR] 29)).alloc (.map #[] 0)).alloc (.cells #[.map (some (w1.heap.size + 1))] 59)) A0_0 l0_0.length c0_0 a0_1 a0_2 (besC l0_0) w1.heap.size (w1.heap.size + 2) (w1.heap.size + 1) aR cR [] := by
  have b1 := below_step HB0.out HB1.out
  have b2 : Below (w1.alloc (.cells #[.slice aR (besC l0_0).length cR] 29)).heap.size (w1.alloc (.cells #[.slice aR (besC l0_0).length cR] 29)) (((w1.alloc (.cells #[.slice aR (besC l0_0).length cR] 29)).alloc (.map #[] 0)).alloc (.cells #[.map (some (w1.heap.size + 1))] 59)) := below_alloc (below_alloc (Below.refl _ _) _) _
  refine ⟨below_step (below_alloc b1 _) b2, blk_below (blk_below (blk_below HBX.out HB1.out) (below_alloc (Below.refl _ _) _)) b2, blk_below (heap_alloc_new w1 _) b2, ?_, ?_, Kd.R_lower (Kd.R_alloc (Kd.R_alloc (Kd.R_alloc HO1.out _) _) _) HB0.out.size, ?_⟩
  ·have h := heap_alloc_new ((w1.alloc (.cells #[.slice aR (besC l0_0).length cR] 29)).alloc (.map #[] 0)) (.cells #[.map (some (w1.heap.size + 1))] 59 (0, 0))
   rw [e2] at h
   exact h
  ·have h := VM.made (P := Tryz.prog) (k := 44) (kv := pcV) (ev := Value.bool) (w1.alloc (.cells #[.slice aR (besC l0_0).length cR] 29))
   rw [e1] at h
   exact h.alloc _
  ·have := b1.size
   omega
 have HCW := Aside0.mk hcw
 clear hcw e1 e2
 generalize ((w1.alloc (.cells #[.slice aR (besC l0_0).length cR] 29)).alloc (.map #[] 0)).alloc (.cells #[.map (some (w1.heap.size + 1))] 59) = W0 at HCW ⊢
 clear HO1 HB1
 generalize w1.heap.size = N at HCW ⊢
 generalize hring : besC l0_0 = ring at HCW HH HPR hlr ⊢
 clear hring
 have x0 := (blk_cell HCW.out.bp 0).trans rfl
 go_wp2
 clear x0
 go_loopw [20] (fun i wr => ∃ (kk : Nat) (L : List ((Int × Int) × Bool)), kk ≤ l0_0.length ∧ i = .int .i64 (kk : Int) ∧ Aside0 (impl_isCorona.mark (l0_0.drop kk) L = impl_isCorona.mark l0_0 []) ∧ Aside0 (L.length + (l0_0.length - kk) ≤ 1000) ∧ Aside0 (CW w wr A0_0 l0_0.length c0_0 a0_1 a0_2 ring N (N + 2) (N + 1) aR cR L)) (fun i _ => l0_0.length - (intOf i).toNat)
 case atStart => exact ⟨0, [], Nat.zero_le _, rfl, ⟨rfl⟩, ⟨by simp; omega⟩, HCW⟩
 case round =>
  clear HCW
  obtain ⟨kk, L, hk, rfl, HMK, HLN, HCW⟩ := hrel
  by_cases hlt : kk < l0_0.length
  ·obtain ⟨ad, e, h0, h1⟩ := at_T44 (Kd.C_below HR.out HCW.out.hb) (kk : Int) (by omega) (by omega)
   subst e
   rw [Int.toNat_natCast] at h0 h1
   have hd : l0_0.drop kk = rd_T44 l0_0 (kk : Int) :: l0_0.drop (kk + 1) := by rw [rdN l0_0 hlt, ← List.drop_eq_getElem_cons hlt]
   have hpc := bndB_pr (HB0L.out (rd_T44 l0_0 (kk : Int)) (by rw [rdN l0_0 hlt]; exact List.getElem_mem hlt))
   have hm := HMK.out
   rw [hd] at hm
   have HM2 := Aside0.mk hm
   clear hd hm
   generalize rd_T44 l0_0 (kk : Int) = q at h0 h1 hpc HM2
   have HPC := Aside0.mk hpc
   clear hpc
   have HCA := Aside0.mk (HCW.out.alloc (.cells #[.int .i64 q.f0, .int .i64 q.f1] 44))
   have u0 := (blk_cell HCA.out.bu 0).trans rfl
   have p1 : ((0 : Int) ≤ (kk : Int)) = True := eq_true (by omega)
   have q1 : ((kk : Int) < (l0_0.length : Int)) = True := eq_true (by omega)
   go_wp2_with (at_mapUpdate; refine wpList_vm_put rfl _ _ _ 59 rfl 4 lawPC Tryz.underlying59 HCA.out.vm rfl (by have := HLN.out; unfold maxLen; omega) (q.f0, q.f1) true rfl rfl (pc_key (p := (q.f0, q.f1)) (Bool.and_eq_true_iff.mp HPC.out).1 (Bool.and_eq_true_iff.mp HPC.out).2) ?_; intro w2 hv2 hg2; have HC2 := Aside0.mk (HCA.out.put (k := q) hv2 hg2); clear hv2 hg2)
   go_roundw
   case rel => exact ⟨kk + 1, ((q.f0, q.f1), true) :: L, by omega, by go_num, HM2, ⟨by have := HLN.out; rw [List.length_cons]; omega⟩, HC2⟩
   case measure => simp [intOf]; omega
  ·have hka : kk = l0_0.length := by omega
   have hm := HMK.out
   rw [hka, List.drop_length, impl_isCorona.mark] at hm
   have hh := HH.out
   rw [← hm] at hh
   have HG := Aside0.mk hh
   clear hm hh HMK HLN hka HH
   go_wp2
   go_loopw [29] (fun i wr => ∃ (kk : Nat) (L : List ((Int × Int) × Bool)), kk ≤ l1.length ∧ i = .int .i64 (kk : Int) ∧ Aside0 (impl_isCorona.go k l0_0 a0_1 a0_2 ring (l1.drop kk) L = some r) ∧ Aside0 (CW w wr A0_0 l0_0.length c0_0 a0_1 a0_2 ring N (N + 2) (N + 1) aR cR L)) (fun i _ => l1.length - (intOf i).toNat)
   case atStart => exact ⟨0, L, Nat.zero_le _, rfl, HG, HCW⟩
   case round =>
    clear HCW HG hk hlt
    obtain ⟨kk, L, hk, rfl, HG, HCW⟩ := hrel
    by_cases hlt : kk < l1.length
    ·obtain ⟨ad, cs, e, hsz, ⟨Ai, ci, rfl, hci, hCi⟩, hcell⟩ := ReadsRow.get_ HR1.out ([] : List S44) (kk : Int) (by omega) (by omega)
     subst e
     have hd : l1.drop kk = l1.getD kk [] :: l1.drop (kk + 1) := by
      rw [List.drop_eq_getElem_cons hlt]
      simp [List.getD_eq_getElem?_getD, List.getElem?_eq_getElem hlt]
     have hG := HG.out
     rw [hd] at hG
     clear hd
     rw [Int.toNat_natCast] at hcell hci hCi
     have s0 := hcell 0 _ rfl
     rw [show kk * (Kd.slice 44 k44).sz + 0 = kk by show kk * 1 + 0 = kk; omega] at s0
     replace s0 := pc HCW.out.hb s0
     have HSW := Aside0.mk hCi
     have HCC := Aside0.mk hci
     have hslen := hCi.2.1
     clear hcell hci hCi hsz
     generalize l1.getD kk [] = s at hG HSW HCC s0 hslen
     have HCI := Aside0.mk (Kd.C_below HSW.out HCW.out.hb)
     unfold impl_isCorona.go at hG
     obtain ⟨b, hb, hG2⟩ := Option.bind_eq_some_iff.mp hG
     have HCP := Aside0.mk hb
     clear hG hb HG
     have x0 := (blk_cell HCW.out.bp 0).trans rfl
     have x1 := (blk_cell HCW.out.bp 1).trans rfl
     have x2 := (blk_cell HCW.out.bp 2).trans rfl
     have p1 : ((0 : Int) ≤ (kk : Int)) = True := eq_true (by omega)
     have q1 : ((kk : Int) < (l1.length : Int)) = True := eq_true (by omega)
     cases b with
     | false =>
      rw [if_neg (by decide)] at hG2
      have HR2 := Aside0.mk (Option.some.inj hG2)
      clear hG2
      go_wp2_with (go_at_call 38; refine (impl_isCopy.calls k _ _ l0_0 _ _ _ _ s false _ (Kd.C_below HR.out HCW.out.hb) hc0_0 HCI.out HCC.out HCP.out).mono ?_; rintro e w3 ⟨rfl, hb3⟩; have HB3 := Aside0.mk hb3; clear hb3)
      go_ret
      exact ⟨by rw [← HR2.out]; rfl, below_step HCW.out.hb HB3.out⟩
     | true =>
      rw [if_pos rfl] at hG2
      by_cases hany : (s.any fun c => memC ring c) = true
      case neg =>
       rw [if_neg hany] at hG2
       have HR2 := Aside0.mk (Option.some.inj hG2)
       have hany2 : (s.any fun c => memC ring c) = false := by simpa using hany
       have HAN := Aside0.mk hany2
       clear hG2 hany hany2
       go_wp2_with (first
        | (go_at_call 38; refine (impl_isCopy.calls k _ _ l0_0 _ _ _ _ s true _ (Kd.C_below HR.out HCW.out.hb) hc0_0 HCI.out HCC.out HCP.out).mono ?_; rintro e w3 ⟨rfl, hb3⟩; have HB3 := Aside0.mk hb3; have HC3 := Aside0.mk (HCW.out.below hb3); clear hb3)
        | (go_at_call 39; refine (impl_isCorona.has1 _ _ s aR cR ring N _ (Kd.C_below HCI.out HB3.out) hlr (Kd.R_reads' HC3.out.rr).2.2 (Kd.R_reads' HC3.out.rr).2.1 HC3.out.br).mono ?_; rw [HAN.out]; rintro e w4 ⟨rfl, hb4⟩; have HB4 := Aside0.mk hb4; clear hb4))
       go_ret
       exact ⟨by rw [← HR2.out]; rfl, below_step HC3.out.hb HB4.out⟩
      rw [if_pos hany] at hG2
      by_cases hok : impl_isCorona.ok s L = true
      case neg => rw [if_neg hok] at hG2; cases hG2
      rw [if_pos hok] at hG2
      unfold impl_isCorona.ok at hok
      rw [Bool.and_eq_true, decide_eq_true_eq] at hok
      obtain ⟨hpr, hln⟩ := hok
      have HSP := Aside0.mk (fun c hc => List.all_eq_true.mp hpr c hc : ∀ c ∈ s, prC c = true)
      have HAN := Aside0.mk hany
      have HG3 := Aside0.mk hG2
      clear hpr hany hG2
      go_wp2_with (first
       | (go_at_call 38; refine (impl_isCopy.calls k _ _ l0_0 _ _ _ _ s true _ (Kd.C_below HR.out HCW.out.hb) hc0_0 HCI.out HCC.out HCP.out).mono ?_; rintro e w3 ⟨rfl, hb3⟩; have HB3 := Aside0.mk hb3; have HC3 := Aside0.mk (HCW.out.below hb3); have HS3 := Aside0.mk (Kd.C_below HCI.out hb3); clear hb3)
       | (go_at_call 39; refine (impl_isCorona.has1 _ _ s aR cR ring N _ HS3.out hlr (Kd.R_reads' HC3.out.rr).2.2 (Kd.R_reads' HC3.out.rr).2.1 HC3.out.br).mono ?_; rw [HAN.out]; rintro e w4 ⟨rfl, hb4⟩; have HC4 := Aside0.mk (HC3.out.below hb4); have HS4 := Aside0.mk (Kd.C_below HS3.out hb4); clear hb4))
      clear x0 x1 x2 s0 HCW HC3 HS3 HS4 HCI HCP HAN p1 q1
      have HLT := Aside0.mk hlt
      clear hlt
      go_loopw [45] (fun i wr => ∃ (jj : Nat) (L2 : List ((Int × Int) × Bool)), jj ≤ s.length ∧ i = .int .i64 (jj : Int) ∧ Aside0 (impl_isCorona.one (s.drop jj) L2 = impl_isCorona.one s L) ∧ Aside0 (L2.length + (s.length - jj) ≤ 1000000000) ∧ Aside0 (CW w wr A0_0 l0_0.length c0_0 a0_1 a0_2 ring N (N + 2) (N + 1) aR cR L2)) (fun i _ => s.length - (intOf i).toNat)
      case atStart => exact ⟨0, L, Nat.zero_le _, rfl, ⟨rfl⟩, ⟨by omega⟩, HC4⟩
      case round =>
       clear HC4
       obtain ⟨jj, L2, hj, rfl, HON, HLN, HCW⟩ := hrel
       by_cases hjl : jj < s.length
       ·obtain ⟨sd, e, h0, h1⟩ := at_T44 (Kd.C_below HSW.out HCW.out.hb) (jj : Int) (by omega) (by omega)
        subst e
        rw [Int.toNat_natCast] at h0 h1
        have hd : s.drop jj = rd_T44 s (jj : Int) :: s.drop (jj + 1) := by rw [rdN s hjl, ← List.drop_eq_getElem_cons hjl]
        have hpc := HSP.out (rd_T44 s (jj : Int)) (by rw [rdN s hjl]; exact List.getElem_mem hjl)
        have ho := HON.out
        rw [hd, impl_isCorona.one] at ho
        have HO2 := Aside0.mk ho
        clear hd ho
        generalize rd_T44 s (jj : Int) = q at h0 h1 hpc HO2
        have HPC := Aside0.mk hpc
        clear hpc
        have HCA := Aside0.mk (HCW.out.alloc (.cells #[.int .i64 q.f0, .int .i64 q.f1] 44))
        have u0 := (blk_cell HCA.out.bu 0).trans rfl
        have hlk := bool_look HCA.out.vm q HPC.out
        have p1 : ((0 : Int) ≤ (jj : Int)) = True := eq_true (by omega)
        have q1 : ((jj : Int) < (s.length : Int)) = True := eq_true (by omega)
        cases hin : inM L2 q with
        | true =>
         rw [hin] at hlk
         have ho := HO2.out
         rw [if_pos hin] at ho
         have h3 := HG3.out
         rw [← ho] at h3
         have HR2 := Aside0.mk (Option.some.inj h3)
         clear ho h3 hin
         go_wp2
         go_ret
         exact ⟨by rw [← HR2.out]; rfl, HCA.out.hb⟩
        | false =>
         rw [hin] at hlk
         have ho := HO2.out
         rw [if_neg (by rw [hin]; simp)] at ho
         have HO3 := Aside0.mk ho
         clear ho hin
         go_wp2_with (at_mapUpdate; refine wpList_vm_put rfl _ _ _ 59 rfl 4 lawPC Tryz.underlying59 HCA.out.vm rfl (by have := HLN.out; unfold maxLen; omega) (q.f0, q.f1) true rfl rfl (pc_key (p := (q.f0, q.f1)) (Bool.and_eq_true_iff.mp HPC.out).1 (Bool.and_eq_true_iff.mp HPC.out).2) ?_; intro w5 hv5 hg5; have HC5 := Aside0.mk (HCA.out.put (k := q) hv5 hg5); clear hv5 hg5)
         go_roundw
         case rel => exact ⟨jj + 1, ((q.f0, q.f1), true) :: L2, by omega, by go_num, HO3, ⟨by have := HLN.out; rw [List.length_cons]; omega⟩, HC5⟩
         case measure => simp [intOf]; omega
       ·have hje : jj = s.length := by omega
        have ho := HON.out
        rw [hje, List.drop_length, impl_isCorona.one] at ho
        have h3 := HG3.out
        rw [← ho] at h3
        have HG4 := Aside0.mk h3
        clear ho h3 hje
        have hlt := HLT.out
        go_wp2
        go_roundw
        case rel => exact ⟨kk + 1, L2, by omega, by go_num, HG4, HCW⟩
        case measure => simp [intOf]; omega
    ·have hka : kk = l1.length := by omega
     have hG := HG.out
     rw [hka, List.drop_length, impl_isCorona.go] at hG
     have HR2 := Aside0.mk (Option.some.inj hG)
     clear hG
     have r0 := (blk_cell HCW.out.br 0).trans rfl
     go_wp2_with (go_at_call 39; refine (impl_isCorona.has2 _ _ ring (N + 2) (N + 1) L _ (Kd.R_reads' HCW.out.rr).2.2 HPR.out HCW.out.bu HCW.out.vm).mono ?_; rintro e w3 ⟨rfl, hb3⟩; have HB3 := Aside0.mk hb3; clear hb3)
     go_ret
     exact ⟨by rw [← HR2.out]; rfl, below_step HCW.out.hb HB3.out⟩
end Go.Proofs.YtbbhohaenijaoaaGreat.Q

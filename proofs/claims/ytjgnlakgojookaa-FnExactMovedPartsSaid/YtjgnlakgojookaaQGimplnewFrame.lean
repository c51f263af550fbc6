/- Written by a program of this session (wip/tools/pp.py) out of the translation, with the kit's printer. -/
import Derived.Test.YtjgnlakgojookaaQ0
import Derived.Test.YtjgnlakgojookaaVMap
namespace Go.Proofs.Ytjgnlakgojookaa.Q
open Go.RowKit Go.Proofs.YtjgnlakgojookaaW.PrintWords Go.Proofs.YtjgnlakgojookaaW.PrintLast Go.Proofs.YtjgnlakgojookaaW.PrintMore
attribute [local go_sem] max2_int min2_int max_two min_two max_three min_three max_four min_four
set_option linter.unusedVariables false
set_option linter.unusedSimpArgs false

/-! ### impl_newFrame: walked by hand; what a frame is -/
def cubeB (p q : S71) : Bool := p.f0 == q.f0 && p.f1 == q.f1 && p.f2 == q.f2
def hasC (l : List S71) (a b c : Int) : Bool := l.any fun q => q.f0 == a && q.f1 == b && q.f2 == c
def hitC (pa pb : List S71) (x y z : Int) : Bool := pb.any fun q => hasC pa (wrap64 (q.f0 + x)) (wrap64 (q.f1 + y)) (wrap64 (q.f2 + z))
def insC (x y z lo hi : Int) : Bool := (decide (lo ≤ x) && decide (x ≤ hi)) && (decide (lo ≤ y) && decide (y ≤ hi)) && (decide (lo ≤ z) && decide (z ≤ hi))
def prt (ps : List (List S71)) (i : Int) : List S71 := ps.getD i.toNat []
def touchC (ps : List (List S71)) (a b x y z : Int) : Bool := insC x y z (-7) 7 && hitC (prt ps a) (prt ps b) x y z
abbrev CtK := Int × Int × Int × Int × Int
def ctV (p : CtK) : Value := .agg #[.int .i64 p.1, .int .i64 p.2.1, .int .i64 p.2.2.1, .int .i64 p.2.2.2.1, .int .i64 p.2.2.2.2]
theorem ctV_inj (p q : CtK) (h : ctV p = ctV q) : p = q := by
  unfold ctV at h
  simp at h
  obtain ⟨h1, h2, h3, h4, h5⟩ := h
  exact Prod.ext h1 (Prod.ext h2 (Prod.ext h3 (Prod.ext h4 h5)))
def rng (x : Int) : Bool := decide (-9223372036854775808 ≤ x) && decide (x ≤ 9223372036854775807)
theorem rng_wf {x : Int} (h : rng x = true) : (Lit.int .i64 x).wf = true := by
  show (decide ((-9223372036854775808 : Int) ≤ x) && decide (x ≤ (9223372036854775807 : Int))) = true
  exact h
theorem lawCt : Maps.Keyed Try.prog 128 := Maps.Keyed.of_law (deep_law_laid (by kernel_rfl : laidOutB Try.prog = true) (m := 5) (by omega) (of_decide_eq_true (by kernel_rfl)) (by kernel_rfl) (by kernel_rfl))
theorem key_five {P : Program} {k j : TypeId} {f0 f1 f2 g0 g1 g2 : Field} (hu : P.underlying k = some (.struct #[f0, f1, f2])) (hj : P.underlying j = some (.struct #[g0, g1, g2])) (hi : ∀ t, t = f0.type ∨ t = f1.type ∨ t = g0.type ∨ t = g1.type ∨ t = g2.type → P.underlying t = some (.int .i64) ∧ P.cellsOf t = 1) (t2 : f2.type = j)
    (o0 : f0.offset = 0) (o1 : f1.offset = 1) (o2 : f2.offset = 2) (p0 : g0.offset = 0) (p1 : g1.offset = 1) (p2 : g2.offset = 2)
    (n0 : (f0.name != "_") = true) (n1 : (f1.name != "_") = true) (n2 : (f2.name != "_") = true) (m0 : (g0.name != "_") = true) (m1 : (g1.name != "_") = true) (m2 : (g2.name != "_") = true)
    (hc : P.cellsOf k = 5) (hcj : P.cellsOf j = 3) (hk : P.keyType k = true) (hs : 1 < P.types.size) {a b x y z : Int} (ha : (Lit.int .i64 a).wf = true) (hb : (Lit.int .i64 b).wf = true) (hx : (Lit.int .i64 x).wf = true) (hy : (Lit.int .i64 y).wf = true) (hz : (Lit.int .i64 z).wf = true) :
    (keyOf P k (.agg #[.int .i64 a, .int .i64 b, .int .i64 x, .int .i64 y, .int .i64 z])).isSome = true := by
  obtain ⟨m, hm⟩ : ∃ m, P.types.size = m + 2 := ⟨P.types.size - 2, by omega⟩
  obtain ⟨a1, a2⟩ := hi f0.type (by simp)
  obtain ⟨b1, b2⟩ := hi f1.type (by simp)
  obtain ⟨c1, c2⟩ := hi g0.type (by simp)
  obtain ⟨d1, d2⟩ := hi g1.type (by simp)
  obtain ⟨e1, e2⟩ := hi g2.type (by simp)
  clear hi
  have hg : ∀ (i : Nat) (x : i < 3), ¬[g0, g1, g2][i].name = "_" := by
    intro i hx
    match i, hx with
    | 0, _ => simpa using m0
    | 1, _ => simpa using m1
    | 2, _ => simpa using m2
  unfold keyOf
  rw [hu]
  simp [hk, Value.formed, hu, hj, hc, hcj, hm, Program.keyLits, Value.cells, t2, o0, o1, o2, p0, p1, p2, n0, n1, n2, m0, m1, m2, a1, a2, b1, b2, c1, c2, d1, d2, e1, e2, ha, hb, hx, hy, hz, hg]
theorem ct_key {p : CtK} (h0 : rng p.1 = true) (h1 : rng p.2.1 = true) (h2 : rng p.2.2.1 = true) (h3 : rng p.2.2.2.1 = true) (h4 : rng p.2.2.2.2 = true) : KOk Try.prog 128 ctV p :=
  key_five Try.underlying128 Try.underlying71 (fun t ht => by rcases ht with rfl | rfl | rfl | rfl | rfl <;> exact ⟨by kernel_rfl, by kernel_rfl⟩) rfl rfl rfl rfl rfl rfl rfl (by decide) (by decide) (by decide) (by decide) (by decide) (by decide) (by kernel_rfl) (by kernel_rfl) (by kernel_rfl) (of_decide_eq_true (by kernel_rfl)) (rng_wf h0) (rng_wf h1) (rng_wf h2) (rng_wf h3) (rng_wf h4)
/-- The frame in block F, whose map lies in block M, of the parts that are read since w0; n: no more stores so far. -/
structure Frm (w0 w : World) (F M : Nat) (A : Option Addr) (c : Nat) (ps : List (List S71)) (n : Nat) : Prop where
  bel : Below w0.heap.size w0 w
  hF : w.heap[F]? = some (.cells #[.slice A ps.length c, .map (some M)] 110 (0, 0))
  hM : ∃ L : List (CtK × Bool), VM Try.prog 128 ctV Value.bool w M L ∧ L.length ≤ n ∧ ∀ p ∈ L, p.2 = hitC (prt ps p.1.1) (prt ps p.1.2.1) p.1.2.2.1 p.1.2.2.2.1 p.1.2.2.2.2
  lo : w0.heap.size ≤ M
  C0 : Kd.C (Kd.slice 71 k71) w0 A ps.length ps
  hc : ps.length ≤ c
theorem Frm.ne {w0 w : World} {F M : Nat} {A : Option Addr} {c : Nat} {ps : List (List S71)} {n : Nat} (h : Frm w0 w F M A c ps n) : F ≠ M := by
  intro e
  obtain ⟨L, hv, _⟩ := h.hM
  obtain ⟨es, cl, hm, _⟩ := hv.1
  have h1 := h.hF
  rw [e, hm] at h1
  cases h1
theorem Frm.below {w0 w w' : World} {F M : Nat} {A : Option Addr} {c : Nat} {ps : List (List S71)} {n : Nat} (h : Frm w0 w F M A c ps n) (hb : Below w.heap.size w w') : Frm w0 w' F M A c ps n := by
  obtain ⟨L, hv, hl, hp⟩ := h.hM
  exact ⟨below_step h.bel hb, blk_below h.hF hb, ⟨L, hv.below hb, hl, hp⟩, h.lo, h.C0, h.hc⟩
theorem Frm.C {w0 w : World} {F M : Nat} {A : Option Addr} {c : Nat} {ps : List (List S71)} {n : Nat} (h : Frm w0 w F M A c ps n) : Kd.C (Kd.slice 71 k71) w A ps.length ps := Kd.C_below h.C0 h.bel
set_option maxHeartbeats 800000 in
theorem impl_newFrame.calls (A : Option Addr) (c : Nat) (ps : List (List S71)) (w : World) (hr : Kd.C (Kd.slice 71 k71) w A ps.length ps) (hc : ps.length ≤ c) :
    Calls Try.prog 64 #[.agg #[.slice A ps.length c]] w fun e w' => ∃ F M : Nat, e = .returned (.pointer (some ⟨F, 0, none⟩)) ∧ Frm w w' F M A c ps 0 := by
  have HR := Aside0.mk hr
  clear hr
  have hmm := @run_makeMap Try.prog
  have hu1 := Try.underlying29
  have hu2 := Try.underlying110
  go_enter Try.func64, Try.ntmps64
  go_wp2
  go_ret
  refine ⟨w.heap.size + 1 + 1, w.heap.size + 1, rfl, ?_⟩
  exact ⟨below_alloc (below_alloc (below_alloc (Below.refl _ _) _) _) _, (by simpa using heap_alloc_new ((w.alloc (.cells #[.slice A ps.length c] 29)).alloc (.map #[] 0)) (.cells #[.slice A ps.length c, .map (some (w.heap.size + 1))] 110 (0, 0))), ⟨[], by simpa using (VM.made (P := Try.prog) (k := 128) (kv := ctV) (ev := Value.bool) (w.alloc (.cells #[.slice A ps.length c] 29))).alloc _, Nat.le_refl _, fun p hp => by cases hp⟩, by omega, HR.out, hc⟩

end Go.Proofs.Ytjgnlakgojookaa.Q

/- Written by a program of this session (wip/tools/pp.py) out of the translation, with the kit's printer. -/
import Derived.Test.YtgfpmgmelhbkoaaQ0
import Derived.Test.YtgfpmgmelhbkoaaQGimplparts
import Derived.Test.YtgfpmgmelhbkoaaQ13
import Derived.Test.YtgfpmgmelhbkoaaQ14
import Derived.Test.YtgfpmgmelhbkoaaQ15
import Derived.LoopTactic
import Derived.Deep.RegionLaw
import Derived.Test.YtgfpmgmelhbkoaaVMap
namespace Go.Proofs.Ytgfpmgmelhbkoaa.Q
open Go.RowKit Go.Proofs.YtgfpmgmelhbkoaaW.PrintWords Go.Proofs.YtgfpmgmelhbkoaaW.PrintLast Go.Proofs.YtgfpmgmelhbkoaaW.PrintMore
attribute [local go_sem] max2_int min2_int max_two min_two max_three min_three max_four min_four
set_option linter.unusedVariables false
set_option linter.unusedSimpArgs false

/-! ### impl_holes: walked by hand: how many holes there are -/
def RC (p : S35) (c : List Value) : Prop := c = [.int .i64 p.f0, .int .i64 p.f1]
abbrev OC (W : World) (base : Nat) (v : Value) (l : List S35) : Prop := OwnRow RC 35 2 W base v l
theorem OC.below {W W' : World} {base : Nat} {v : Value} {l : List S35} (h : OC W base v l) (hb : Below W.heap.size W W') : OC W' base v l := by
  obtain ⟨inner, ho, hr⟩ := h
  exact ⟨inner, own_move ho (fun k hk => hb.block k (ho.lt k hk).2), hr⟩
def impl_holes.row (k : Nat) (sh : List S35) (y xe : Int) : Nat → Int → List S35 → Option (List S35)
  | 0, _, _ => none
  | n + 1, x, fr => if x ≤ xe then (impl_Cell_19.f k sh x y).bind fun b => if fr.length < 1000000 then impl_holes.row k sh y xe n (x + 1) (if b = true then fr else fr ++ [⟨x, y⟩]) else none else some fr
def impl_holes.rows (k : Nat) (sh : List S35) (x0 xe ye : Int) : Nat → Int → List S35 → Option (List S35)
  | 0, _, _ => none
  | n + 1, y, fr => if y ≤ ye then (impl_holes.row k sh y xe k x0 fr).bind fun fr' => impl_holes.rows k sh x0 xe ye n (y + 1) fr' else some fr
def impl_holes.ord : List Int → List Int → List Int
  | [], o => o
  | x :: r, o => impl_holes.ord r (if x ∈ o then o else o ++ [x])
def impl_holes.f (k : Nat) (sh : List S35) : Option Nat :=
  (impl_corner.f k sh).bind fun c => (impl_reach.f k sh).bind fun e => if (-500 ≤ c.1 ∧ c.1 ≤ 500) ∧ (-500 ≤ c.2 ∧ c.2 ≤ 500) ∧ (-500 ≤ e.1 ∧ e.1 ≤ 500) ∧ (-500 ≤ e.2 ∧ e.2 ≤ 500) then
    (impl_holes.rows k sh (c.1 - 1) (e.1 + 1) (e.2 + 1) k (c.2 - 1) []).bind fun fr => (impl_parts.f k fr).bind fun p => if p.length = fr.length ∧ (p.all fun x => prng x) = true ∧ 1 ≤ p.length then some ((impl_holes.ord p []).length - 1) else none else none
theorem impl_holes.row_mono (k : Nat) (sh : List S35) (y xe : Int) : ∀ n x fr, LeO (impl_holes.row k sh y xe n x fr) (impl_holes.row (k + 1) sh y xe (n + 1) x fr)
  | 0, x, fr => LeO.none _
  | n + 1, x, fr => by
    simp only [impl_holes.row]
    split
    · refine LeO.bind (impl_Cell_19.mono _ _ _ _) (fun b => ?_)
      split
      · exact impl_holes.row_mono k sh y xe n _ _
      · exact LeO.refl _
    · exact LeO.refl _
theorem impl_holes.rows_mono (k : Nat) (sh : List S35) (x0 xe ye : Int) : ∀ n y fr, LeO (impl_holes.rows k sh x0 xe ye n y fr) (impl_holes.rows (k + 1) sh x0 xe ye (n + 1) y fr)
  | 0, y, fr => LeO.none _
  | n + 1, y, fr => by
    simp only [impl_holes.rows]
    split
    · exact LeO.bind (impl_holes.row_mono k sh y xe k x0 fr) (fun f' => impl_holes.rows_mono k sh x0 xe ye n _ _)
    · exact LeO.refl _
theorem impl_holes.mono : ∀ a0 k, LeO (impl_holes.f k a0) (impl_holes.f (k + 1) a0) := by
  intro a0 k
  unfold impl_holes.f
  refine LeO.bind (impl_corner.mono _ _) (fun c => LeO.bind (impl_reach.mono _ _) (fun e => ?_))
  split
  · exact LeO.bind (impl_holes.rows_mono _ _ _ _ _ _ _ _) (fun fr => LeO.bind (impl_parts.mono _ _) (fun p => LeO.refl _))
  · exact LeO.refl _
theorem own_form {W : World} {B : Nat} {e : TypeId} {s n : Nat} {v : Value} {xs : List Value} (h : W.ownsRow B e s v n xs) : ∃ ao cap, v = .slice ao n cap := by
  rcases h.2 with ⟨hv, h0⟩ | ⟨g, cap, cur, hv, _⟩
  · exact ⟨none, 0, by rw [hv, h0]⟩
  · exact ⟨_, _, hv⟩
theorem oc_nil (W : World) (base : Nat) (h : base ≤ W.heap.size) : OC (W.alloc (.cells #[] 35)) base (.slice (some ⟨W.heap.size, 0, none⟩) 0 0) [] := OwnRow.lit W base (Reps.none _ _) h (by simp)
/-- The free cells that have been found, beside the two boxes. -/
structure FB (w w2 : World) (x0 y0 xe ye : Int) (W : World) (v : Value) (f : List S35) : Prop where
  oc : OC W (w2.heap.size + 2) v f
  b1 : W.heap[w2.heap.size]? = some (.cells #[.int .i64 x0, .int .i64 y0] 35 (0, 0))
  b2 : W.heap[w2.heap.size + 1]? = some (.cells #[.int .i64 xe, .int .i64 ye] 35 (0, 0))
  bel : Below w.heap.size w W
  lo : w.heap.size ≤ w2.heap.size
theorem FB.below {w w2 W W' : World} {x0 y0 xe ye : Int} {v : Value} {f : List S35} (h : FB w w2 x0 y0 xe ye W v f) (hb : Below W.heap.size W W') : FB w w2 x0 y0 xe ye W' v f :=
  ⟨h.oc.below hb, blk_below h.b1 hb, blk_below h.b2 hb, below_step h.bel hb, h.lo⟩
theorem FB.top {w w2 W : World} {x0 y0 xe ye : Int} {v : Value} {f : List S35} (h : FB w w2 x0 y0 xe ye W v f) : w2.heap.size + 2 ≤ W.heap.size := by
  have := blk_lt h.b2
  omega
theorem FB.made {w w2 : World} (h : Below w.heap.size w w2) (x0 y0 xe ye : Int) : FB w w2 x0 y0 xe ye (((w2.alloc (.cells #[.int .i64 x0, .int .i64 y0] 35)).alloc (.cells #[.int .i64 xe, .int .i64 ye] 35)).alloc (.cells #[] 35)) (.slice (some ⟨w2.heap.size + 1 + 1, 0, none⟩) 0 0) [] := by
  have e1 : (w2.alloc (.cells #[.int .i64 x0, .int .i64 y0] 35)).heap.size = w2.heap.size + 1 := by simp
  have e2 : ((w2.alloc (.cells #[.int .i64 x0, .int .i64 y0] 35)).alloc (.cells #[.int .i64 xe, .int .i64 ye] 35)).heap.size = w2.heap.size + 1 + 1 := by simp
  refine ⟨?_, blk_alloc (blk_alloc (heap_alloc_new w2 _) _) _, blk_alloc ?_ _, below_alloc (below_alloc (below_alloc h _) _) _, below_size h⟩
  · have h := oc_nil ((w2.alloc (.cells #[.int .i64 x0, .int .i64 y0] 35)).alloc (.cells #[.int .i64 xe, .int .i64 ye] 35)) (w2.heap.size + 2) (by rw [e2]; omega)
    rw [e2] at h
    exact h
  · have h := heap_alloc_new (w2.alloc (.cells #[.int .i64 x0, .int .i64 y0] 35)) (.cells #[.int .i64 xe, .int .i64 ye] 35 (0, 0))
    rw [e1] at h
    exact h
theorem OC.C {W : World} {base : Nat} {v : Value} {l : List S35} (h : OC W base v l) : ∃ A c, v = .slice A l.length c ∧ l.length ≤ c ∧ Kd.C k35 W A l.length l := by
  obtain ⟨A, c, e, hl, hr⟩ := OwnRow.reads h
  refine ⟨A, c, e, hl, hr.imp_ (Below.refl _ _) (fun p c hp => ?_)⟩
  rw [show c = [.int .i64 p.f0, .int .i64 p.f1] from hp]
  exact k35.K_of_M (k35_mkM W 0 (fun _ => True) p)
theorem OC.lt {W : World} {base : Nat} {v : Value} {l : List S35} (h : OC W base v l) : ∀ k, v.ownBlock = some k → base ≤ k ∧ k < W.heap.size := by
  obtain ⟨inner, ho, _⟩ := h
  exact ho.lt
theorem OC.some {W : World} {base : Nat} {v : Value} {l : List S35} (h : OC W base v l) (hl : 1 ≤ l.length) : ∃ g, v.ownBlock = some g := by
  obtain ⟨inner, ho, _⟩ := h
  obtain ⟨g, cap, rfl, _⟩ := ho.form (by omega)
  exact ⟨g, rfl⟩
abbrev ikV (x : Int) : Value := .int .i64 x
abbrev idV (v : Value) : Value := v
theorem ne_types {W : World} {b1 b2 e1 e2 s1 s2 n1 n2 : Nat} {v1 v2 : Value} {xs1 xs2 : List Value} (h1 : W.ownsRow b1 e1 s1 v1 n1 xs1) (h2 : W.ownsRow b2 e2 s2 v2 n2 xs2) (hne : e1 ≠ e2) : v1.ownBlock = none ∨ v1.ownBlock ≠ v2.ownBlock := by
  cases hv : v1.ownBlock with
  | none => exact .inl rfl
  | some k =>
    refine .inr (fun e => ?_)
    obtain ⟨c1, hc1⟩ := own_typed h1 k hv
    obtain ⟨c2, hc2⟩ := own_typed h2 k e.symm
    rw [hc1] at hc2
    injection hc2 with hc2
    injection hc2 with _ hc2
    exact hne hc2
/-- The groups that have been found: a map in block M, each group's row behind the heap W5; the order's row began in block go. -/
structure GB (W5 : World) (M go : Nat) (W : World) (L : List (Int × Value)) (N : Nat) (v : Value) (o : List Int) : Prop where
  vm : VM Try.prog 2 ikV idV W M L
  row : ∀ x u, mget L x = some u → ∃ l : List S35, 1 ≤ l.length ∧ l.length ≤ N ∧ OC W W5.heap.size u l
  dis : ∀ x y u u', x ≠ y → mget L x = some u → mget L y = some u' → u.ownBlock ≠ u'.ownBlock
  ord : W.ownsRow 0 2 1 v o.length (nums .i64 o)
  obk : ∀ b, v.ownBlock = some b → b = go ∨ W5.heap.size ≤ b
  fr : ∀ b, b < W5.heap.size → b ≠ M → b ≠ go → W.heap[b]? = W5.heap[b]?
  top : W5.heap.size ≤ W.heap.size
  len : L.length = N
  hM : M < W5.heap.size
  hMg : M ≠ go
theorem GB.below {W5 : World} {M go : Nat} {W W' : World} {L : List (Int × Value)} {N : Nat} {v : Value} {o : List Int} (h : GB W5 M go W L N v o) (hb : Below W.heap.size W W') : GB W5 M go W' L N v o where
  vm := h.vm.below hb
  row := fun x u hx => by
    obtain ⟨l, l1, l2, l3⟩ := h.row x u hx
    exact ⟨l, l1, l2, l3.below hb⟩
  dis := h.dis
  ord := own_move h.ord (fun k hk => hb.block k (h.ord.lt k hk).2)
  obk := h.obk
  fr := fun b h1 h2 h3 => (hb.block b (by have := h.top; omega)).trans (h.fr b h1 h2 h3)
  top := Nat.le_trans h.top hb.size
  len := h.len
  hM := h.hM
  hMg := h.hMg
theorem GB.ordApp {W5 : World} {M go : Nat} {W W' : World} {L : List (Int × Value)} {N : Nat} {v v' : Value} {o : List Int} {x : Int} (h : GB W5 M go W L N v o) (ho : W'.ownsRow 0 2 1 v' (o ++ [x]).length (nums .i64 (o ++ [x]))) (hg : W.grownBy W' v.ownBlock) (hat : v'.ownBlock = v.ownBlock ∨ ∃ b, v'.ownBlock = some b ∧ W.heap.size ≤ b) : GB W5 M go W' L N v' (o ++ [x]) where
  vm := h.vm.kept hg (fun e => by
    have h1 := h.hM; have h2 := h.hMg
    rcases h.obk M e.symm with h3 | h3 <;> omega)
  row := fun y u hy => by
    obtain ⟨l, l1, l2, l3⟩ := h.row y u hy
    obtain ⟨inner, hi, hr⟩ := l3
    exact ⟨l, l1, l2, inner, hi.kept hg (ne_types hi h.ord (by decide)), hr⟩
  dis := h.dis
  ord := ho
  obk := fun b hb => by
    rcases hat with h1 | ⟨b', h1, h2⟩
    · exact h.obk b (h1.symm.trans hb)
    · have := Option.some.inj (h1.symm.trans hb)
      have := h.top
      exact .inr (by omega)
  fr := fun b h1 h2 h3 => (hg.block b (by have := h.top; omega) (fun e => by
    rcases h.obk b e.symm with h4 | h4
    · exact h3 h4
    · omega)).trans (h.fr b h1 h2 h3)
  top := Nat.le_trans h.top hg.size
  len := h.len
  hM := h.hM
  hMg := h.hMg
theorem GB.bel {w W5 : World} {M go : Nat} {W W' : World} {L : List (Int × Value)} {N : Nat} {v : Value} {o : List Int} (h : GB W5 M go W L N v o) (hb : Below w.heap.size w W) (h1 : w.heap.size ≤ go) (h2 : w.heap.size ≤ W5.heap.size) (hg : W.grownBy W' v.ownBlock) : Below w.heap.size w W' :=
  hb.grown hg hb.size (fun k hk => by
    rcases h.obk k hk with h3 | h3 <;> omega)
theorem GB.start {wr w5 : World} (hv : VM Try.prog 2 ikV idV w5 wr.heap.size []) (ho : w5.ownsRow 0 2 1 (.slice (some ⟨wr.heap.size + 1, 0, none⟩) 0 0) 0 (nums .i64 [])) (hs : wr.heap.size + 1 + 1 ≤ w5.heap.size) :
    GB w5 wr.heap.size (wr.heap.size + 1) w5 [] 0 (.slice (some ⟨wr.heap.size + 1, 0, none⟩) 0 0) [] where
  vm := hv
  row := fun x u hu => by cases hu
  dis := fun x y u u' _ hu => by cases hu
  ord := ho
  obk := fun b hb => by
    have h8 : wr.heap.size + 1 = b := Option.some.inj hb
    exact .inl h8.symm
  fr := fun _ _ _ _ => rfl
  top := Nat.le_refl _
  len := rfl
  hM := by omega
  hMg := by omega
theorem lawI : Maps.Keyed Try.prog 2 := Maps.int_keyed Try.underlying2
theorem ikV_inj (x y : Int) (h : ikV x = ikV y) : x = y := by
  simp [ikV] at h
  exact h
theorem int_key {x : Int} (h : prng x = true) : KOk Try.prog 2 ikV x := by
  unfold KOk keyOf
  rw [Try.underlying2]
  simp [ikV, mapKey, Try.underlying2, prng_wf h]
theorem mget_cons (x y : Int) (v : Value) (L : List (Int × Value)) : mget ((x, v) :: L) y = if x = y then some v else mget L y := by
  by_cases e : x = y
  · rw [if_pos e]; simp [mget, e]
  · rw [if_neg e]; simp [mget, e]
theorem mget_mem {x : Int} {v : Value} : ∀ {L : List (Int × Value)}, mget L x = some v → (x, v) ∈ L
  | [], h => by cases h
  | (y, u) :: r, h => by
    rw [mget_cons] at h
    by_cases e : y = x
    · rw [if_pos e] at h
      obtain rfl := Option.some.inj h
      rw [e]
      exact List.mem_cons_self
    · rw [if_neg e] at h
      exact List.mem_cons_of_mem _ (mget_mem h)
theorem GB.other {W5 : World} {M go : Nat} {W W' : World} {L : List (Int × Value)} {N n : Nat} {v v' : Value} {o : List Int} {xs : List Value} (h : GB W5 M go W L N v o) (ho : W.ownsRow W5.heap.size 25 1 v' n xs) (hg : W.grownBy W' v'.ownBlock) : GB W5 M go W' L N v o where
  vm := h.vm.kept hg (fun e => by
    have h1 := h.hM
    have h2 := (ho.lt M e.symm).1
    omega)
  row := fun y u hy => by
    obtain ⟨l, l1, l2, l3⟩ := h.row y u hy
    obtain ⟨inner, hi, hr⟩ := l3
    exact ⟨l, l1, l2, inner, hi.kept hg (ne_types hi ho (by decide)), hr⟩
  dis := h.dis
  ord := h.ord.kept hg (ne_types h.ord ho (by decide))
  obk := h.obk
  fr := fun b h1 h2 h3 => (hg.block b (by have := h.top; omega) (fun e => by
    have := (ho.lt b e.symm).1
    omega)).trans (h.fr b h1 h2 h3)
  top := Nat.le_trans h.top hg.size
  len := h.len
  hM := h.hM
  hMg := h.hMg
theorem mem_new {L : List (Int × Value)} {o : List Int} {x : Int} {v : Value} (h : ∀ y, (mget L y).isSome = true ↔ y ∈ o) : ∀ y, (mget ((x, v) :: L) y).isSome = true ↔ y ∈ o ++ [x] := by
  intro y
  rw [mget_cons]
  by_cases e : x = y
  · rw [if_pos e]; simp [e]
  · rw [if_neg e, h y, List.mem_append]
    constructor
    · exact .inl
    · rintro (h1 | h1)
      · exact h1
      · exact absurd (List.mem_singleton.1 h1).symm e
theorem mem_old {L : List (Int × Value)} {o : List Int} {x : Int} {v : Value} (h : ∀ y, (mget L y).isSome = true ↔ y ∈ o) (hx : x ∈ o) : ∀ y, (mget ((x, v) :: L) y).isSome = true ↔ y ∈ o := by
  intro y
  rw [mget_cons]
  by_cases e : x = y
  · rw [if_pos e]; simp [← e, hx]
  · rw [if_neg e, h y]
theorem OC.form {W : World} {base : Nat} {v : Value} {l : List S35} (h : OC W base v l) (hl : 1 ≤ l.length) : ∃ g cap, v = .slice (Option.some ⟨g, 0, none⟩) l.length cap ∧ base ≤ g ∧ g < W.heap.size := by
  obtain ⟨inner, ho, _⟩ := h
  exact ho.form (by omega)
theorem OC.typed {W : World} {base : Nat} {v : Value} {l : List S35} (h : OC W base v l) : ∀ b, v.ownBlock = Option.some b → ∃ cells, W.heap[b]? = Option.some (.cells cells 35 (0, 0)) := by
  obtain ⟨inner, ho, _⟩ := h
  exact own_typed ho
theorem GB.grpApp {W5 : World} {M go : Nat} {W W' W2 : World} {L : List (Int × Value)} {N : Nat} {v vx v1 : Value} {o : List Int} {x : Int} {l : List S35} (h : GB W5 M go W L N v o)
    (hx : mget L x = some vx ∨ (mget L x = none ∧ vx.ownBlock = none)) (hl1 : 1 ≤ l.length) (hl2 : l.length ≤ N + 1) (ho : OC W' W5.heap.size v1 l) (hg : W.grownBy W' vx.ownBlock) (hvx : ∀ b, vx.ownBlock = some b → W5.heap.size ≤ b) (hat : v1.ownBlock = vx.ownBlock ∨ ∃ b, v1.ownBlock = some b ∧ W.heap.size ≤ b)
    (hty : ∀ b, vx.ownBlock = some b → ∃ cells, W.heap[b]? = some (.cells cells 35 (0, 0)))
    (hv : VM Try.prog 2 ikV idV W2 M ((x, v1) :: L)) (hg2 : W'.grownBy W2 (some M)) : GB W5 M go W2 ((x, v1) :: L) (N + 1) v o := by
  have hnm : ∀ b, W5.heap.size ≤ b → some b ≠ some M := fun b hb e => by
    have := h.hM
    have := Option.some.inj e
    omega
  have old : ∀ y u, x ≠ y → mget L y = some u → u.ownBlock ≠ vx.ownBlock := fun y u hne hu => by
    rcases hx with h1 | ⟨h1, h2⟩
    · exact h.dis y x u vx (fun e => hne e.symm) hu h1
    · obtain ⟨l', l1, _, l3⟩ := h.row y u hu
      obtain ⟨g, hg'⟩ := l3.some l1
      rw [hg', h2]
      simp
  refine ⟨hv, fun y u hu => ?_, fun y z u u' hne hu hu' => ?_, ?_, h.obk, fun b h1 h2 h3 => ?_, Nat.le_trans h.top (Nat.le_trans hg.size hg2.size), by rw [List.length_cons, h.len], h.hM, h.hMg⟩
  · rw [mget_cons] at hu
    by_cases e : x = y
    · rw [if_pos e] at hu
      obtain rfl := Option.some.inj hu
      refine ⟨l, hl1, hl2, OwnRow.other ho hg2 (Or.inr (fun e => ?_))⟩
      exact hnm M (by have := (ho.lt M e).1; omega) rfl
    · rw [if_neg e] at hu
      obtain ⟨l', l1, l2, l3⟩ := h.row y u hu
      refine ⟨l', l1, by omega, OwnRow.other (OwnRow.other l3 hg (Or.inr (old y u e hu))) hg2 (Or.inr (fun e2 => ?_))⟩
      exact hnm M (by have := (l3.lt M e2).1; omega) rfl
  · have key : ∀ y u, x ≠ y → mget L y = some u → v1.ownBlock ≠ u.ownBlock := fun y u hne hu e => by
      rcases hat with h1 | ⟨b, h1, h2⟩
      · exact old y u hne hu (e.symm.trans h1)
      · obtain ⟨l', l1, _, l3⟩ := h.row y u hu
        have := (l3.lt b (e.symm.trans h1)).2
        omega
    rw [mget_cons] at hu hu'
    by_cases e : x = y
    · rw [if_pos e] at hu
      obtain rfl := Option.some.inj hu
      rw [if_neg (fun e2 => hne (e.symm.trans e2))] at hu'
      exact key z u' (fun e2 => hne (e.symm.trans e2)) hu'
    · rw [if_neg e] at hu
      by_cases e2 : x = z
      · rw [if_pos e2] at hu'
        obtain rfl := Option.some.inj hu'
        exact fun e3 => key y u e hu e3.symm
      · rw [if_neg e2] at hu'
        exact h.dis y z u u' hne hu hu'
  · refine (h.ord.kept hg ?_).kept hg2 (Or.inr (fun e => ?_))
    · cases hvo : v.ownBlock with
      | none => exact .inl rfl
      | some b =>
        refine .inr (fun e => ?_)
        obtain ⟨c1, hc1⟩ := own_typed h.ord b hvo
        obtain ⟨c2, hc2⟩ := hty b e.symm
        rw [hc1] at hc2
        injection hc2 with hc2
        injection hc2 with _ hc2
        exact absurd hc2 (by decide)
    · have h1 := h.hM; have h2 := h.hMg
      rcases h.obk M e with h3 | h3 <;> omega
  · refine ((hg2.block b (Nat.lt_of_lt_of_le (Nat.lt_of_lt_of_le h1 h.top) hg.size) (fun e => h2 (Option.some.inj e))).trans (hg.block b (Nat.lt_of_lt_of_le h1 h.top) (fun e => ?_))).trans (h.fr b h1 h2 h3)
    have := hvx b e.symm
    omega
theorem FB.app {w w2 W W' : World} {x0 y0 xe ye : Int} {v v' : Value} {f f' : List S35} (h : FB w w2 x0 y0 xe ye W v f) (ho : OC W' (w2.heap.size + 2) v' f') (hg : W.grownBy W' v.ownBlock) : FB w w2 x0 y0 xe ye W' v' f' := by
  have hlo : ∀ k, v.ownBlock = some k → w2.heap.size + 2 ≤ k := fun k hk => by
    obtain ⟨inner, ho, _⟩ := h.oc
    exact (ho.lt k hk).1
  refine ⟨ho, blk_grown h.b1 hg (fun e => ?_), blk_grown h.b2 hg (fun e => ?_), h.bel.grown hg h.bel.size (fun k hk => ?_), h.lo⟩
  · have := hlo _ e.symm; omega
  · have := hlo _ e.symm; omega
  · have := hlo _ hk
    have := h.lo
    omega
set_option maxRecDepth 100000 in
set_option maxHeartbeats 4000000 in
theorem impl_holes.calls (k : Nat) (A : Option Addr) (c : Nat) (sh : List S35) (m : Nat) (w : World) (hr : Kd.C k35 w A sh.length sh) (hc : sh.length ≤ c) (h : impl_holes.f k sh = some m) :
    Calls Try.prog 18 #[.slice A sh.length c] w fun e w' => (∃ A2 c2, e = .returned (.slice A2 m c2)) ∧ Below w.heap.size w w' := by
  have HR := Aside0.mk hr
  clear hr
  unfold impl_holes.f at h
  replace h := Option.bind_eq_some_iff.mp h
  obtain ⟨⟨x0, y0⟩, h1, h⟩ := h
  replace h := Option.bind_eq_some_iff.mp h
  obtain ⟨⟨xe, ye⟩, h2, h⟩ := h
  simp only at h
  split at h
  case isFalse => cases h
  rename_i hb
  obtain ⟨⟨bx0, bx1⟩, ⟨by0, by1⟩, ⟨ex0, ex1⟩, ⟨ey0, ey1⟩⟩ := hb
  replace h := Option.bind_eq_some_iff.mp h
  obtain ⟨fr, h3, h⟩ := h
  replace h := Option.bind_eq_some_iff.mp h
  obtain ⟨p, h4, h⟩ := h
  split at h
  case isFalse => cases h
  rename_i hp
  obtain rfl := Option.some.inj h
  have H1 := Aside0.mk h1
  have H2 := Aside0.mk h2
  have H3 := Aside0.mk h3
  have H4 := Aside0.mk h4
  have HPP := Aside0.mk hp
  clear h h1 h2 h3 h4 hp
  have hu35 := Try.underlying35
  have wx0 : wrap64 (x0 - 1) = x0 - 1 := by unfold wrap64; omega
  have wy0 : wrap64 (y0 - 1) = y0 - 1 := by unfold wrap64; omega
  have wxe : wrap64 (xe + 1) = xe + 1 := by unfold wrap64; omega
  have wye : wrap64 (ye + 1) = ye + 1 := by unfold wrap64; omega
  go_enter Try.func18, Try.ntmps18
  go_wp2_with (first
    | (go_at_call 32; (with_reducible refine (impl_corner.calls k _ _ sh x0 y0 _ HR.out hc H1.out).mono ?_); rintro e w1 ⟨rfl, hb1⟩; have HB1 := Aside0.mk hb1; clear hb1)
    | (go_at_call 33; (with_reducible refine (impl_reach.calls k _ _ sh xe ye _ (Kd.C_below HR.out HB1.out) hc H2.out).mono ?_); rintro e w2 ⟨rfl, hb2⟩; have HB2 := Aside0.mk (below_step HB1.out hb2); clear hb2))
  have hlo2 := below_size HB2.out
  go_loopw [5, 6] (fun v i wr => ∃ (y : Int) (n : Nat) (f : List S35), i = .int .i64 y ∧ y0 - 1 ≤ y ∧ y ≤ ye + 2 + 2000 ∧ Aside0 (impl_holes.rows k sh (x0 - 1) (xe + 1) (ye + 1) n y f = some fr) ∧ Aside0 (FB w w2 x0 y0 xe ye wr v f)) (fun _ i _ => (ye + 2 - intOf i).toNat)
  case atStart =>
    exact ⟨y0 - 1, k, [], rfl, by omega, by omega, H3, ⟨FB.made HB2.out x0 y0 xe ye⟩⟩
  case round =>
    obtain ⟨y, n, f, rfl, hy0, hy1, HG, HF⟩ := hrel
    have z10 := (blk_cell HF.out.b1 0).trans rfl
    have z11 := (blk_cell HF.out.b1 1).trans rfl
    have z20 := (blk_cell HF.out.b2 0).trans rfl
    have z21 := (blk_cell HF.out.b2 1).trans rfl
    have hG := HG.out
    cases n with
    | zero => cases hG
    | succ n =>
    unfold impl_holes.rows at hG
    by_cases hy : y ≤ ye + 1
    · rw [if_pos hy] at hG
      have HG2 := Aside0.mk hG
      clear hG HG
      have wy1 : wrap64 (y + 1) = y + 1 := by unfold wrap64; omega
      go_wp2
      go_loopw [5, 7] (fun v i wr3 => ∃ (x : Int) (n2 : Nat) (f : List S35), i = .int .i64 x ∧ x0 - 1 ≤ x ∧ x ≤ xe + 2 + 2000 ∧ Aside0 (((impl_holes.row k sh y (xe + 1) n2 x f).bind fun fr' => impl_holes.rows k sh (x0 - 1) (xe + 1) (ye + 1) n (y + 1) fr') = some fr) ∧ Aside0 (FB w w2 x0 y0 xe ye wr3 v f)) (fun _ i _ => (xe + 2 - intOf i).toNat)
      case atStart => exact ⟨x0 - 1, k, f, rfl, by omega, by omega, HG2, HF⟩
      case round =>
        obtain ⟨x, n2, f, rfl, hx0, hx1, HG, HF⟩ := hrel
        clear HG2 z10 z11 z20 z21
        have z10 := (blk_cell HF.out.b1 0).trans rfl
        have z11 := (blk_cell HF.out.b1 1).trans rfl
        have z20 := (blk_cell HF.out.b2 0).trans rfl
        have z21 := (blk_cell HF.out.b2 1).trans rfl
        have hG := HG.out
        cases n2 with
        | zero => cases hG
        | succ n2 =>
        unfold impl_holes.row at hG
        by_cases hx : x ≤ xe + 1
        · rw [if_pos hx] at hG
          obtain ⟨f1, hG1, hG2⟩ := Option.bind_eq_some_iff.mp hG
          obtain ⟨b, hbb, hG3⟩ := Option.bind_eq_some_iff.mp hG1
          by_cases hfl : f.length < 1000000
          case neg => rw [if_neg hfl] at hG3; cases hG3
          rw [if_pos hfl] at hG3
          have HBB := Aside0.mk hbb
          have HG4 := Aside0.mk (show ((impl_holes.row k sh y (xe + 1) n2 (x + 1) (if b = true then f else f ++ [⟨x, y⟩])).bind fun fr' => impl_holes.rows k sh (x0 - 1) (xe + 1) (ye + 1) n (y + 1) fr') = some fr by rw [hG3]; exact hG2)
          clear hG hG1 hG2 hG3 hbb HG
          have wx1 : wrap64 (x + 1) = x + 1 := by unfold wrap64; omega
          have HF1 := Aside0.mk (HF.out.below (below_alloc (Below.refl _ _) (.cells #[.int .i64 x, .int .i64 y] 35)))
          have HX := Aside0.mk (heap_alloc_new wr (.cells #[.int .i64 x, .int .i64 y] 35 (0, 0)))
          cases b with
          | true =>
            go_wp2_with (go_at_call 19; (with_reducible refine (impl_Cell_19.calls k _ _ sh x y true _ (Kd.C_below HR.out HF1.out.bel) hc HBB.out).mono ?_); rintro e w5 ⟨rfl, hb5⟩; have HF5 := Aside0.mk (HF1.out.below hb5); clear hb5)
            go_roundw
            case rel => exact ⟨x + 1, n2, f, by first | rfl | (simp [wx1]; done), by omega, by omega, HG4, HF5⟩
            case measure => simp [intOf]; omega
          | false =>
            go_wp2_with (first
              | (go_at_call 19; (with_reducible refine (impl_Cell_19.calls k _ _ sh x y false _ (Kd.C_below HR.out HF1.out.bel) hc HBB.out).mono ?_); rintro e w5 ⟨rfl, hb5⟩; have HF5 := Aside0.mk (HF1.out.below hb5); have HX5 := blk_below HX.out hb5; have u0 := (blk_cell HX5 0).trans rfl; have u1 := (blk_cell HX5 1).trans rfl; have HT5 := HF5.out.top; clear hb5)
              | (at_builtin; refine OwnRow.append (w0 := w5) (w2.heap.size + 2) rfl (.tmp 48) (.tmp 50) 25 35 (.agg #[(.int .i64 0), (.int .i64 0)]) 2 16 rfl Try.underlying25 info35 rfl (by decide) (by omega) _ f (⟨x, y⟩ : S35) [.int .i64 x, .int .i64 y] rfl rfl rfl rfl (by simp [Value.oneCell']) HF5.out.oc (Below.refl _ _) HT5 (by omega) ?_; intro v6 w6 ho6 hb6 hg6 _; have HF6 := Aside0.mk (HF5.out.app ho6 hg6); clear ho6 hb6 hg6))
            go_roundw
            case rel => exact ⟨x + 1, n2, f ++ [⟨x, y⟩], by first | rfl | (simp [wx1]; done), by omega, by omega, HG4, HF6⟩
            case measure => simp [intOf]; omega
        · rw [if_neg hx] at hG
          have HG4 := Aside0.mk hG
          clear hG HG
          go_wp2
          go_roundw
          case rel => exact ⟨y + 1, n, f, by first | rfl | (simp [wy1]; done), by omega, by omega, HG4, HF⟩
          case measure => simp [intOf]; omega
    · rw [if_neg hy] at hG
      obtain rfl := Option.some.inj hG
      obtain ⟨af, cf, ef, hcf, hCf⟩ := HF.out.oc.C
      subst ef
      have HCF := Aside0.mk hCf
      have HFB := Aside0.mk HF.out.bel
      have hfl : f.length ≤ 1000000 := by
        have h := H4.out
        unfold impl_parts.f at h
        split at h
        · rename_i h2; exact h2.1
        · cases h
      have hp1 := HPP.out.1
      have hp2 := HPP.out.2.2
      have HPR := Aside0.mk HPP.out.2.1
      obtain ⟨gf, capf, hgf, hgf1, hgf2⟩ : ∃ gf capf, Value.slice af f.length cf = .slice (some ⟨gf, 0, none⟩) f.length capf ∧ w2.heap.size + 2 ≤ gf ∧ gf < wr.heap.size := by
        obtain ⟨inner, ho, _⟩ := HF.out.oc
        exact ho.form (by omega)
      cases hgf
      clear hCf hG HG HF HPP
      have hpl : p.length ≤ 1000000 := by omega
      have HP1F := Aside0.mk hp1
      clear hp1
      have hmm := @run_makeMap Try.prog
      have HM0 := Aside0.mk (VM.alloc (VM.made (P := Try.prog) (k := 2) (kv := ikV) (ev := idV) wr) (.cells #[] 2))
      have HO0 : Aside0 (((wr.alloc (.map #[] 0)).alloc (.cells #[] 2)).ownsRow 0 2 1 (.slice (some ⟨wr.heap.size + 1, 0, none⟩) 0 0) 0 (nums .i64 [])) := by
        have h := World.ownsRow_lit (base := 0) (e := 2) (size := 1) (wr.alloc (.map #[] 0)) #[] 0 (Nat.zero_le _) (by simp [maxLen]) (by simp)
        rw [show (wr.alloc (.map #[] 0)).heap.size = wr.heap.size + 1 by simp] at h
        exact ⟨h⟩
      have HB4 := Aside0.mk (below_alloc (below_alloc (Below.refl wr.heap.size wr) (.map #[] 0)) (.cells #[] 2))
      go_wp2_with (go_at_call 34; refine (impl_parts.calls k _ _ f p _ (Kd.C_below HCF.out HB4.out) hcf H4.out).mono ?_; rintro e w5 ⟨v5, rfl, ho5, hb5⟩; obtain ⟨ap, cp, ep⟩ := Kd.R_slice ho5; subst ep; have HP5 := Aside0.mk ho5; have HB5 := Aside0.mk hb5; clear ho5 hb5)
      clear z10 z11 z20 z21 hy wx0 wy0 wxe wye H1 H2 H3 H4 bx0 bx1 by0 by1 ex0 ex1 ey0 ey1
      obtain ⟨gp, capp, hgp, hgp1, hgp2, _⟩ := Kd.R_form HP5.out (by omega)
      cases hgp
      have hz4 : ((wr.alloc (.map #[] 0)).alloc (.cells #[] 2)).heap.size = wr.heap.size + 1 + 1 := by simp
      rw [hz4] at hgp1
      have HCP := Aside0.mk (Kd.R_reads' HP5.out).2.2
      have hs5 := below_size HB5.out
      rw [hz4] at hs5
      have HG5 := Aside0.mk (GB.start (HM0.out.below HB5.out) (own_move HO0.out (fun k hk => HB5.out.block k (HO0.out.lt k hk).2)) hs5)
      have hw5 : w.heap.size ≤ w5.heap.size := by have := below_size HFB.out; omega
      have hws : w.heap.size ≤ wr.heap.size + 1 := by have := below_size HFB.out; omega
      have HBW := Aside0.mk (below_step (below_step HFB.out HB4.out) HB5.out)
      have HCF5 := Aside0.mk (Kd.C_below HCF.out (below_step HB4.out HB5.out))
      clear HP5 HM0 HO0 HCF HB4 HB5 HFB hmm
      obtain ⟨M0, hM0⟩ : ∃ M0, M0 = wr.heap.size := ⟨_, rfl⟩
      have HMZ := Aside0.mk hM0
      clear hM0
      go_loopw [10, 57] (fun v i wr3 => ∃ (kk : Nat) (L : List (Int × Value)) (o : List Int), i = .int .i64 kk ∧ kk ≤ p.length ∧ o.length ≤ kk ∧ Aside0 (impl_holes.ord (p.drop kk) o = impl_holes.ord p []) ∧ Aside0 (∀ x, (mget L x).isSome = true ↔ x ∈ o) ∧ Aside0 (GB w5 wr.heap.size (wr.heap.size + 1) wr3 L kk v o) ∧ Aside0 (Below w.heap.size w wr3)) (fun _ i _ => p.length - (intOf i).toNat)
      case atStart => exact ⟨0, [], [], rfl, Nat.zero_le _, Nat.le_refl _, ⟨rfl⟩, ⟨fun x => by simp [mget]⟩, HG5, HBW⟩
      case round =>
        obtain ⟨kk, L, o, rfl, hk, hok, HO, HME, HG, HBX⟩ := hrel
        clear HG5 HBW
        by_cases hlt : kk < p.length
        · obtain ⟨ad, e, hx5⟩ := Kd.at_int HCP.out (kk : Int) (by omega) (by omega)
          cases e
          rw [Int.toNat_natCast, add_plain] at hx5
          have hd : p.drop kk = rd p (kk : Int) :: p.drop (kk + 1) := by
            rw [List.drop_eq_getElem_cons hlt]
            simp [rd, List.getD_eq_getElem?_getD, List.getElem?_eq_getElem hlt]
          have hm : rd p (kk : Int) ∈ p := by
            simp [rd, List.getD_eq_getElem?_getD, List.getElem?_eq_getElem hlt]
          have hkey := List.all_eq_true.1 HPR.out _ hm
          have hO := HO.out
          rw [hd] at hO
          generalize rd p (kk : Int) = x at hx5 hkey hO
          have hcp := (World.cell?_of_block (a := ⟨gp, kk, none⟩) (HG.out.fr gp hgp2 (by omega) (by omega))).trans hx5
          have HKEY := Aside0.mk (int_key hkey)
          have HO1 := Aside0.mk (show impl_holes.ord (p.drop (kk + 1)) (if x ∈ o then o else o ++ [x]) = impl_holes.ord p [] from hO)
          have hlk := HG.out.vm.look lawI ikV_inj Try.underlying49 (z := .slice none 0 0) (by first | kernel_rfl | rfl) (x := x) HKEY.out
          clear hd hm hkey hO HO
          have hkf : kk < f.length := by have := HP1F.out; omega
          have HX := Aside0.mk hx5
          clear hx5
          cases hmg : mget L x with
          | none =>
            have hxo : x ∉ o := fun h => by
              have h2 := (HME.out x).2 h
              rw [hmg] at h2
              cases h2
            have hO1 := HO1.out
            rw [if_neg hxo] at hO1
            have HO2 := Aside0.mk hO1
            rw [hmg] at hlk
            simp only [Option.map_none, Option.getD_none, ikV] at hlk
            obtain ⟨ao, cao, e10⟩ := own_form HG.out.ord
            subst e10
            have HGT := HG.out.top
            clear hO1 HO1
            go_wp2_with (at_builtin; refine print_append_num (w0 := wr) 0 rfl (.tmp 67) _ 38 2 .i64 8 rfl Try.underlying38 (by kernel_rfl) (by omega) _ o x rfl rfl HG.out.ord (Below.refl _ _) (Nat.zero_le _) (by omega) ?_; intro v6 w6 ho6 hb6 hg6 hat6; have HG6 := Aside0.mk (HG.out.ordApp ho6 hg6 hat6); have HS6 := Aside0.mk hg6.size; have HBX6 := Aside0.mk (HG.out.bel HBX.out hws (by omega) hg6); clear ho6 hb6 hg6 hat6)
            have hHG := HG6.out
            obtain ⟨q0, q1⟩ := ds_cells HCF5.out (hHG.fr gf (by omega) (by omega) (by omega)) kk hkf
            generalize rd_T35 f kk = d at q0 q1
            have hl1 := hHG.vm.look lawI ikV_inj Try.underlying49 (z := .slice none 0 0) (by first | kernel_rfl | rfl) (x := x) HKEY.out
            have hl2 := (VM.drew hHG.vm).look lawI ikV_inj Try.underlying49 (z := .slice none 0 0) (by first | kernel_rfl | rfl) (x := x) HKEY.out
            have hl3 := (VM.drew (VM.alloc hHG.vm (.cells #[.int .i64 d.f0, .int .i64 d.f1] 35))).look lawI ikV_inj Try.underlying49 (z := .slice none 0 0) (by first | kernel_rfl | rfl) (x := x) HKEY.out
            rw [hmg] at hl1 hl2 hl3
            simp only [Option.map_none, Option.getD_none, ikV] at hl1 hl2 hl3
            have HGd := Aside0.mk (hHG.below (below_drew1 (Below.refl w6.heap.size w6)))
            have HTd : w5.heap.size ≤ w6.drew.heap.size := hHG.top
            have HMG := Aside0.mk hmg
            clear hHG hlk hcp
            go_region_law (refine OwnRow.append_step (w0 := w6.drew) (W := w6.drew) (R := RC) w5.heap.size (by simp [Region.wanted]) (.tmp 75) (.tmp 80) 25 35 (.agg #[(.int .i64 0), (.int .i64 0)]) 2 16 rfl Try.underlying25 info35 rfl (by decide) (by omega) _ [] d [.int .i64 d.f0, .int .i64 d.f1] rfl rfl rfl rfl (by simp [Value.oneCell']) (OwnRow.none_ _ _ _ _ _) (Below.refl _ _) HTd (by simp) ?_; intro v7 w7 ho7 hb7 hg7 hat7; obtain ⟨w8, hput, hv8, hg8⟩ := VM.put lawI ((VM.drew HG6.out.vm).kept hg7 (fun h => by cases h)) Try.underlying49 (by rw [HG6.out.len]; unfold maxLen; omega) HKEY.out v7; dsimp only [idV, ikV] at hput; have HG8 := Aside0.mk (HGd.out.grpApp (l := [d]) (Or.inr ⟨HMG.out, rfl⟩) (Nat.le_refl 1) (by simp) ho7 hg7 (fun b hb => by cases hb) hat7 (fun b hb => by cases hb) hv8 hg8); clear ho7 hb7 hat7 hv8)
            all_goals (
              have hs6 := below_size HBX6.out
              have HBX8 := Aside0.mk (((below_drew1 HBX6.out).grown hg7 hs6 (fun k hk => by cases hk)).grown hg8 (Nat.le_trans hs6 hg7.size) (fun k hk => by cases hk; omega))
              clear hg7 hg8 hl1 hl2 hl3 q0 q1
              go_wp2
              go_roundw
              case rel => exact ⟨kk + 1, _, o ++ [x], by go_num, by omega, by rw [List.length_append, List.length_singleton]; omega, HO2, ⟨mem_new HME.out⟩, HG8, HBX8⟩
              case measure => simp [intOf]; omega)
          | some u =>
            obtain ⟨l, l1, l2, l3⟩ := HG.out.row x u hmg
            have hxo : x ∈ o := (HME.out x).1 (by rw [hmg]; rfl)
            have hO1 := HO1.out
            rw [if_pos hxo] at hO1
            have HO2 := Aside0.mk hO1
            obtain ⟨gu, cu, eu, hgu1, hgu2⟩ := l3.form l1
            subst eu
            rw [hmg] at hlk
            simp only [Option.map_some, Option.getD_some, ikV, idV] at hlk
            have hle : ((l.length : Int) == 0) = false := by simp; intro e; subst e; simp at l1
            have hHG := HG.out
            obtain ⟨q0, q1⟩ := ds_cells HCF5.out (hHG.fr gf (by omega) (by omega) (by omega)) kk hkf
            generalize rd_T35 f kk = d at q0 q1
            have hl2 := (VM.drew hHG.vm).look lawI ikV_inj Try.underlying49 (z := .slice none 0 0) (by first | kernel_rfl | rfl) (x := x) HKEY.out
            have hl3 := (VM.drew (VM.alloc hHG.vm (.cells #[.int .i64 d.f0, .int .i64 d.f1] 35))).look lawI ikV_inj Try.underlying49 (z := .slice none 0 0) (by first | kernel_rfl | rfl) (x := x) HKEY.out
            rw [hmg] at hl2 hl3
            simp only [Option.map_some, Option.getD_some, ikV, idV] at hl2 hl3
            have HGd := Aside0.mk (hHG.below (below_drew1 (Below.refl wr.heap.size wr)))
            have HTd : w5.heap.size ≤ wr.drew.heap.size := hHG.top
            have HMG := Aside0.mk hmg
            have HLd := Aside0.mk (OC.below l3 (below_drew1 (Below.refl wr.heap.size wr)))
            have hMM := hHG.hM
            have hlN := hHG.len
            have HL3 := Aside0.mk l3
            have HXO := Aside0.mk hxo
            clear hHG hO1 HO1 l3 hxo hmg
            go_wp2
            go_region_law (refine OwnRow.append_step (w0 := wr.drew) (W := wr.drew) (R := RC) w5.heap.size (by simp [Region.wanted]) (.tmp 75) (.tmp 80) 25 35 (.agg #[(.int .i64 0), (.int .i64 0)]) 2 16 rfl Try.underlying25 info35 rfl (by decide) (by omega) _ l d [.int .i64 d.f0, .int .i64 d.f1] rfl rfl rfl rfl (by simp [Value.oneCell']) HLd.out (Below.refl _ _) HTd (by omega) ?_; intro v7 w7 ho7 hb7 hg7 hat7; obtain ⟨w8, hput, hv8, hg8⟩ := VM.put lawI ((VM.drew HG.out.vm).kept hg7 (fun e => by have := (HL3.out.lt _ e.symm).1; omega)) Try.underlying49 (by rw [hlN]; unfold maxLen; omega) HKEY.out v7; dsimp only [idV, ikV] at hput; have HG8 := Aside0.mk (HGd.out.grpApp (l := l ++ [d]) (Or.inl HMG.out) (by simp) (by rw [List.length_append, List.length_singleton]; omega) ho7 hg7 (fun b hb => (HLd.out.lt b hb).1) hat7 HLd.out.typed hv8 hg8); clear ho7 hb7 hat7 hv8)
            all_goals (
              have hs6 := below_size HBX.out
              have HBX8 := Aside0.mk (((below_drew1 HBX.out).grown hg7 hs6 (fun k hk => by have := (HL3.out.lt k hk).1; omega)).grown hg8 (Nat.le_trans hs6 hg7.size) (fun k hk => by cases hk; omega))
              clear hg7 hg8 hl2 hl3 q0 q1
              go_wp2
              go_roundw
              case rel => exact ⟨kk + 1, _, o, by go_num, by omega, by omega, HO2, ⟨mem_old HME.out HXO.out⟩, HG8, HBX8⟩
              case measure => simp [intOf]; omega)
        · have hkl : kk = p.length := by omega
          subst hkl
          have hO := HO.out
          rw [List.drop_length] at hO
          have hO2 : o = impl_holes.ord p [] := hO
          obtain ⟨ao, cao, e10⟩ := own_form HG.out.ord
          subst e10
          have ho1 : 1 ≤ o.length := by
            have hl := HG.out.len
            cases hL : L with
            | nil => rw [hL] at hl; simp at hl; omega
            | cons q r =>
              obtain ⟨q1, q2⟩ := q
              have : q1 ∈ o := (HME.out q1).1 (by rw [hL, mget_cons, if_pos rfl]; rfl)
              exact List.length_pos_of_mem this
          have hcap : o.length ≤ cao := by
            rcases HG.out.ord.2 with ⟨h1, h2⟩ | ⟨g, cap, cur, h1, _, _, h2, _⟩
            · omega
            · cases h1; exact h2
          obtain ⟨i2, hi2, hj2⟩ := Option.map_eq_some_iff.1 info2
          simp only [Prod.mk.injEq] at hj2
          obtain ⟨A1, hsl0, hrd⟩ := print_cut (P := Try.prog) 38 2 .i64 Try.underlying38 hi2 hj2.2.1 ao o.length cao 1 ho1
          have hsl : ∀ W : World, (Instr.slice 38 (.slice ao o.length cao) (some (.int .i64 1)) none none).run Try.prog W = .ok (.slice A1 (o.length - 1) (cao - 1)) W := hsl0
          have HRD := Aside0.mk hrd
          have HO3 := Aside0.mk hO2
          have HHO : Aside0 ((wr.alloc (.cells #[] 25)).ownsRow w5.heap.size 25 1 (.slice (some ⟨wr.heap.size, 0, none⟩) 0 0) 0 []) := ⟨World.ownsRow_lit (base := w5.heap.size) (e := 25) (size := 1) wr #[] 0 HG.out.top (by simp [maxLen]) (by simp)⟩
          have hba := below_alloc (Below.refl wr.heap.size wr) (.cells #[] 25)
          have HGA : Aside0 (GB w5 M0 (M0 + 1) (wr.alloc (.cells #[] 25)) L p.length (.slice ao o.length cao) o) := ⟨by rw [HMZ.out]; exact HG.out.below hba⟩
          have HBA := Aside0.mk (below_step HBX.out hba)
          clear hO hO2 HO hsl0 hrd hj2 hi2 hba
          go_wp2
          clear hsl
          go_loopw [13, 87] (fun v i wr4 => ∃ (jj : Nat) (xs : List Value), i = .int .i64 jj ∧ jj ≤ o.length - 1 ∧ Aside0 (wr4.ownsRow w5.heap.size 25 1 v jj xs) ∧ Aside0 (GB w5 M0 (M0 + 1) wr4 L p.length (.slice ao o.length cao) o) ∧ Aside0 (Below w.heap.size w wr4)) (fun _ i _ => o.length - 1 - (intOf i).toNat)
          case atStart => exact ⟨0, [], rfl, Nat.zero_le _, HHO, HGA, HBA⟩
          case round =>
            obtain ⟨jj, xs, rfl, hj, HR4, HG4, HB4⟩ := hrel
            clear HHO HGA HBA HG HBX
            by_cases hlt4 : jj < o.length - 1
            · obtain ⟨ad, e, hx⟩ := (HRD.out _ .i64 o hcap (own_reads' HG4.out.ord)).at_ (jj : Int) (by omega) (by omega)
              subst e
              rw [Int.toNat_natCast] at hx
              have hmx : rd (o.drop 1) (jj : Int) ∈ o := by
                have h : rd (o.drop 1) (jj : Int) ∈ o.drop 1 := by
                  have hl : jj < (o.drop 1).length := by rw [List.length_drop]; exact hlt4
                  simp only [rd, Int.toNat_natCast, List.getD_eq_getElem?_getD, List.getElem?_eq_getElem hl, Option.getD_some]
                  exact List.getElem_mem hl
                exact List.mem_of_mem_drop h
              generalize rd (o.drop 1) (jj : Int) = x at hx hmx
              obtain ⟨u, hu⟩ := Option.isSome_iff_exists.1 ((HME.out x).2 hmx)
              obtain ⟨l, l1, l2, l3⟩ := HG4.out.row x u hu
              obtain ⟨gu, cu, eu, hgu1, hgu2⟩ := l3.form l1
              subst eu
              have hkey := HG4.out.vm.2 _ (mget_mem hu)
              have hlk := HG4.out.vm.look lawI ikV_inj Try.underlying49 (z := .slice none 0 0) (by first | kernel_rfl | rfl) (x := x) hkey
              rw [hu] at hlk
              simp only [Option.map_some, Option.getD_some, ikV, idV] at hlk
              rw [HMZ.out] at hlk
              obtain ⟨a13, c13, e13⟩ := own_form HR4.out
              subst e13
              have HJX : Aside0 (jj = xs.length) := ⟨by have := HR4.out.1; omega⟩
              have hjb : jj < 1000000 := by
                have := HG4.out.len
                omega
              have HTP := HG4.out.top
              go_wp2_with (at_builtin; refine print_append (w0 := wr) w5.heap.size rfl (.tmp 91) _ 32 25 (.slice none 0 0) 24 rfl Try.underlying32 info25 rfl (by decide) _ xs (.slice (some ⟨gu, 0, none⟩) l.length cu) rfl rfl rfl (by rw [← HJX.out]; exact HR4.out) (Below.refl _ _) HTP (by rw [← HJX.out]; omega) ?_; intro v6 w6 ho6 hb6 hg6 _; have HR6 : Aside0 (w6.ownsRow w5.heap.size 25 1 v6 (jj + 1) (xs ++ [.slice (some ⟨gu, 0, none⟩) l.length cu])) := (by rw [List.length_append, List.length_singleton, ← HJX.out] at ho6; exact ⟨ho6⟩); have HG6 := Aside0.mk (HG4.out.other HR4.out hg6); have HB6 := Aside0.mk (HB4.out.grown hg6 (below_size HB4.out) (fun k hk => Nat.le_trans hw5 (HR4.out.lt k hk).1)); clear ho6 hb6 hg6)
              go_roundw
              case rel => exact ⟨jj + 1, _, by go_num, by omega, HR6, HG6, HB6⟩
              case measure => simp [intOf]; omega
            · obtain ⟨a13, c13, e13⟩ := own_form HR4.out
              subst e13
              go_wp2
              go_ret
              have hjl : jj = o.length - 1 := by omega
              exact ⟨⟨a13, c13, by subst hjl; rw [← HO3.out]; rfl⟩, HB4.out⟩

end Go.Proofs.Ytgfpmgmelhbkoaa.Q

/- Written by a program of this session (wip/tools/pp.py) out of the translation, with the kit's printer. -/
import Derived.Test.YtgfpmgmelhbkoaaQ0
import Derived.Test.YtgfpmgmelhbkoaaQ1
import Derived.Test.YtgfpmgmelhbkoaaQ14
import Derived.Test.YtgfpmgmelhbkoaaQ19
import Derived.LoopTactic
import Derived.Deep.RegionWith
import Derived.Laws.Tables
namespace Go.Proofs.Ytgfpmgmelhbkoaa.Q
open Go.RowKit Go.Proofs.YtgfpmgmelhbkoaaW.PrintWords Go.Proofs.YtgfpmgmelhbkoaaW.PrintLast Go.Proofs.YtgfpmgmelhbkoaaW.PrintMore
attribute [local go_sem] max2_int min2_int max_two min_two max_three min_three max_four min_four
set_option linter.unusedVariables false
set_option linter.unusedSimpArgs false

/-! ### impl_boundaryWord: walked by hand, with impl.edges -/
attribute [local go_sem high] eqA35
def rgtL (j : Nat) : Int × Int := match j with | 0 => (0, 0) | 1 => (-1, 0) | 2 => (-1, -1) | _ => (0, -1)
def lftL (j : Nat) : Int × Int := match j with | 0 => (0, -1) | 1 => (0, 0) | 2 => (-1, 0) | _ => (-1, -1)
def stpL (j : Nat) : Int × Int := match j with | 0 => (1, 0) | 1 => (0, 1) | 2 => (-1, 0) | _ => (0, -1)
def letL (j : Nat) : Int := match j with | 0 => 114 | 1 => 100 | 2 => 108 | _ => 117
/-- Whether the edge j leaves the point a. -/
def impl_boundaryWord.edg (k : Nat) (sh : List S35) (a : S35) (j : Nat) : Option Bool :=
  (impl_Cell_19.f k sh (wrap64 (a.f0 + (rgtL j).1)) (wrap64 (a.f1 + (rgtL j).2))).bind fun b1 => if b1 = true then (impl_Cell_19.f k sh (wrap64 (a.f0 + (lftL j).1)) (wrap64 (a.f1 + (lftL j).2))).bind fun b2 => some (!b2) else some false
def impl_boundaryWord.turn (k : Nat) (sh : List S35) (a : S35) : Nat → Option Nat
  | 0 => none
  | d + 1 => (impl_boundaryWord.edg k sh a (4 - (d + 1))).bind fun b => if b = true then some (4 - (d + 1)) else impl_boundaryWord.turn k sh a d
def impl_boundaryWord.go (k : Nat) (sh : List S35) : Nat → S35 → List Int → Option (List Int)
  | 0, _, _ => none
  | n + 1, a, o => (impl_boundaryWord.turn k sh a 4).bind fun j => if o.length < 1000000 then (if (wrap64 (a.f0 + (stpL j).1) == (rd_T35 sh 0).f0 && (wrap64 (a.f1 + (stpL j).2) == (rd_T35 sh 0).f1)) = true then some (o ++ [letL j]) else impl_boundaryWord.go k sh n ⟨wrap64 (a.f0 + (stpL j).1), wrap64 (a.f1 + (stpL j).2)⟩ (o ++ [letL j])) else none
def impl_boundaryWord.f (k : Nat) (sh : List S35) : Option ByteArray :=
  if 0 < (sh.length : Int) then (impl_boundaryWord.go k sh k (rd_T35 sh 0) []).bind fun o => some (strOfNums o) else none
theorem impl_boundaryWord.edg_mono (k : Nat) (sh : List S35) (a : S35) (j : Nat) : LeO (impl_boundaryWord.edg k sh a j) (impl_boundaryWord.edg (k + 1) sh a j) := by
  unfold impl_boundaryWord.edg
  refine LeO.bind (impl_Cell_19.mono _ _ _ _) (fun b1 => ?_)
  split
  · exact LeO.bind (impl_Cell_19.mono _ _ _ _) (fun b2 => LeO.refl _)
  · exact LeO.refl _
theorem impl_boundaryWord.turn_mono (k : Nat) (sh : List S35) (a : S35) : ∀ d, LeO (impl_boundaryWord.turn k sh a d) (impl_boundaryWord.turn (k + 1) sh a d)
  | 0 => LeO.none _
  | d + 1 => by
    unfold impl_boundaryWord.turn
    refine LeO.bind (impl_boundaryWord.edg_mono k sh a _) (fun b => ?_)
    split
    · exact LeO.refl _
    · exact impl_boundaryWord.turn_mono k sh a d
theorem impl_boundaryWord.go_mono (k : Nat) (sh : List S35) : ∀ n a o, LeO (impl_boundaryWord.go k sh n a o) (impl_boundaryWord.go (k + 1) sh (n + 1) a o)
  | 0, a, o => LeO.none _
  | n + 1, a, o => by
    rw [impl_boundaryWord.go, impl_boundaryWord.go.eq_def (k + 1)]
    refine LeO.bind (impl_boundaryWord.turn_mono k sh a _) (fun j => ?_)
    split
    · split
      · exact LeO.refl _
      · exact impl_boundaryWord.go_mono k sh n _ _
    · exact LeO.refl _
theorem impl_boundaryWord.mono : ∀ a0 k, LeO (impl_boundaryWord.f k a0) (impl_boundaryWord.f (k + 1) a0) := by
  intro a0 k
  unfold impl_boundaryWord.f
  split
  · exact LeO.bind (impl_boundaryWord.go_mono k a0 k _ _) (fun o => LeO.refl _)
  · exact LeO.refl _
def edgesV : Value := .agg #[.int .i64 1, .int .i64 0, .int .i64 0, .int .i64 0, .int .i64 0, .int .i64 (-1), .int .i64 0, .int .i64 1, .int .i64 (-1), .int .i64 0, .int .i64 0, .int .i64 0, .int .i64 (-1), .int .i64 0, .int .i64 (-1), .int .i64 (-1), .int .i64 (-1), .int .i64 0, .int .i64 0, .int .i64 (-1), .int .i64 0, .int .i64 (-1), .int .i64 (-1), .int .i64 (-1)]
theorem edges_store {ops : Array Oper} {rest : List Oper} {o : Oper} {a : Act} {w : World} {Q : Exit → Act → World → Prop} (hgd : o.guard = none) (x y : Operand) (ho : o.op = .store 56 x y) (g : Nat) (hx : a.eval x = .pointer (some ⟨g, 0, none⟩)) (hy : a.eval y = edgesV)
    (old : Array Value) (hg : w.heap[g]? = some (.cells old 56 (0, 0))) (hold : old.size = 24)
    (h : wpList Try.prog ops Q rest (a.put o.dst undef) (w.setRow g edgesV.cells)) : wpList Try.prog ops Q (o :: rest) a w :=
  wpList_store_row hgd 56 x y ho g edgesV.cells hx hy 56 old hg (by kernel_rfl) hold (by kernel_rfl) h
theorem below_row {B : Nat} {w0 w : World} {g : Nat} {cs : Array Value} (h : Below B w0 w) (hg : B ≤ g) : Below B w0 (w.setRow g cs) :=
  ⟨h.os, h.tape, h.output, by rw [setRow_size]; exact h.size, fun k hk => by rw [setRow_other _ _ _ _ (by omega)]; exact h.block k hk⟩
theorem results_c1 {fn : Func} {p : Tmp} {ty : TypeId} (h : fn.results = #[.cell p ty]) (tmps : Array Value) (w : World) (g : Nat) (t : TypeId) (cs : Array Value) (fr : Nat × Nat) (d : TypeDesc)
    (hp : tmps.getD p undef = .pointer (some ⟨g, 0, none⟩)) (hg : w.heap[g]? = some (.cells cs t fr))
    (hu : Try.prog.underlying ty = some d) (hl : (loadVar ty ⟨g, 0, none⟩).run Try.prog w = .ok (.agg cs) w) :
    (results fn tmps).run Try.prog w = .ok (.agg cs) w := by
  have hp' : tmps[p]?.getD undef = .pointer (some ⟨g, 0, none⟩) := by simpa using hp
  simp [results, h, hp', asAddr, hl]
set_option maxHeartbeats 1000000 in
theorem impl_edges.run (w : World) : Calls Try.prog 37 #[] w fun e w' => e = .returned edgesV ∧ Below w.heap.size w w' := by
  have hu46 := Try.underlying55
  have hu42 := Try.underlying35
  have hu47 := Try.underlying56
  go_enter Try.func37, Try.ntmps37
  go_wp2_with (first
    | ((with_reducible refine gate_dst (N := 15) rfl ?_); refine wpList_build rfl _ _ rfl (by kernel_rfl) ?_; rw [show (Value.agg (Option.getD _ _)) = edgesV from by kernel_rfl])
    | (refine edges_store rfl _ _ rfl w.heap.size rfl rfl _ (heap_alloc_new w _) (by kernel_rfl) ?_))
  exact bodyPost_ret (results_c1 rfl _ _ w.heap.size 56 edgesV.cells (0, 0) _ rfl (setRow_heap _ _ _ _ _ _ (heap_alloc_new w _)) hu47 (run_loadVar_row _ _ _ _ _ _ _ (setRow_heap _ _ _ _ _ _ (heap_alloc_new w _)) hu47 rfl (by kernel_rfl))) rfl ⟨rfl, below_row (below_alloc (Below.refl _ _) _) (Nat.le_refl _)⟩
def edgeW (j : Nat) : Value := .agg #[.int .i64 (stpL j).1, .int .i64 (stpL j).2, .int .i64 (rgtL j).1, .int .i64 (rgtL j).2, .int .i64 (lftL j).1, .int .i64 (lftL j).2]
theorem run_edge (w : World) (r : Nat) (h : r < 4) : (Instr.index 56 edgesV (.int .i64 (r : Int))).run Try.prog w = .ok (edgeW r) w := by
  match r, h with
  | 0, _ => show Sem.run _ _ _ = _; kernel_rfl
  | 1, _ => show Sem.run _ _ _ = _; kernel_rfl
  | 2, _ => show Sem.run _ _ _ = _; kernel_rfl
  | 3, _ => show Sem.run _ _ _ = _; kernel_rfl
theorem run_letter (w : World) (r : Nat) (h : r < 4) : (Instr.index 9 (.string ⟨#[114, 100, 108, 117]⟩) (.int .i64 (r : Int))).run Try.prog w = .ok (.int .u8 (letL r)) w := by
  match r, h with
  | 0, _ => show Sem.run _ _ _ = _; kernel_rfl
  | 1, _ => show Sem.run _ _ _ = _; kernel_rfl
  | 2, _ => show Sem.run _ _ _ = _; kernel_rfl
  | 3, _ => show Sem.run _ _ _ = _; kernel_rfl
attribute [local irreducible] edgesV
def vlenW : Value → Nat
  | .slice _ n _ => n
  | _ => 0
theorem blkk_alloc (w : World) (o : Obj) {k : Nat} (h : k < w.heap.size) : (w.alloc o).heap[k]? = w.heap[k]? := Below.heap_alloc w o k h
/-- The word so far in a row of its own, beside the point's box. -/
structure BW (w W : World) (v : Value) (a : S35) (o : List Int) : Prop where
  hb : Below w.heap.size w W
  box : W.heap[w.heap.size + 1]? = some (.cells #[.int .i64 a.f0, .int .i64 a.f1] 35 (0, 0))
  ho : W.ownsRow w.heap.size 5 1 v o.length (nums .u8 o)
  hne : ∀ b, v.ownBlock = some b → b ≠ w.heap.size + 1
theorem BW.below {w W W' : World} {v : Value} {a : S35} {o : List Int} (h : BW w W v a o) (hb : Below W.heap.size W W') : BW w W' v a o :=
  ⟨below_step h.hb hb, blk_below h.box hb, own_move h.ho (fun k hk => hb.block k (h.ho.lt k hk).2), h.hne⟩
theorem BW.top {w W : World} {v : Value} {a : S35} {o : List Int} (h : BW w W v a o) : w.heap.size + 2 ≤ W.heap.size := by
  have := blk_lt h.box
  omega
theorem BW.len {w W : World} {v : Value} {a : S35} {o : List Int} (h : BW w W v a o) : vlenW v = o.length := by
  rcases h.ho.2 with ⟨hv, h0⟩ | ⟨g, cap, cur, hv, _⟩
  · rw [hv, h0]; rfl
  · rw [hv]; rfl
theorem BW.made (w : World) (x y : Int) : BW w ((w.alloc (.cells #[] 5)).alloc (.cells #[.int .i64 x, .int .i64 y] 35)) (.slice (some ⟨w.heap.size, 0, none⟩) 0 0) ⟨x, y⟩ [] := by
  have e1 : (w.alloc (.cells #[] 5)).heap.size = w.heap.size + 1 := by simp
  refine ⟨below_alloc (below_alloc (Below.refl _ _) _) _, ?_, ?_, fun b hb => ?_⟩
  · have h := heap_alloc_new (w.alloc (.cells #[] 5)) (.cells #[.int .i64 x, .int .i64 y] 35 (0, 0))
    rw [e1] at h
    exact h
  · have h : (w.alloc (.cells #[] 5)).ownsRow w.heap.size 5 1 (.slice (some ⟨w.heap.size, 0, none⟩) 0 0) 0 (nums .u8 []) := own_lit w w.heap.size 5 .u8 [] (Nat.le_refl _) (by simp)
    exact own_move h (fun k hk => blkk_alloc _ _ (h.lt k hk).2)
  · have h : w.heap.size = b := Option.some.inj hb
    omega
theorem BW.app {w W W' : World} {v v' : Value} {a : S35} {o o' : List Int} (h : BW w W v a o) (hb : Below w.heap.size w W') (ho : W'.ownsRow w.heap.size 5 1 v' o'.length (nums .u8 o')) (hg : W.grownBy W' v.ownBlock) (hat : v'.ownBlock = v.ownBlock ∨ ∃ b, v'.ownBlock = some b ∧ W.heap.size ≤ b) : BW w W' v' a o' := by
  refine ⟨hb, blk_grown h.box hg (fun e => h.hne _ e.symm rfl), ho, fun b hb2 => ?_⟩
  rcases hat with e | ⟨b', e, h1⟩
  · exact h.hne b (e ▸ hb2)
  · have : b' = b := Option.some.inj (e.symm.trans hb2)
    have := h.top
    omega
theorem BW.put {w W : World} {v : Value} {a : S35} {o : List Int} (h : BW w W v a o) (x y : Int) : BW w ((W.setCell ⟨w.heap.size + 1, 0, none⟩ (.int .i64 x)).setCell ⟨w.heap.size + 1, 1, none⟩ (.int .i64 y)) v ⟨x, y⟩ o := by
  refine ⟨below_set (below_set h.hb (by show w.heap.size ≤ w.heap.size + 1; omega)) (by show w.heap.size ≤ w.heap.size + 1; omega), ?_, ?_, h.hne⟩
  · exact blk_put (blk_put h.box 0 (.int .i64 x) rfl) 1 (.int .i64 y) rfl
  · refine own_move h.ho (fun k hk => ?_)
    have hk1 := h.hne k hk
    exact (Below.heap_setCell _ ⟨w.heap.size + 1, 1, none⟩ _ k (by show k ≠ w.heap.size + 1; exact hk1)).trans (Below.heap_setCell _ ⟨w.heap.size + 1, 0, none⟩ _ k (by show k ≠ w.heap.size + 1; exact hk1))
theorem turn_lt {k : Nat} {sh : List S35} {a : S35} {j : Nat} : ∀ d, d ≤ 4 → impl_boundaryWord.turn k sh a d = some j → j < 4
  | 0, _, h => by cases h
  | d + 1, hd, h => by
    unfold impl_boundaryWord.turn at h
    obtain ⟨b, _, h2⟩ := Option.bind_eq_some_iff.mp h
    cases b with
    | true =>
      have : 4 - (d + 1) = j := Option.some.inj h2
      omega
    | false => exact turn_lt d (by omega) h2
set_option maxRecDepth 100000 in
set_option maxHeartbeats 4000000 in
theorem impl_boundaryWord.calls (k : Nat) (A : Option Addr) (c : Nat) (sh : List S35) (r : ByteArray) (w : World) (hr : Kd.C k35 w A sh.length sh) (hc : sh.length ≤ c) (h : impl_boundaryWord.f k sh = some r) :
    Calls Try.prog 22 #[.slice A sh.length c] w fun e w' => e = .returned (.string r) ∧ Below w.heap.size w w' := by
  have HR := Aside0.mk hr
  clear hr
  unfold impl_boundaryWord.f at h
  split at h
  case isFalse => cases h
  rename_i hpos
  obtain ⟨r0, h1, h2⟩ := Option.bind_eq_some_iff.mp h
  obtain rfl := Option.some.inj h2
  have H1 := Aside0.mk h1
  clear h h1 h2
  have hu35 := Try.underlying35
  have hu55 := Try.underlying55
  have hu56 := Try.underlying56
  obtain ⟨ad, e, hx0, hx1⟩ := at_T35 HR.out 0 (by omega) hpos
  subst e
  rw [show ((0 : Int)).toNat = 0 from rfl, show 0 * 2 = 0 from rfl, Addr.add_zero'] at hx0 hx1
  have HX := Aside0.mk (And.intro hx0 hx1)
  have hpn : 0 < sh.length := by omega
  generalize hs0 : rd_T35 sh 0 = s0 at hx0 hx1 H1 HX
  go_enter Try.func22, Try.ntmps22
  have hx0a := pc (below_alloc (Below.refl w.heap.size w) (.cells #[] 5)) hx0
  have hx1a := pc (below_alloc (Below.refl w.heap.size w) (.cells #[] 5)) hx1
  clear hx0 hx1
  go_wp2
  clear hx0a hx1a
  go_loopw [3] (fun v wr => ∃ (n : Nat) (a : S35) (o : List Int), Aside0 (impl_boundaryWord.go k sh n a o = some r0) ∧ o.length ≤ 1000001 ∧ Aside0 (BW w wr v a o)) (fun v _ => 1000002 - vlenW v)
  case atStart => exact ⟨k, s0, [], H1, by simp, ⟨BW.made w s0.f0 s0.f1⟩⟩
  case round =>
    obtain ⟨n, a, o, HG, hol, HW⟩ := hrel
    cases n with
    | zero => cases HG.out
    | succ n =>
    have hG := HG.out
    rw [impl_boundaryWord.go] at hG
    obtain ⟨j, hj, hG2⟩ := Option.bind_eq_some_iff.mp hG
    by_cases hol2 : o.length < 1000000
    case neg => rw [if_neg hol2] at hG2; cases hG2
    rw [if_pos hol2] at hG2
    have hj4 := turn_lt 4 (by omega) hj
    have HJ := Aside0.mk hj
    have HG2 := Aside0.mk hG2
    clear hG hG2 hj HG H1
    have hlen := HW.out.len
    go_wp2_with (go_at_call 37; refine (impl_edges.run _).mono ?_; rintro e w3 ⟨rfl, hb3⟩; have HW3 := Aside0.mk (HW.out.below hb3); clear hb3)
    go_loopw [3, 12] (fun v i wr2 => ∃ i0 : Nat, i = .int .i64 i0 ∧ i0 ≤ 4 ∧ Aside0 (impl_boundaryWord.turn k sh a (4 - i0) = some j) ∧ Aside0 (BW w wr2 v a o)) (fun _ i _ => 4 - (intOf i).toNat)
    case atStart => exact ⟨0, rfl, by omega, HJ, HW3⟩
    case round =>
      obtain ⟨i0, rfl, hi0, HT, HW2⟩ := hrel
      clear HW3 HW
      have hT := HT.out
      by_cases hi4 : i0 < 4
      case neg =>
        rw [show 4 - i0 = 0 by omega] at hT
        cases hT
      obtain ⟨d, hd⟩ : ∃ d, 4 - i0 = d + 1 := ⟨4 - i0 - 1, by omega⟩
      rw [hd, impl_boundaryWord.turn, show 4 - (d + 1) = i0 by omega] at hT
      obtain ⟨b, hb0, hT2⟩ := Option.bind_eq_some_iff.mp hT
      unfold impl_boundaryWord.edg at hb0
      obtain ⟨b1, hb1, hb⟩ := Option.bind_eq_some_iff.mp hb0
      have hed := fun w : World => run_edge w i0 hi4
      unfold edgeW at hed
      have z0 : wr.cell? ⟨w.heap.size + 1, 0, none⟩ = some (.int .i64 a.f0) := (blk_cell HW2.out.box 0).trans rfl
      have z1 : wr.cell? ⟨w.heap.size + 1, 1, none⟩ = some (.int .i64 a.f1) := (blk_cell HW2.out.box 1).trans rfl
      have hlt := blk_lt HW2.out.box
      have hp1 : impl_plus.f a.f0 a.f1 (rgtL i0).1 (rgtL i0).2 = some (wrap64 (a.f0 + (rgtL i0).1), wrap64 (a.f1 + (rgtL i0).2)) := rfl
      have hp2 : impl_plus.f a.f0 a.f1 (lftL i0).1 (lftL i0).2 = some (wrap64 (a.f0 + (lftL i0).1), wrap64 (a.f1 + (lftL i0).2)) := rfl
      have HB1 := Aside0.mk hb1
      have HC := Aside0.mk (below_alloc (Below.refl _ _) (.cells #[.int .i64 (stpL i0).1, .int .i64 (stpL i0).2, .int .i64 (rgtL i0).1, .int .i64 (rgtL i0).2, .int .i64 (lftL i0).1, .int .i64 (lftL i0).2] 55) : Below wr.heap.size wr _)
      have HW4 := Aside0.mk (HW2.out.below HC.out)
      have HE4 := Aside0.mk (heap_alloc_new wr (.cells #[.int .i64 (stpL i0).1, .int .i64 (stpL i0).2, .int .i64 (rgtL i0).1, .int .i64 (rgtL i0).2, .int .i64 (lftL i0).1, .int .i64 (lftL i0).2] 55 (0, 0)))
      have hwr := hlt
      clear hb1 hb0 HC
      cases b1 with
      | false =>
        rw [if_neg (by decide)] at hb
        obtain rfl := Option.some.inj hb
        rw [if_neg (by decide)] at hT2
        have HT3 := Aside0.mk hT2
        clear hT2 hT hb HT
        go_wp2_with (first
          | (go_at_call 38; (with_reducible refine (impl_plus.calls a.f0 a.f1 (rgtL i0).1 (rgtL i0).2 _ _ _ hp1).mono ?_); rintro e w5 ⟨rfl, hb5⟩; have HW5 := Aside0.mk (HW4.out.below hb5); have HE5 := Aside0.mk (blk_below HE4.out hb5); clear hb5)
          | (go_at_call 19; (with_reducible refine (impl_Cell_19.calls k _ _ sh _ _ false _ (Kd.C_below HR.out HW5.out.hb) hc HB1.out).mono ?_); rintro e w6 ⟨rfl, hb6⟩; have HW6 := Aside0.mk (HW5.out.below hb6); have HE6 := Aside0.mk (blk_below HE5.out hb6); clear hb6))
        go_roundw
        case rel => exact ⟨i0 + 1, by go_num, by omega, ⟨by rw [show 4 - (i0 + 1) = d by omega]; exact HT3.out⟩, HW6⟩
        case measure => simp [intOf]; omega
      | true =>
        rw [if_pos rfl] at hb
        obtain ⟨b2, hb2, hb⟩ := Option.bind_eq_some_iff.mp hb
        obtain rfl := Option.some.inj hb
        have HB2 := Aside0.mk hb2
        clear hb2 hb hT HT
        cases b2 with
        | true =>
          rw [if_neg (by decide)] at hT2
          have HT3 := Aside0.mk hT2
          clear hT2
          go_wp2_with (first
            | (go_at_call 38; (with_reducible refine (impl_plus.calls a.f0 a.f1 (rgtL i0).1 (rgtL i0).2 _ _ _ hp1).mono ?_); rintro e w5 ⟨rfl, hb5⟩; have HW5 := Aside0.mk (HW4.out.below hb5); have HE5 := Aside0.mk (blk_below HE4.out hb5); clear hb5)
            | (go_at_call 19; (with_reducible refine (impl_Cell_19.calls k _ _ sh _ _ true _ (Kd.C_below HR.out HW5.out.hb) hc HB1.out).mono ?_); rintro e w6 ⟨rfl, hb6⟩; have HW6 := Aside0.mk (HW5.out.below hb6); have HE6 := Aside0.mk (blk_below HE5.out hb6); clear hb6; have y0 : w6.cell? ⟨w.heap.size + 1, 0, none⟩ = some (.int .i64 a.f0) := (blk_cell HW6.out.box 0).trans rfl; have y1 : w6.cell? ⟨w.heap.size + 1, 1, none⟩ = some (.int .i64 a.f1) := (blk_cell HW6.out.box 1).trans rfl; have e4 : w6.cell? ⟨wr.heap.size, 4, none⟩ = some (.int .i64 (lftL i0).1) := (blk_cell HE6.out 4).trans rfl; have e5 : w6.cell? ⟨wr.heap.size, 5, none⟩ = some (.int .i64 (lftL i0).2) := (blk_cell HE6.out 5).trans rfl)
            | (go_at_call 38; (with_reducible refine (impl_plus.calls a.f0 a.f1 (lftL i0).1 (lftL i0).2 _ _ _ hp2).mono ?_); rintro e w7 ⟨rfl, hb7⟩; have HW7 := Aside0.mk (HW6.out.below hb7); have HE7 := Aside0.mk (blk_below HE6.out hb7); clear hb7)
            | (go_at_call 19; (with_reducible refine (impl_Cell_19.calls k _ _ sh _ _ true _ (Kd.C_below HR.out HW7.out.hb) hc HB2.out).mono ?_); rintro e w8 ⟨rfl, hb8⟩; have HW8 := Aside0.mk (HW7.out.below hb8); clear hb8))
          go_roundw
          case rel => exact ⟨i0 + 1, by go_num, by omega, ⟨by rw [show 4 - (i0 + 1) = d by omega]; exact HT3.out⟩, HW8⟩
          case measure => simp [intOf]; omega
        | false =>
          rw [if_pos (by decide)] at hT2
          obtain rfl : i0 = j := Option.some.inj hT2
          clear hT2
          have hp3 : impl_plus.f a.f0 a.f1 (stpL i0).1 (stpL i0).2 = some (wrap64 (a.f0 + (stpL i0).1), wrap64 (a.f1 + (stpL i0).2)) := rfl
          have hlet := fun w : World => run_letter w i0 hi4
          go_wp2_with (first
            | (go_at_call 38; (with_reducible refine (impl_plus.calls a.f0 a.f1 (rgtL i0).1 (rgtL i0).2 _ _ _ hp1).mono ?_); rintro e w5 ⟨rfl, hb5⟩; have HW5 := Aside0.mk (HW4.out.below hb5); have HE5 := Aside0.mk (blk_below HE4.out hb5); clear hb5)
            | (go_at_call 19; (with_reducible refine (impl_Cell_19.calls k _ _ sh _ _ true _ (Kd.C_below HR.out HW5.out.hb) hc HB1.out).mono ?_); rintro e w6 ⟨rfl, hb6⟩; have HW6 := Aside0.mk (HW5.out.below hb6); have HE6 := Aside0.mk (blk_below HE5.out hb6); clear hb6; have y0 : w6.cell? ⟨w.heap.size + 1, 0, none⟩ = some (.int .i64 a.f0) := (blk_cell HW6.out.box 0).trans rfl; have y1 : w6.cell? ⟨w.heap.size + 1, 1, none⟩ = some (.int .i64 a.f1) := (blk_cell HW6.out.box 1).trans rfl; have e4 : w6.cell? ⟨wr.heap.size, 4, none⟩ = some (.int .i64 (lftL i0).1) := (blk_cell HE6.out 4).trans rfl; have e5 : w6.cell? ⟨wr.heap.size, 5, none⟩ = some (.int .i64 (lftL i0).2) := (blk_cell HE6.out 5).trans rfl)
            | (go_at_call 38; (with_reducible refine (impl_plus.calls a.f0 a.f1 (lftL i0).1 (lftL i0).2 _ _ _ hp2).mono ?_); rintro e w7 ⟨rfl, hb7⟩; have HW7 := Aside0.mk (HW6.out.below hb7); have HE7 := Aside0.mk (blk_below HE6.out hb7); clear hb7)
            | (go_at_call 19; (with_reducible refine (impl_Cell_19.calls k _ _ sh _ _ false _ (Kd.C_below HR.out HW7.out.hb) hc HB2.out).mono ?_); rintro e w8 ⟨rfl, hb8⟩; have HW8 := Aside0.mk (HW7.out.below hb8); have HE8 := Aside0.mk (blk_below HE7.out hb8); clear hb8)
            | (at_builtin; refine print_append_num w.heap.size rfl (.tmp 31) (.tmp 34) 53 5 .u8 1 rfl Try.underlying53 (by kernel_rfl) (by omega) _ o (letL i0) rfl rfl HW8.out.ho HW8.out.hb (by have := HW8.out.top; omega) (by omega) ?_; intro v9 w9 ho9 hb9 hg9 hat9; have HW9 := Aside0.mk (HW8.out.app hb9 ho9 hg9 hat9); have HE9 := Aside0.mk (blk_grown HE8.out hg9 (fun e => by have := (HW2.out.ho.lt _ e.symm).2; omega)); clear hb9 ho9 hg9 hat9; have y0 : w9.cell? ⟨w.heap.size + 1, 0, none⟩ = some (.int .i64 a.f0) := (blk_cell HW9.out.box 0).trans rfl; have y1 : w9.cell? ⟨w.heap.size + 1, 1, none⟩ = some (.int .i64 a.f1) := (blk_cell HW9.out.box 1).trans rfl; have e0 : w9.cell? ⟨wr.heap.size, 0, none⟩ = some (.int .i64 (stpL i0).1) := (blk_cell HE9.out 0).trans rfl; have e1 : w9.cell? ⟨wr.heap.size, 1, none⟩ = some (.int .i64 (stpL i0).2) := (blk_cell HE9.out 1).trans rfl)
            | (go_at_call 38; (with_reducible refine (impl_plus.calls a.f0 a.f1 (stpL i0).1 (stpL i0).2 _ _ _ hp3).mono ?_); rintro e w10 ⟨rfl, hb10⟩; have HW10 := Aside0.mk (HW9.out.below hb10); clear hb10; have f0 : w10.frozen? ⟨w.heap.size + 1, 0, none⟩ = false := blk_frozen HW10.out.box 0; have f1 : w10.frozen? ⟨w.heap.size + 1, 1, none⟩ = false := blk_frozen HW10.out.box 1; have q0 : w10.cell? ⟨w.heap.size + 1, 0, none⟩ = some (.int .i64 a.f0) := (blk_cell HW10.out.box 0).trans rfl; have q1 : w10.cell? ⟨w.heap.size + 1, 1, none⟩ = some (.int .i64 a.f1) := (blk_cell HW10.out.box 1).trans rfl; have HW11 := Aside0.mk (HW10.out.put (wrap64 (a.f0 + (stpL i0).1)) (wrap64 (a.f1 + (stpL i0).2))); have hs1 := pc HW11.out.hb HX.out.1; have hs2 := pc HW11.out.hb HX.out.2))
          have hG := HG2.out
          rw [hs0] at hG
          clear y0 y1 e0 e1 f0 f1 q0 q1
          generalize (w10.setCell ⟨w.heap.size + 1, 0, none⟩ (.int .i64 (wrap64 (a.f0 + (stpL i0).1)))).setCell ⟨w.heap.size + 1, 1, none⟩ (.int .i64 (wrap64 (a.f1 + (stpL i0).2))) = W at HW11 hs1 hs2 ⊢
          have y0 : W.cell? ⟨w.heap.size + 1, 0, none⟩ = some (.int .i64 (wrap64 (a.f0 + (stpL i0).1))) := (blk_cell HW11.out.box 0).trans rfl
          have y1 : W.cell? ⟨w.heap.size + 1, 1, none⟩ = some (.int .i64 (wrap64 (a.f1 + (stpL i0).2))) := (blk_cell HW11.out.box 1).trans rfl
          by_cases hend : (wrap64 (a.f0 + (stpL i0).1) == s0.f0 && (wrap64 (a.f1 + (stpL i0).2) == s0.f1)) = true
          · rw [if_pos hend] at hG
            obtain rfl := Option.some.inj hG
            have HD := Aside0.mk (HW11.out.below (below_drew1 (Below.refl W.heap.size W)))
            have hcv := own_string (P := Try.prog) Try.underlying53 Try.underlying5 Try.underlying9 HD.out.ho
            go_region
            go_wp2
            go_ret
            exact ⟨rfl, HD.out.hb⟩
          · rw [if_neg hend] at hG
            have hend2 : (wrap64 (a.f0 + (stpL i0).1) == s0.f0 && (wrap64 (a.f1 + (stpL i0).2) == s0.f1)) = false := by simpa using hend
            have HG3 := Aside0.mk hG
            clear hG
            have HD := Aside0.mk (HW11.out.below (below_drew1 (Below.refl W.heap.size W)))
            go_region
            go_wp2
            refine ⟨⟨n, _, o ++ [letL i0], HG3, by rw [List.length_append]; simp; omega, HD⟩, ?_⟩
            rw [HD.out.len, hlen, List.length_append, List.length_singleton]
            omega

end Go.Proofs.Ytgfpmgmelhbkoaa.Q

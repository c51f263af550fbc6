/- Written by a program of this session (wip/tools/pp.py) out of the translation, with the kit's printer. -/
import Derived.Test.YtncianokahfkpaaDoorQ0
import Derived.Test.YtncianokahfkpaaDoorQ3
import Derived.Test.YtncianokahfkpaaDoorQ5
import Derived.Test.YtncianokahfkpaaDoorQGimplclausesText
import Derived.Test.YtncianokahfkpaaDoorQGimplformulaText
import Derived.Deep.RegionWith
import Derived.Lib.FrozenHead
import Derived.Lib.ConvBytes
import Derived.Laws.IdiomStrings
namespace Go.Proofs.YtncianokahfkpaaDoor.Q
open Go.RowKit Go.Proofs.YtncianokahfkpaaDoorW.PrintWords Go.Proofs.YtncianokahfkpaaDoorW.PrintLast Go.Proofs.YtncianokahfkpaaDoorW.PrintMore
attribute [local go_sem] max2_int min2_int max_two min_two max_three min_three max_four min_four
set_option linter.unusedVariables false
set_option linter.unusedSimpArgs false

/-! ### spec_FormulaText: walked by hand: a row of bytes that began as a string's copy -/
/-- The slice value holds these bytes, in a row of the call's own none of whose cells is frozen. -/
def Row5 (W : World) (B : Nat) (e : TypeId) (v : Value) (l : List UInt8) : Prop :=
  ∃ g cap cur fz, v = .slice (some ⟨g, 0, none⟩) l.length cap ∧ B ≤ g ∧ W.heap[g]? = some (.cells cur e fz) ∧ (∀ j, j < cur.size → ¬ (fz.1 ≤ j ∧ j < fz.2)) ∧ l.length ≤ cap ∧ cap ≤ maxLen ∧ cur.size = cap ∧ cur.toList.take l.length = Lib.byteCells l
theorem Row5.below {W W' : World} {B : Nat} {e : TypeId} {v : Value} {l : List UInt8} (h : Row5 W B e v l) (hb : Below W.heap.size W W') : Row5 W' B e v l := by
  obtain ⟨g, cap, cur, fz, hv, hB, hg, rest⟩ := h
  exact ⟨g, cap, cur, fz, hv, hB, (hb.block g (Array.getElem?_eq_some_iff.1 hg).1).trans hg, rest⟩
theorem store5 (P : Program) (g o : Nat) (e : TypeId) (fz : Nat × Nat) : ∀ (vs : List Value) (i : Nat) (cur : Array Value) (W : World), W.heap[g]? = some (.cells cur e fz) → (∀ j, j < cur.size → ¬ (fz.1 ≤ j ∧ j < fz.2)) → o + i + vs.length ≤ cur.size → (∀ v ∈ vs, v.oneCell' = true) →
    ∃ cur', (storeCells ⟨g, o, none⟩ vs i).run P W = .ok () (W.setRow g cur') ∧ cur'.size = cur.size ∧ cur'.toList.take (o + i + vs.length) = cur.toList.take (o + i) ++ vs
  | [], i, cur, W, hg, _, _, _ => by
    refine ⟨cur, ?_, rfl, by simp⟩
    rw [setRow_self W g cur e fz hg]
    rfl
  | v :: rest, i, cur, W, hg, hf, hl, h1 => by
    rw [List.length_cons] at hl
    have ha : (⟨g, o, none⟩ : Addr).add i = ⟨g, o + i, none⟩ := by unfold Addr.add; split <;> simp_all
    have hc : W.cell? ⟨g, o + i, none⟩ = some cur[o + i] := by simp [World.cell?, hg, show o + i < cur.size by omega]
    have hz : W.frozen? ⟨g, o + i, none⟩ = false := by
      have := hf (o + i) (by omega)
      obtain ⟨lo, hi⟩ := fz
      simp only [World.frozen?, hg, Bool.and_eq_false_iff, decide_eq_false_iff_not]
      simp only at this
      omega
    have hs : (store (⟨g, o + i, none⟩ : Addr) v).run P W = .ok () (W.setRow g (cur.setIfInBounds (o + i) v)) := by
      rw [run_store P W _ v _ (h1 v List.mem_cons_self), hc]
      simp [hz, setCell_eq_setRow W g (o + i) cur e fz v hg]
    obtain ⟨cur', r1, r2, r3⟩ := store5 P g o e fz rest (i + 1) (cur.setIfInBounds (o + i) v) (W.setRow g (cur.setIfInBounds (o + i) v)) (setRow_heap W g cur _ e fz hg) (by simpa using hf) (by simp; omega) (fun x hx => h1 x (List.mem_cons_of_mem _ hx))
    refine ⟨cur', ?_, by simpa using r2, ?_⟩
    · simp only [storeCells, ha, Sem.run_bind, hs, Result.andThen_ok, r1, setRow_setRow]
    · rw [List.length_cons, show o + i + (rest.length + 1) = o + (i + 1) + rest.length by omega, r3]
      rw [Array.toList_setIfInBounds, show o + (i + 1) = o + i + 1 by omega]
      have hlt : o + i < cur.toList.length := by rw [Array.length_toList]; omega
      rw [List.take_succ_eq_append_getElem (by simpa using hlt), List.take_set_of_le (Nat.le_refl _), List.getElem_set_self]
      simp
theorem row5_append {P : Program} (t u ty e : TypeId) {i : TypeInfo} (ht : P.underlying t = some (.slice e)) (hu : P.underlying u = some .string) (hi : P.info? e = some i) (hz : i.zero = some (.int .u8 0)) (hs1 : i.size = 1) (hb1 : i.bytes = 1)
    {W : World} {B : Nat} {v : Value} {l : List UInt8} (h : Row5 W B e v l) (s : List UInt8) (hb : l.length + s.length ≤ 140737488355328) (hB : B ≤ W.heap.size) :
    ∃ v' W', (Builtin.append_ #[t, u] ty #[v, .string ⟨s.toArray⟩]).run P W = .ok v' W' ∧ Row5 W' B e v' (l ++ s) ∧ Below B W W' := by
  obtain ⟨g, cap, cur, fz, rfl, hBg, hg, hf, hn, hm, hc, ht'⟩ := h
  have hss : (⟨s.toArray⟩ : ByteArray).size = s.length := by show s.toArray.size = _; simp
  have hbl : (Lib.byteCells l).length = l.length := Lib.byteCells_length l
  have hbs : (Lib.strCells ⟨s.toArray⟩).length = s.length := by rw [Lib.strCells_length, hss]
  by_cases hroom : l.length + s.length ≤ cap
  · obtain ⟨cur', r1, r2, r3⟩ := store5 P g l.length e fz (Lib.strCells ⟨s.toArray⟩) 0 cur W hg hf (by rw [hbs]; omega) (Lib.strCells_oneCell _)
    have hff := Lib.run_firstCells_string (P := P) W 1 ⟨s.toArray⟩
    rw [hss] at hff
    refine ⟨.slice (some ⟨g, 0, none⟩) (l ++ s).length cap, W.setRow g cur', ?_, ⟨g, cap, cur', fz, rfl, hBg, setRow_heap W g cur _ e fz hg, by rw [r2]; exact hf, by rw [List.length_append]; exact hroom, hm, by rw [r2]; exact hc, ?_⟩, ⟨rfl, rfl, rfl, by simp, fun k hk => setRow_other W g k _ (by omega)⟩⟩
    · simp [Builtin.append_, run_underlying ht, run_underlying hu, sizeOf, typeInfo, hi, hs1, Builtin.lenOf, hss, hroom, hff, Addr.add_lit, r1]
    · rw [hbs, Nat.add_zero, ht'] at r3
      rw [List.length_append, r3, Lib.byteCells_append]
      rfl
  · have hold : ∀ j u, (Lib.byteCells l)[j]? = some u → W.cell? ((⟨g, 0, none⟩ : Addr).add j) = some u := by
      intro j u hu'
      rw [add_plain, cell_of_row W g j cur e fz hg]
      rw [← ht', List.getElem?_take] at hu'
      split at hu'
      · simpa using hu'
      · cases hu'
    have hr := Lib.run_append_grow_string (P := P) W t u ty e i (.int .u8 0) ht hu hi hz ⟨g, 0, none⟩ l.length cap (Lib.byteCells l) (by rw [hs1, Nat.mul_one]; exact hbl) hold ⟨s.toArray⟩ (by rw [hss]; omega) (by rw [hss]; omega) (by rw [hb1, hss]; exact growslice_fits (by omega) (by omega))
    rw [hss] at hr
    have hge := grownCap_ge W (l.length + s.length) cap e
    have hle := grownCap_le_maxLen W (l.length + s.length) cap e (by simp only [maxLen]; omega)
    refine ⟨_, _, hr, ⟨W.heap.size, grownCap W (l.length + s.length) cap e, _, (0, 0), by rw [List.length_append], hB, heap_alloc_new W.drew _, fun j _ => by simp, by rw [List.length_append]; exact hge, hle, ?_, ?_⟩, ?_⟩
    · have hz1 : (Value.int IntKind.u8 0).cells.size = 1 := rfl
      simp only [Array.size_append, List.size_toArray, size_zeroCells, hz1, hbl, hbs]
      omega
    · simp only [Array.toList_append]
      rw [List.length_append, List.take_append_of_le_length (by rw [List.length_append, hbl, hbs]; exact Nat.le_refl _), List.take_of_length_le (by rw [List.length_append, hbl, hbs]; exact Nat.le_refl _), Lib.byteCells_append]
      rfl
    · exact ((Below.refl B W).drew).alloc hB _
theorem wp_append5 {P : Program} {ops : Array Oper} {rest : List Oper} {o : Oper} {a : Act} {Q : Exit → Act → World → Prop} {w : World} (hgd : o.guard = none) (sl x : Operand) (t u e : TypeId)
    (ho : o.op = .call { callee := .builtin .append, args := #[sl, x], argTypes := #[t, u] })
    {i : TypeInfo} (ht : P.underlying t = some (.slice e)) (hu : P.underlying u = some .string) (hi : P.info? e = some i) (hz : i.zero = some (.int .u8 0)) (hs1 : i.size = 1) (hb1 : i.bytes = 1)
    {B : Nat} {v : Value} {l : List UInt8} (h : Row5 w B e v l) (s : List UInt8) (hs : a.eval sl = v) (hx : a.eval x = .string ⟨s.toArray⟩) (hb : l.length + s.length ≤ 140737488355328) (hB : B ≤ w.heap.size)
    (hk : ∀ v' w', Row5 w' B e v' (l ++ s) → Below B w w' → wpList P ops Q rest (a.put o.dst v') w') : wpList P ops Q (o :: rest) a w := by
  refine wpList_plain hgd fun K hK => ?_
  obtain ⟨v', w', hr, h2, h3⟩ := row5_append (P := P) t u o.type e ht hu hi hz hs1 hb1 h s hb hB
  unfold Oper.wp execOp
  simp only [ho, resolve, invoke, builtin, Sem.run_bind, Sem.run_pure, Result.andThen_ok, List.map_toArray, List.map_cons, List.map_nil, hs, hx, hr]
  exact hK _ _ (hk v' w' h2 h3)
theorem row5_string {P : Program} (src dst e : TypeId) (hs : P.underlying src = some (.slice e)) (he : P.underlying e = some (.int .u8)) (hd : P.underlying dst = some .string) {W : World} {B : Nat} {v : Value} {l : List UInt8} (h : Row5 W B e v l) :
    (convert src dst v).run P W = .ok (.string ⟨l.toArray⟩) W := by
  obtain ⟨g, cap, cur, fz, rfl, hBg, hg, hf, hn, hm, hc, ht'⟩ := h
  refine run_convert_bytes_back W src dst e ⟨g, 0, none⟩ cap l hs he hd (fun j hj => ?_)
  rw [add_plain, cell_of_row W g j cur e fz hg]
  have : (cur.toList.take l.length)[j]? = (Lib.byteCells l)[j]? := by rw [ht']
  rw [List.getElem?_take, if_pos hj] at this
  rw [← Array.getElem?_toList, this]
  simp [Lib.byteCells, hj]
theorem row5_new (W : World) (e : TypeId) (l : List UInt8) (hl : l.length ≤ 140737488355328) : Row5 (Lib.bytesWorld W e ⟨l.toArray⟩) W.heap.size e (.slice (some ⟨W.heap.size, 0, none⟩) l.length (grownCap W l.length 0 e)) l := by
  have hss : (⟨l.toArray⟩ : ByteArray).size = l.length := by show l.toArray.size = _; simp
  have hge := grownCap_ge W l.length 0 e
  refine ⟨W.heap.size, _, _, _, rfl, Nat.le_refl _, Lib.bytesWorld_at_new W e ⟨l.toArray⟩, fun j hj => by simp only; omega, hge, grownCap_le_maxLen W _ 0 e (by simp only [maxLen]; omega), ?_, ?_⟩
  · simp only [Lib.bytesCells, Array.size_append, Array.size_map, Array.size_replicate, hss]
    rw [show (l.toArray).size = l.length by simp]
    omega
  · simp only [Lib.bytesCells, Array.toList_append, Array.toList_map]
    rw [List.take_append_of_le_length (by simp), List.take_of_length_le (by simp)]
    simp [Lib.byteCells]
def spec_FormulaText.f (k : Nat) (a0_0 : Int) (l0_1 : List (List Int)) : Option ByteArray :=
  (spec_IsFormula.f k a0_0 l0_1).bind fun p => if p = true then
    (if spec_l01Dec.f k a0_0 = some ⟨(Lib.itoa a0_0).toArray⟩ ∧ spec_l01Dec.f k (l0_1.length : Int) = some ⟨(Lib.itoa (l0_1.length : Int)).toArray⟩ ∧ (∀ x ∈ l0_1, ∀ n ∈ x, spec_l20Number.f k n = some ⟨(Lib.itoa n).toArray⟩) ∧ (impl_formulaText.head a0_0 l0_1.length ++ impl_clausesText.text l0_1).length ≤ 140737488355327
      then some ⟨(impl_formulaText.head a0_0 l0_1.length ++ impl_clausesText.text l0_1).toArray⟩ else none) else some ⟨#[]⟩
set_option maxHeartbeats 4000000 in
theorem spec_FormulaText.walk (k : Nat) (a : Int) (A : Option Addr) (c : Nat) (l : List (List Int)) (w : World) (hr : Kd.C (Kd.slice 2 (Kd.int .i64)) w A l.length l) (hc : l.length ≤ c) (hP : spec_IsFormula.f k a l = some true)
    (q1 : spec_l01Dec.f k a = some ⟨(Lib.itoa a).toArray⟩) (q2 : spec_l01Dec.f k (l.length : Int) = some ⟨(Lib.itoa (l.length : Int)).toArray⟩) (q3 : ∀ x ∈ l, ∀ n ∈ x, spec_l20Number.f k n = some ⟨(Lib.itoa n).toArray⟩) (q4 : (impl_formulaText.head a l.length ++ impl_clausesText.text l).length ≤ 140737488355327) :
    Calls Tryd.prog 13 #[.agg #[.int .i64 a, .slice A l.length c]] w fun e w' => e = .returned (.string ⟨(impl_formulaText.head a l.length ++ impl_clausesText.text l).toArray⟩) ∧ Below w.heap.size w w' := by
  have hlen := hr.2.1
  have HR := Aside0.mk hr
  have hu29 := Tryd.underlying29
  have HB1 := Aside0.mk (below_alloc (Below.refl w.heap.size w) (.cells #[.int .i64 a, .slice A l.length c] 29))
  have HBOX := Aside0.mk (heap_alloc_new w (.cells #[.int .i64 a, .slice A l.length c] 29 (0, 0)))
  have HP := Aside0.mk hP
  clear hr hP
  obtain ⟨D, hD⟩ : ∃ D, D = Lib.itoa a := ⟨_, rfl⟩
  obtain ⟨E, hE⟩ : ∃ E, E = Lib.itoa (l.length : Int) := ⟨_, rfl⟩
  obtain ⟨H, hH⟩ : ∃ H, H = impl_formulaText.head a l.length := ⟨_, rfl⟩
  have hH2 : H = [112, 32, 99, 110, 102, 32] ++ D ++ [32] ++ E ++ [10] := by
    rw [hH, hD, hE]
    unfold impl_formulaText.head
    rw [join_two]
    simp
  rw [← hD] at q1
  rw [← hE] at q2
  rw [← hH] at q4 ⊢
  have Q1 := Aside0.mk q1
  have Q2 := Aside0.mk q2
  have lh : H.length = 6 + D.length + 1 + E.length + 1 := by rw [hH2]; simp only [List.length_append, List.length_cons, List.length_nil]
  rw [List.length_append] at q4
  clear q1 q2 hD hE hH
  have e1 : (⟨#[112, 32, 99, 110, 102, 32]⟩ : ByteArray) ++ ⟨D.toArray⟩ ++ ⟨#[32]⟩ ++ ⟨E.toArray⟩ ++ ⟨#[10]⟩ = ⟨H.toArray⟩ := by rw [hH2, ← arr_app' _ [10], ← arr_app' _ E, ← arr_app' _ [32], ← arr_app' _ D]
  have k1 : (9223372036854775807 < 6 + D.length) = False := eq_false (by omega)
  have k2 : (9223372036854775807 < 6 + D.length + 1) = False := eq_false (by omega)
  have k3 : (9223372036854775807 < 6 + D.length + 1 + E.length) = False := eq_false (by omega)
  have k4 : (9223372036854775807 < 6 + D.length + 1 + E.length + 1) = False := eq_false (by omega)
  have hcv : ∀ W, (convert 9 40 (.string ((⟨#[112, 32, 99, 110, 102, 32]⟩ : ByteArray) ++ ⟨D.toArray⟩ ++ ⟨#[32]⟩ ++ ⟨E.toArray⟩ ++ ⟨#[10]⟩))).run Tryd.prog W = .ok (.slice (some ⟨W.heap.size, 0, none⟩) H.length (grownCap W H.length 0 5)) (Lib.bytesWorld W 5 ⟨H.toArray⟩) := by
    intro W
    rw [e1, Lib.run_convert_string_bytes W 9 40 5 ⟨H.toArray⟩ Tryd.underlying9 Tryd.underlying40 Tryd.underlying5]
    rw [show (⟨H.toArray⟩ : ByteArray).size = H.length by show H.toArray.size = _; simp]
  have LH := Aside0.mk lh
  clear e1 hH2 lh
  have x0 := (blk_cell HBOX.out 0).trans rfl
  have x1 := (blk_cell HBOX.out 1).trans rfl
  obtain ⟨i5, hi5, hz5, hs5, hb5⟩ : ∃ i : TypeInfo, Tryd.prog.info? 5 = some i ∧ i.zero = some (.int .u8 0) ∧ i.size = 1 ∧ i.bytes = 1 := by
    obtain ⟨i, h1, h2⟩ := Option.map_eq_some_iff.1 (show (Tryd.prog.info? 5).map (fun i => (i.zero, i.size, i.bytes)) = some (some (.int .u8 0), 1, 1) by kernel_rfl)
    simp only [Prod.mk.injEq] at h2
    exact ⟨i, h1, h2.1, h2.2.1, h2.2.2⟩
  go_enter Tryd.func13, Tryd.ntmps13
  go_upto_region 3 with (go_at_call 22; (with_reducible refine (spec_IsFormula.calls k _ _ _ l true _ (Kd.C_below HR.out HB1.out) hc HP.out).mono ?_); rintro e w1 ⟨rfl, hb1⟩; have HB2 := Aside0.mk (below_step HB1.out hb1); have HX := Aside0.mk (blk_below HBOX.out hb1); have y0 := (blk_cell HX.out 0).trans rfl; have y1 := (blk_cell HX.out 1).trans rfl)
  have hc1 := below_size HB2.out
  go_region_with (first
      | (go_at_call 23; (with_reducible refine (spec_l01Dec.calls k a _ _ Q1.out).mono ?_); rintro e w5 ⟨rfl, hbb5⟩; have HB5 := Aside0.mk ((fun (W : World) (h : Below w1.heap.size w1 W) (g : Below W.heap.size W w5) => below_step h g) _ (by with_reducible repeat (first | exact Below.refl _ _ | apply below_drew1)) hbb5); have z5 := (blk_cell (blk_below HX.out HB5.out) 1).trans rfl)
      | (go_at_call 23; (with_reducible refine (spec_l01Dec.calls k (l.length : Int) _ _ Q2.out).mono ?_); rintro e w6 ⟨rfl, hb6⟩; have HB6 := Aside0.mk ((fun (W : World) (h : Below w1.heap.size w1 W) (g : Below W.heap.size W w6) => below_step h g) _ (by with_reducible repeat (first | exact HB5.out | apply below_drew1)) hb6)))
  all_goals (
    clear k1 k2 k3 k4 hcv x0 x1 y0 y1 z5
    have HBB : Aside0 (Below (w.heap.size + 1) w1 (Lib.bytesWorld w6 5 ⟨H.toArray⟩)) := by
      have hlt := blk_lt HX.out
      exact ⟨bytes_below (Below.mono HB6.out (by omega)) (by have := HB6.out.size; omega) _ _⟩
    have HRR : Aside0 (Row5 (Lib.bytesWorld w6 5 ⟨H.toArray⟩) (w.heap.size + 1) 5 (.slice (some ⟨w6.heap.size, 0, none⟩) H.length (grownCap w6 H.length 0 5)) H) := by
      have hlt := blk_lt HX.out
      have hs6 := HB6.out.size
      obtain ⟨g, cap, cur, fz, h1, h2, h3⟩ := row5_new w6 5 H (by have := LH.out; omega)
      exact ⟨g, cap, cur, fz, h1, by omega, h3⟩
    generalize Lib.bytesWorld w6 5 ⟨H.toArray⟩ = W0 at HBB HRR ⊢
    generalize (Value.slice (some ⟨w6.heap.size, 0, none⟩) H.length (grownCap w6 H.length 0 5)) = v0 at HRR ⊢
    clear hbb5 hb6 HB5 HB6
    go_wp2)
  all_goals (
    go_loopw [3, 4] (fun v i wr => ∃ (kk : Nat) (acc : List UInt8), kk ≤ l.length ∧ i = .int .i64 kk ∧ Aside0 (Row5 wr (w.heap.size + 1) 5 v acc) ∧ Aside0 (Below (w.heap.size + 1) w1 wr) ∧ Aside0 (acc ++ impl_clausesText.text (l.drop kk) = H ++ impl_clausesText.text l)) (fun _ i _ => l.length - (intOf i).toNat)
    case atStart => exact ⟨0, H, Nat.zero_le _, rfl, HRR, HBB, ⟨rfl⟩⟩
    case round =>
      obtain ⟨kk, acc, hk, rfl, HRO, HBO, HA⟩ := hrel
      clear HBB HRR
      have hw1 := blk_lt HX.out
      have hsw := HBO.out.size
      have HBW : Aside0 (Below w.heap.size w _) := Aside0.mk (HB2.out.trans (Below.mono HBO.out (by omega)))
      have hx1 := (HBO.out.block w.heap.size (by omega)).trans HX.out
      have y1 := (blk_cell hx1 1).trans rfl
      by_cases hlt : kk < l.length
      · obtain ⟨ad, cs, e, hsz, ⟨Ai, ci, rfl, hci, hCi⟩, hcell⟩ := ReadsRow.get_ HR.out ([] : List Int) (kk : Int) (by omega) (by omega)
        subst e
        have hd : l.drop kk = l.getD kk [] :: l.drop (kk + 1) := by
          rw [List.drop_eq_getElem_cons hlt]
          simp [List.getD_eq_getElem?_getD, List.getElem?_eq_getElem hlt]
        have hm : l.getD kk [] ∈ l := by
          simp [List.getD_eq_getElem?_getD, List.getElem?_eq_getElem hlt]
        have HA2 := HA.out
        rw [hd, text_cons] at HA2
        clear hd
        rw [Int.toNat_natCast] at hcell hci hCi
        have h0w := hcell 0 _ rfl
        rw [show kk * (Kd.slice 2 (Kd.int .i64)).sz + 0 = kk by show kk * 1 + 0 = kk; omega] at h0w
        have HCI := Aside0.mk hCi
        have HCC := Aside0.mk hci
        have H0W := Aside0.mk h0w
        have q3q := q3 _ hm
        clear hcell hci hCi hsz hm h0w
        generalize l.getD kk [] = q at HCI HCC H0W q3q HA2
        have hql := HCI.out.2.1
        have HAQ := Aside0.mk HA2
        clear HA2 HA
        have h0 := pw_cell_below HBW.out H0W.out
        go_wp2
        go_loopw [3, 5] (fun v i wr2 => ∃ (jj : Nat) (acc2 : List UInt8), jj ≤ q.length ∧ i = .int .i64 jj ∧ Aside0 (Row5 wr2 (w.heap.size + 1) 5 v acc2) ∧ Aside0 (Below (w.heap.size + 1) w1 wr2) ∧ Aside0 (acc2 ++ (impl_clausesText.line (q.drop jj) ++ impl_clausesText.text (l.drop (kk + 1))) = H ++ impl_clausesText.text l)) (fun _ i _ => q.length - (intOf i).toNat)
        case atStart => exact ⟨0, acc, Nat.zero_le _, rfl, HRO, HBO, HAQ⟩
        case round =>
          obtain ⟨jj, acc2, hj, rfl, HR2, HB3, HA2⟩ := hrel
          clear HRO HBO HBW hx1 y1 h0 hsw HAQ
          have hsw := HB3.out.size
          have HBW : Aside0 (Below w.heap.size w _) := Aside0.mk (HB2.out.trans (Below.mono HB3.out (by omega)))
          have hx1 := (HB3.out.block w.heap.size (by omega)).trans HX.out
          have y1 := (blk_cell hx1 1).trans rfl
          have h0 := pw_cell_below HBW.out H0W.out
          by_cases jlt : jj < q.length
          · obtain ⟨ad2, e2, hx⟩ := Kd.at_int HCI.out (jj : Int) (by omega) (by omega)
            subst e2
            replace hx := pw_cell_below HBW.out hx
            have hd : q.drop jj = rd q (jj : Int) :: q.drop (jj + 1) := by
              rw [List.drop_eq_getElem_cons jlt]
              simp [rd, List.getD_eq_getElem?_getD, List.getElem?_eq_getElem jlt]
            have hm : rd q (jj : Int) ∈ q := by
              simp [rd, List.getD_eq_getElem?_getD, List.getElem?_eq_getElem jlt]
            have hn := q3q _ hm
            have HA3 := HA2.out
            rw [hd, line_cons] at HA3
            rw [Int.toNat_natCast] at hx
            generalize rd q (jj : Int) = n at hx hn HA3
            have HL := congrArg List.length HA3
            simp only [List.length_append, List.length_cons] at HL
            have HA4 := Aside0.mk HA3
            have HN := Aside0.mk hn
            clear HA3 hd hm hn
            have kz : (9223372036854775807 < (Lib.itoa n).length + 1) = False := eq_false (by omega)
            have HLL := Aside0.mk HL
            clear HL
            go_wp2_with (first
              | (go_at_call 17; (with_reducible refine (spec_l20Number.calls k n _ _ HN.out).mono ?_); rintro e W1 ⟨rfl, hb⟩; have HR3 := Aside0.mk (HR2.out.below hb); have HB4 := Aside0.mk (HB3.out.trans (Below.mono hb (by omega))); clear hb)
              | (at_builtin; refine wp_append5 rfl (.tmp 38) (.tmp 48) 40 9 5 rfl Tryd.underlying40 Tryd.underlying9 hi5 hz5 hs5 hb5 HR3.out (Lib.itoa n ++ [32]) rfl (congrArg Value.string (arr_app' (Lib.itoa n) [32])) (by have := HLL.out; rw [List.length_append, List.length_singleton]; omega) (by have := HB4.out.size; omega) ?_; intro v' w' h2 h3; have HR4 := Aside0.mk h2; have HB5 := Aside0.mk (HB4.out.trans h3); clear h2 h3))
            go_roundw
            case rel => exact ⟨jj + 1, acc2 ++ (Lib.itoa n ++ [32]), by omega, by go_num, HR4, HB5, ⟨by rw [← HA4.out]; simp⟩⟩
            case measure => simp [intOf]; omega
          · have hkl : jj = q.length := by omega
            have HA3 := HA2.out
            rw [hkl, List.drop_length, show impl_clausesText.line [] = [48, 10] from rfl] at HA3
            have HL := congrArg List.length HA3
            simp only [List.length_append, List.length_cons, List.length_nil] at HL
            have HLL := Aside0.mk HL
            have HA4 := Aside0.mk HA3
            clear HA3 HL
            go_wp2_with (at_builtin; refine wp_append5 rfl (.tmp 50) _ 40 9 5 rfl Tryd.underlying40 Tryd.underlying9 hi5 hz5 hs5 hb5 HR2.out [48, 10] rfl rfl (by have := HLL.out; simp only [List.length_cons, List.length_nil]; omega) (by omega) ?_; intro v' w' h2 h3; have HR4 := Aside0.mk h2; have HB5 := Aside0.mk (HB3.out.trans h3); clear h2 h3)
            go_roundw
            case rel => exact ⟨kk + 1, acc2 ++ [48, 10], by omega, by go_num, HR4, HB5, ⟨by rw [← HA4.out, List.append_assoc]⟩⟩
            case measure => simp [intOf]; omega
      · have hkl : kk = l.length := by omega
        have HA2 := HA.out
        rw [hkl, List.drop_length, show impl_clausesText.text [] = [] from rfl, List.append_nil] at HA2
        subst HA2
        have hst := row5_string (P := Tryd.prog) 40 9 5 Tryd.underlying40 Tryd.underlying5 Tryd.underlying9 HRO.out
        go_wp2
        go_ret
        exact ⟨rfl, HBW.out⟩)
set_option maxHeartbeats 1600000 in
theorem spec_FormulaText.calls (k : Nat) (a0_0 : Int) (A0_1 : Option Addr) (c0_1 : Nat) (l0_1 : List (List Int)) (r : ByteArray) (w : World) (hr0_1 : Kd.C (Kd.slice 2 (Kd.int .i64)) w A0_1 l0_1.length l0_1) (hc0_1 : l0_1.length ≤ c0_1) (h : spec_FormulaText.f k a0_0 l0_1 = some r) :
    Calls Tryd.prog 13 #[.agg #[.int .i64 a0_0, .slice A0_1 l0_1.length c0_1]] w fun e w' => e = .returned (.string r) ∧ Below w.heap.size w w' := by
  unfold spec_FormulaText.f at h
  obtain ⟨p, hp, h1⟩ := Option.bind_eq_some_iff.mp h
  clear h
  cases p with
  | true =>
    rw [if_pos rfl] at h1
    split at h1
    case isFalse => cases h1
    case isTrue hq =>
      obtain rfl := Option.some.inj h1
      exact spec_FormulaText.walk k a0_0 A0_1 c0_1 l0_1 w hr0_1 hc0_1 hp hq.1 hq.2.1 hq.2.2.1 hq.2.2.2
  | false =>
    rw [if_neg (by decide)] at h1
    obtain rfl := Option.some.inj h1
    have hlen := hr0_1.2.1
    have HR := Aside0.mk hr0_1
    have HP := Aside0.mk hp
    have hu29 := Tryd.underlying29
    have HBL := Aside0.mk (below_alloc (Below.refl w.heap.size w) (.cells #[.int .i64 a0_0, .slice A0_1 l0_1.length c0_1] 29))
    clear hr0_1 hp h1
    go_enter Tryd.func13, Tryd.ntmps13
    go_wp2_with (go_at_call 22; (with_reducible refine (spec_IsFormula.calls k _ _ _ l0_1 false _ (Kd.C_below HR.out HBL.out) hc0_1 HP.out).mono ?_); rintro e w1 ⟨rfl, hd1⟩)
    go_ret
    exact ⟨rfl, below_step HBL.out hd1⟩

end Go.Proofs.YtncianokahfkpaaDoor.Q

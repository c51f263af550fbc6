/- Written by a program of this session (wip/tools/pp.py) out of the translation, with the kit's printer. -/
import Derived.Test.YtcgnnfaemjjljaaDoorQ0
import Derived.Test.YtcgnnfaemjjljaaDoorQGstringsIndexByte
import Derived.Test.YtcgnnfaemjjljaaDoorQ4
import Derived.Test.YtcgnnfaemjjljaaDoorQGimplturnWord
import Derived.Test.YtcgnnfaemjjljaaDoorQ12
import Derived.Lib.Strings
import Derived.Deep.RegionWith
import Derived.Laws.Tables
namespace Go.Proofs.YtcgnnfaemjjljaaDoor.Q
open Go.RowKit Go.Proofs.YtcgnnfaemjjljaaDoorW.PrintWords Go.Proofs.YtcgnnfaemjjljaaDoorW.PrintLast Go.Proofs.YtcgnnfaemjjljaaDoorW.PrintMore
attribute [local go_sem] max2_int min2_int max_two min_two max_three min_three max_four min_four
set_option linter.unusedVariables false
set_option linter.unusedSimpArgs false

/-! ### impl_WordArea: walked by hand -/
def dxL (b : UInt8) : Int := if b = 114 then 1 else if b = 100 then 0 else if b = 108 then -1 else 0
def dyL (b : UInt8) : Int := if b = 114 then 0 else if b = 100 then 1 else if b = 108 then 0 else -1
def areaStep (p : Int × Int) (b : UInt8) : Int × Int := (wrap64 (p.1 - wrap64 (dxL b * p.2)), wrap64 (p.2 + dyL b))
def areaL (l : List UInt8) : Int × Int := l.foldl areaStep (0, 0)
def impl_WordArea.f (a0 : ByteArray) : Option (Int × Int) :=
  (impl_isWord.f a0).bind fun p => if p = true then (impl_isClosed.f a0).bind fun q => if q = true then (if a0.size ≤ 200 ∧ a0.data.toList.all isL = true then some ((areaL a0.data.toList).1, 0) else none) else some (0, 5) else some (0, 6)
def edgesV : Value := .agg #[.int .i64 1, .int .i64 0, .int .i64 0, .int .i64 0, .int .i64 0, .int .i64 (-1), .int .i64 0, .int .i64 1, .int .i64 (-1), .int .i64 0, .int .i64 0, .int .i64 0, .int .i64 (-1), .int .i64 0, .int .i64 (-1), .int .i64 (-1), .int .i64 (-1), .int .i64 0, .int .i64 0, .int .i64 (-1), .int .i64 0, .int .i64 (-1), .int .i64 (-1), .int .i64 (-1)]
theorem edges_store {ops : Array Oper} {rest : List Oper} {o : Oper} {a : Act} {w : World} {Q : Exit → Act → World → Prop} (hgd : o.guard = none) (x y : Operand) (ho : o.op = .store 47 x y) (g : Nat) (hx : a.eval x = .pointer (some ⟨g, 0, none⟩)) (hy : a.eval y = edgesV)
    (old : Array Value) (hg : w.heap[g]? = some (.cells old 47 (0, 0))) (hold : old.size = 24)
    (h : wpList Tryd.prog ops Q rest (a.put o.dst undef) (w.setRow g edgesV.cells)) : wpList Tryd.prog ops Q (o :: rest) a w :=
  wpList_store_row hgd 47 x y ho g edgesV.cells hx hy 47 old hg (by kernel_rfl) hold (by kernel_rfl) h
theorem below_row {B : Nat} {w0 w : World} {g : Nat} {cs : Array Value} (h : Below B w0 w) (hg : B ≤ g) : Below B w0 (w.setRow g cs) :=
  ⟨h.os, h.tape, h.output, by rw [setRow_size]; exact h.size, fun k hk => by rw [setRow_other _ _ _ _ (by omega)]; exact h.block k hk⟩
theorem results_c1 {fn : Func} {p : Tmp} {ty : TypeId} (h : fn.results = #[.cell p ty]) (tmps : Array Value) (w : World) (g : Nat) (t : TypeId) (cs : Array Value) (fr : Nat × Nat) (d : TypeDesc)
    (hp : tmps.getD p undef = .pointer (some ⟨g, 0, none⟩)) (hg : w.heap[g]? = some (.cells cs t fr))
    (hu : Tryd.prog.underlying ty = some d) (hl : (loadVar ty ⟨g, 0, none⟩).run Tryd.prog w = .ok (.agg cs) w) :
    (results fn tmps).run Tryd.prog w = .ok (.agg cs) w := by
  have hp' : tmps[p]?.getD undef = .pointer (some ⟨g, 0, none⟩) := by simpa using hp
  simp [results, h, hp', asAddr, hl]
set_option maxHeartbeats 1000000 in
theorem impl_edges.run (w : World) : Calls Tryd.prog 38 #[] w fun e w' => e = .returned edgesV ∧ Below w.heap.size w w' := by
  have hu46 := Tryd.underlying46
  have hu42 := Tryd.underlying42
  have hu47 := Tryd.underlying47
  go_enter Tryd.func38, Tryd.ntmps38
  go_wp2_with (first
    | ((with_reducible refine gate_dst (N := 15) rfl ?_); refine wpList_build rfl _ _ rfl (by kernel_rfl) ?_; rw [show (Value.agg (Option.getD _ _)) = edgesV from by kernel_rfl])
    | (refine edges_store rfl _ _ rfl w.heap.size rfl rfl _ (heap_alloc_new w _) (by kernel_rfl) ?_))
  exact bodyPost_ret (results_c1 rfl _ _ w.heap.size 47 edgesV.cells (0, 0) _ rfl (setRow_heap _ _ _ _ _ _ (heap_alloc_new w _)) hu47 (run_loadVar_row _ _ _ _ _ _ _ (setRow_heap _ _ _ _ _ _ (heap_alloc_new w _)) hu47 rfl (by kernel_rfl))) rfl ⟨rfl, below_row (below_alloc (Below.refl _ _) _) (Nat.le_refl _)⟩
theorem areaL_snoc (l : List UInt8) (k : Nat) (h : k < l.length) : areaL (l.take (k + 1)) = areaStep (areaL (l.take k)) l[k] := by
  unfold areaL
  rw [List.take_succ_eq_append_getElem h, List.foldl_append]
  rfl
def stepV (b : UInt8) : Value := .agg #[.int .i64 (dxL b), .int .i64 (dyL b)]
def edgeV (i : Nat) : Value := .agg ((edgesV.cells.toList.drop (6 * i)).take 6).toArray
theorem run_edge (w : World) (r : Nat) (h : r < 4) : (Instr.index 47 edgesV (.int .i64 (r : Int))).run Tryd.prog w = .ok (edgeV r) w := by
  match r, h with
  | 0, _ => show Sem.run _ _ _ = _; kernel_rfl
  | 1, _ => show Sem.run _ _ _ = _; kernel_rfl
  | 2, _ => show Sem.run _ _ _ = _; kernel_rfl
  | 3, _ => show Sem.run _ _ _ = _; kernel_rfl
theorem run_step (w : World) (b : UInt8) (h : isL b = true) : (Instr.field 46 (edgeV (idxL b)) 0).run Tryd.prog w = .ok (stepV b) w := by
  unfold isL at h
  simp at h
  rcases h with ((rfl | rfl) | rfl) | rfl <;> (show Sem.run _ _ _ = _; kernel_rfl)
theorem run_byte (w : World) (s : ByteArray) (k : Nat) (h : k < s.data.toList.length) : (Instr.index 9 (.string s) (.int .i64 (k : Int))).run Tryd.prog w = .ok (.int .u8 ((s.data.toList[k]).toNat : Int)) w := by
  have hs : s.data.toList.length = s.size := by rw [Array.length_toList]; rfl
  have hu := Tryd.underlying9
  have h2 : k < s.size := by omega
  go_simp
  rfl
attribute [local irreducible] edgesV edgeV
theorem bcellA {W w1 : World} (hb : Below W.heap.size W w1) : (∀ b o, b < W.heap.size → w1.cell? ⟨b, o, none⟩ = W.cell? ⟨b, o, none⟩) ∧ (∀ b o, b < W.heap.size → w1.frozen? ⟨b, o, none⟩ = W.frozen? ⟨b, o, none⟩) :=
  ⟨fun b o h => hb.cell (p := ⟨b, o, none⟩) h, fun b o h => hb.frozen (p := ⟨b, o, none⟩) h⟩
set_option maxRecDepth 100000 in
set_option maxHeartbeats 1000000 in
theorem impl_WordArea.calls (a0 : ByteArray) (r1 r2 : Int) (w : World) (h : impl_WordArea.f a0 = some (r1, r2)) :
    Calls Tryd.prog 18 #[.string a0] w fun e w' => e = .returned (.tuple #[.int .i64 r1, .int .i64 r2]) ∧ Below w.heap.size w w' := by
  unfold impl_WordArea.f at h
  obtain ⟨p, hp, h1⟩ := Option.bind_eq_some_iff.mp h
  clear h
  have HP := Aside0.mk hp
  clear hp
  cases p with
  | false =>
    rw [if_neg (by decide)] at h1
    simp only [Option.some.injEq, Prod.mk.injEq] at h1
    obtain ⟨rfl, rfl⟩ := h1
    go_enter Tryd.func18, Tryd.ntmps18
    go_wp2_with (go_at_call 30; (with_reducible refine (impl_isWord.calls _ _ _ HP.out).mono ?_); rintro e w1 ⟨rfl, hb1⟩)
    go_ret2
    exact ⟨rfl, hb1⟩
  | true =>
    rw [if_pos rfl] at h1
    obtain ⟨q, hq, h2⟩ := Option.bind_eq_some_iff.mp h1
    clear h1
    have HQ := Aside0.mk hq
    clear hq
    cases q with
    | false =>
      rw [if_neg (by decide)] at h2
      simp only [Option.some.injEq, Prod.mk.injEq] at h2
      obtain ⟨rfl, rfl⟩ := h2
      go_enter Tryd.func18, Tryd.ntmps18
      go_wp2_with (first
        | (go_at_call 30; (with_reducible refine (impl_isWord.calls _ _ _ HP.out).mono ?_); rintro e w1 ⟨rfl, hb1⟩)
        | (go_at_call 36; (with_reducible refine (impl_isClosed.calls _ _ _ HQ.out).mono ?_); rintro e w2 ⟨rfl, hd2⟩))
      go_ret2
      exact ⟨rfl, below_step hb1 hd2.below⟩
    | true =>
      rw [if_pos rfl] at h2
      split at h2
      case isFalse => exact absurd h2 (by simp)
      rename_i hh
      obtain ⟨hsz, hall⟩ := hh
      simp only [Option.some.injEq, Prod.mk.injEq] at h2
      obtain ⟨rfl, rfl⟩ := h2
      have hlen : a0.data.toList.length = a0.size := by rw [Array.length_toList]; rfl
      have HALL := Aside0.mk hall
      have HLEN := Aside0.mk hlen
      clear hall hlen
      have hu46 := Tryd.underlying46
      have hu42 := Tryd.underlying42
      have hu47 := Tryd.underlying47
      go_enter Tryd.func18, Tryd.ntmps18
      go_wp2_with (first
        | (go_at_call 30; (with_reducible refine (impl_isWord.calls _ _ _ HP.out).mono ?_); rintro e w1 ⟨rfl, hb1⟩; have HB1 := Aside0.mk hb1; clear hb1)
        | (go_at_call 36; (with_reducible refine (impl_isClosed.calls _ _ _ HQ.out).mono ?_); rintro e w2 ⟨rfl, hd2⟩; have HB2 := Aside0.mk (below_step HB1.out hd2.below); clear hd2))
      go_loopw [4, 5, 6] (fun s y i wr => ∃ kk : Nat, kk ≤ a0.size ∧ i = .int .i64 kk ∧ s = .int .i64 (areaL (a0.data.toList.take kk)).1 ∧ y = .int .i64 (areaL (a0.data.toList.take kk)).2 ∧ Aside0 (Below w.heap.size w wr)) (fun _ _ i _ => a0.size - (intOf i).toNat)
      case atStart => exact ⟨0, Nat.zero_le _, rfl, rfl, rfl, HB2⟩
      case round =>
        obtain ⟨kk, hk, rfl, rfl, rfl, HB⟩ := hrel
        by_cases hlt : kk < a0.size
        · have hl : kk < a0.data.toList.length := by rw [HLEN.out]; exact hlt
          have hsn := areaL_snoc a0.data.toList kk hl
          have hb : isL (a0.data.toList[kk]) = true := List.all_eq_true.1 HALL.out _ (List.getElem_mem hl)
          have hi := idx_circ _ hb
          have hst := fun w : World => run_step w _ hb
          have hed := fun w : World => run_edge w _ (idxL_lt (a0.data.toList[kk]))
          unfold areaStep at hsn
          have HSN := Aside0.mk hsn
          clear hsn hb
          unfold stepV at hst
          have hcall := fun w : World => strings_IndexByte.same ⟨#[114, 100, 108, 117]⟩ ((a0.data.toList[kk]).toNat : Int) w
          rw [show (⟨#[114, 100, 108, 117]⟩ : ByteArray).data.toList = [114, 100, 108, 117] from rfl, hi] at hcall
          clear hi
          have hix := fun w : World => run_byte w a0 kk hl
          generalize idxL (a0.data.toList[kk]) = x at hst hed hcall
          generalize dxL (a0.data.toList[kk]) = dx at hst HSN
          generalize dyL (a0.data.toList[kk]) = dy at hst HSN
          generalize a0.data.toList[kk] = b at hcall hix
          generalize (areaL (List.take kk a0.data.toList)).1 = s at HSN ⊢
          generalize (areaL (List.take kk a0.data.toList)).2 = y at HSN ⊢
          go_upto_region 9 with (fail)
          go_region_with (first
            | (go_at_call 38; refine (impl_edges.run _).mono ?_; rintro e w3 ⟨rfl, hb3⟩; have hz3 := hb3.size; obtain ⟨hc3, hf3⟩ := bcellA hb3)
            | (go_at_call 39; refine (hcall _).mono ?_; rintro e w4 ⟨rfl, rfl⟩))
          all_goals (
            have HB5 : Aside0 (Below w.heap.size w _) := Aside0.mk (below_step (by with_reducible repeat (first | exact HB.out | apply below_alloc | apply below_drew1 | apply pw_below_drewN)) hb3)
            go_wp2
            go_roundw
            case rel => exact ⟨kk + 1, by omega, by go_num, by rw [HSN.out], by rw [HSN.out], ⟨by
              repeat (first | (with_reducible first | exact HB.out | exact HB5.out | apply below_alloc | apply pw_below_drewN | apply below_drew1) | (refine below_set ?_ (by have := HB.out.size; simp; omega)))⟩⟩
            case measure => simp [intOf]; omega)
        · have e : kk = a0.data.toList.length := by rw [HLEN.out]; omega
          have e2 : a0.data.toList.take kk = a0.data.toList := by rw [e, List.take_length]
          rw [e2]
          clear e e2
          go_wp2
          go_ret2
          exact ⟨rfl, HB.out⟩

end Go.Proofs.YtcgnnfaemjjljaaDoor.Q

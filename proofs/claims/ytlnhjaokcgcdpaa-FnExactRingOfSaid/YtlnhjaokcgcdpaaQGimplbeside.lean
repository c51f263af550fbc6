/- Written by a program of this session (wip/tools/pp.py) out of the translation, with the kit's printer. -/
import Derived.Test.YtlnhjaokcgcdpaaQ0
import Derived.Test.YtlnhjaokcgcdpaaQ10
import Derived.Test.YtlnhjaokcgcdpaaQGimplCell26
import Derived.Test.YtlnhjaokcgcdpaaQGimplCell27
import Derived.Test.YtlnhjaokcgcdpaaQ11
import Derived.LoopTactic
namespace Go.Proofs.Ytlnhjaokcgcdpaa.Q
open Go.RowKit Go.Proofs.YtlnhjaokcgcdpaaW.PrintWords Go.Proofs.YtlnhjaokcgcdpaaW.PrintLast Go.Proofs.YtlnhjaokcgcdpaaW.PrintMore
attribute [local go_sem] max2_int min2_int max_two min_two max_three min_three max_four min_four
set_option linter.unusedVariables false
set_option linter.unusedSimpArgs false

/-! ### impl_beside with cornersAround: walked by hand -/
def bndC (c : S34) : Prop := -1000000 ≤ c.f0 ∧ c.f0 ≤ 1000000 ∧ -1000000 ≤ c.f1 ∧ c.f1 ≤ 1000000
def corn (x y : Int) : List S34 := [⟨x - 1, y - 1⟩, ⟨x, y - 1⟩, ⟨x + 1, y - 1⟩, ⟨x - 1, y⟩, ⟨x + 1, y⟩, ⟨x - 1, y + 1⟩, ⟨x, y + 1⟩, ⟨x + 1, y + 1⟩]
def memC (l : List S34) (d : S34) : Bool := l.any fun c => d.f0 == c.f0 && d.f1 == c.f1
def sideC (l : List S34) (ds : List S34) : List S34 := ds.filter fun d => !memC l d
def rawC (l m : List S34) : List S34 := m.flatMap fun c => sideC l (corn c.f0 c.f1)
def besC (l : List S34) : List S34 := cmpN (sortC (rawC l l)) (sortC (rawC l l)).length
theorem sideC_len (l ds : List S34) : (sideC l ds).length ≤ ds.length := List.length_filter_le _ _
theorem rawC_len (l : List S34) : ∀ m : List S34, (rawC l m).length ≤ m.length * 8
  | [] => by simp [rawC]
  | c :: m => by
    have h := rawC_len l m
    have h2 := sideC_len l (corn c.f0 c.f1)
    have h3 : (corn c.f0 c.f1).length = 8 := rfl
    have e : rawC l (c :: m) = sideC l (corn c.f0 c.f1) ++ rawC l m := rfl
    rw [e, List.length_append, List.length_cons]
    omega
theorem wrapB {t : Int} (h1 : -1000010 ≤ t) (h2 : t ≤ 1000010) : wrap64 t = t := by unfold wrap64; omega
theorem corn_l1 (k : Nat) (acc : List S34) (t x y : Int) (hx : -1000000 ≤ x ∧ x ≤ 1000000) (ht : (t == y) = false) (hl : acc.length < 1000) :
    impl_cornersAround.l1 (k + 4) acc t (x - 1) x y = impl_cornersAround.l0 k (acc ++ [⟨x - 1, t⟩, ⟨x, t⟩, ⟨x + 1, t⟩]) (wrap64 (t + 1)) x y := by
  rw [impl_cornersAround.l1, wrapB (t := x + 1) (by omega) (by omega), wrapB (t := x - 1 + 1) (by omega) (by omega), if_pos (by omega), ht, if_pos (by simp), if_pos (by omega)]
  rw [impl_cornersAround.l1, wrapB (t := x + 1) (by omega) (by omega), wrapB (t := x - 1 + 1 + 1) (by omega) (by omega), if_pos (by omega), ht, if_pos (by simp), if_pos (by rw [List.length_append]; simp; omega)]
  rw [impl_cornersAround.l1, wrapB (t := x + 1) (by omega) (by omega), wrapB (t := x - 1 + 1 + 1 + 1) (by omega) (by omega), if_pos (by omega), ht, if_pos (by simp), if_pos (by rw [List.length_append, List.length_append]; simp; omega)]
  rw [impl_cornersAround.l1, wrapB (t := x + 1) (by omega) (by omega), if_neg (by omega)]
  rw [show x - 1 + 1 + 1 = x + 1 by omega, show x - 1 + 1 = x by omega]
  simp only [List.append_assoc, List.cons_append, List.nil_append]
theorem corn_l1y (k : Nat) (acc : List S34) (x y : Int) (hx : -1000000 ≤ x ∧ x ≤ 1000000) (hl : acc.length < 1000) :
    impl_cornersAround.l1 (k + 4) acc y (x - 1) x y = impl_cornersAround.l0 k (acc ++ [⟨x - 1, y⟩, ⟨x + 1, y⟩]) (wrap64 (y + 1)) x y := by
  have e1 : (x - 1 == x) = false := by simp; omega
  have e2 : (x - 1 + 1 == x) = true := by simp
  have e3 : (x - 1 + 1 + 1 == x) = false := by simp; omega
  have e4 : (y == y) = true := by simp
  rw [impl_cornersAround.l1, wrapB (t := x + 1) (by omega) (by omega), wrapB (t := x - 1 + 1) (by omega) (by omega), if_pos (by omega), e1, if_pos (by simp), if_pos (by omega)]
  rw [impl_cornersAround.l1, wrapB (t := x + 1) (by omega) (by omega), wrapB (t := x - 1 + 1 + 1) (by omega) (by omega), if_pos (by omega), e2, e4, if_neg (by simp)]
  rw [impl_cornersAround.l1, wrapB (t := x + 1) (by omega) (by omega), wrapB (t := x - 1 + 1 + 1 + 1) (by omega) (by omega), if_pos (by omega), e3, if_pos (by simp), if_pos (by rw [List.length_append]; simp; omega)]
  rw [impl_cornersAround.l1, wrapB (t := x + 1) (by omega) (by omega), if_neg (by omega)]
  rw [show x - 1 + 1 + 1 = x + 1 by omega]
  simp only [List.append_assoc, List.cons_append, List.nil_append]
theorem corn_eq (x y : Int) (hx : -1000000 ≤ x ∧ x ≤ 1000000) (hy : -1000000 ≤ y ∧ y ≤ 1000000) : ∃ k, impl_cornersAround.f k x y = some (corn x y) := by
  refine ⟨0 + 1 + 4 + 1 + 4 + 1 + 4 + 1, ?_⟩
  have f1 : (y - 1 == y) = false := by simp; omega
  have f2 : (y + 1 == y) = false := by simp; omega
  unfold impl_cornersAround.f
  rw [wrapB (t := y - 1) (by omega) (by omega), impl_cornersAround.l0, wrapB (t := y + 1) (by omega) (by omega), wrapB (t := x - 1) (by omega) (by omega), if_pos (by omega), corn_l1 _ _ _ _ _ hx f1 (by simp), wrapB (t := y - 1 + 1) (by omega) (by omega), show y - 1 + 1 = y by omega]
  rw [impl_cornersAround.l0, wrapB (t := y + 1) (by omega) (by omega), wrapB (t := x - 1) (by omega) (by omega), if_pos (by omega), corn_l1y _ _ _ _ hx (by simp), wrapB (t := y + 1) (by omega) (by omega)]
  rw [impl_cornersAround.l0, wrapB (t := y + 1) (by omega) (by omega), wrapB (t := x - 1) (by omega) (by omega), if_pos (by omega), corn_l1 _ _ _ _ _ hx f2 (by simp), wrapB (t := y + 1 + 1) (by omega) (by omega)]
  rw [impl_cornersAround.l0, wrapB (t := y + 1) (by omega) (by omega), if_neg (by omega)]
  rfl
theorem cont_l0 (l : List S34) (x y : Int) (hl : l.length ≤ 1000000) : ∀ (n : Nat) (i : Nat), l.length - i = n → i ≤ l.length → ∃ r, impl_Cell_30.l0 (n + 1) l (l.length : Int) (i : Int) x y = some r ∧ (0 ≤ r ↔ memC (l.drop i) ⟨x, y⟩ = true)
  | 0, i, hn, hi => by
    refine ⟨-1, ?_, ?_⟩
    · unfold impl_Cell_30.l0
      rw [if_neg (by omega)]
    · rw [List.drop_of_length_le (by omega)]
      simp [memC]
  | n + 1, i, hn, hi => by
    have hi2 : i < l.length := by omega
    have hd : l.drop i = rd_T34 l (i : Int) :: l.drop (i + 1) := by rw [rdN l hi2, ← List.drop_eq_getElem_cons hi2]
    unfold impl_Cell_30.l0
    rw [if_pos (by omega), if_pos (by omega), if_pos (by omega)]
    have hm : memC (l.drop i) ⟨x, y⟩ = ((x == (rd_T34 l (i : Int)).f0 && y == (rd_T34 l (i : Int)).f1) || memC (l.drop (i + 1)) ⟨x, y⟩) := by rw [hd]; rfl
    rw [hm]
    by_cases h : (x == (rd_T34 l (i : Int)).f0 && y == (rd_T34 l (i : Int)).f1) = true
    · rw [if_pos h, h]
      exact ⟨_, rfl, by simp⟩
    · rw [if_neg h]
      have hw : wrap64 ((i : Int) + 1) = ((i + 1 : Nat) : Int) := by unfold wrap64; omega
      rw [hw]
      obtain ⟨r, h1, h2⟩ := cont_l0 l x y hl n (i + 1) (by omega) (by omega)
      exact ⟨r, h1, by rw [h2]; simp only [Bool.not_eq_true] at h; rw [h, Bool.false_or]⟩
theorem cont_eq (l : List S34) (d : S34) (hl : l.length ≤ 1000000) : impl_Cell_25.f (l.length + 1) l d.f0 d.f1 = some (memC l d) := by
  obtain ⟨r, h1, h2⟩ := cont_l0 l d.f0 d.f1 hl l.length 0 (by omega) (by omega)
  rw [List.drop_zero] at h2
  unfold impl_Cell_25.f impl_Cell_30.f
  rw [show (0 : Int) = ((0 : Nat) : Int) from rfl, h1]
  simp only [Option.bind_some]
  congr 1
  by_cases hm : memC l d = true
  · rw [hm]; simp; exact h2.2 hm
  · have : ¬ (0 ≤ r) := fun h => hm (h2.1 h)
    simp only [Bool.not_eq_true] at hm
    rw [hm]; simp; omega
theorem size_al (w : World) (o : Obj) : (w.alloc o).heap.size = w.heap.size + 1 := by
  show (w.heap.push o).size = _
  simp
theorem below_grownC {w W V : World} {row : Option Nat} (h : Below w.heap.size w W) (g : W.grownBy V row) (hr : ∀ k, row = some k → w.heap.size ≤ k) : Below w.heap.size w V :=
  ⟨g.os.trans h.os, g.tape.trans h.tape, g.output.trans h.output, Nat.le_trans h.size g.size, fun k hk => (g.block k (Nat.lt_of_lt_of_le hk h.size) (fun e => by have := hr k e.symm; omega)).trans (h.block k hk)⟩
theorem baseC {W : World} {base : Nat} {ok : Nat → Prop} {v : Value} {xs : List S34} (h : Kd.R k34 34 W base ok v xs) {k : Nat} (hk : v.ownBlock = some k) : base ≤ k := ((Kd.R_bound h).1 k hk).2.1
theorem cell_blk {w W : World} {g i : Nat} (h : W.heap[g]? = w.heap[g]?) : W.cell? ⟨g, i, none⟩ = w.cell? ⟨g, i, none⟩ := by simp [World.cell?, h]
set_option maxRecDepth 100000 in
set_option maxHeartbeats 4000000 in
theorem impl_beside.corners (A0 : Option Addr) (c0 : Nat) (l0 : List S34) (w : World) (hr0 : Kd.C k34 w A0 l0.length l0) (hc0 : l0.length ≤ c0) (hl : l0.length ≤ 1000) (hb : ∀ c ∈ l0, bndC c) :
    Calls Try.prog 15 #[.slice A0 l0.length c0, .func (.func 16) #[] #[]] w fun e w' => ∃ v', e = .returned v' ∧ Kd.R k34 34 w' w.heap.size (fun _ => True) v' (besC l0) ∧ Below w.heap.size w w' := by
  have hu34 := Try.underlying34
  have HR0 := am hr0
  have HBN := am hb
  have HC0 := am hc0
  clear hr0 hb hc0
  have HB := am (Below.refl w.heap.size w)
  go_enter Try.func15, Try.ntmps15
  go_wp2_with ((with_reducible refine gate_dst (N := 10) rfl ?_); refine Kd.R_lit k34 w.heap.size 34 ?hg (N := 10) ?hd (xs := ([] : List S34)) (inner := []) (ok := fun _ => True) (okp := fun _ => True) ?hr ?hp (fun _ hk => hk) trivial HB.out (Nat.le_refl _) (by simp) ?_; (case hd => rfl); (case hg => rfl); (case hr => first | (go_simp; done) | (go_simp; rfl)); (case hp => exact (Reps.none _ _)); intro v10 w10 ho4 hb hg_ hnew_; clear hg_ hnew_; clear HB; have HO := am ho4; have HB := am hb; clear hb ho4)
  go_loopw [5, 13] (fun v5 i wr => ∃ kk : Nat, kk ≤ l0.length ∧ i = .int .i64 (kk : Int) ∧ Aside0 (Kd.R k34 34 wr w.heap.size (fun _ => True) v5 (rawC l0 (l0.take kk))) ∧ Aside0 (Below w.heap.size w wr)) (fun _ i _ => l0.length - (intOf i).toNat)
  case atStart => exact ⟨0, Nat.zero_le _, rfl, HO, HB⟩
  case round =>
    clear HO HB
    obtain ⟨kk, hk, rfl, HO, HB⟩ := hrel
    by_cases hlt : kk < l0.length
    · have hp : (0 : Int) ≤ (kk : Int) := by omega
      have hq : (kk : Int) < (l0.length : Int) := by omega
      obtain ⟨ad, rfl, hx0, hx1⟩ := at_T34 HR0.out (kk : Int) hp hq
      rw [Int.toNat_natCast] at hx0 hx1
      replace hx0 := pc HB.out hx0
      replace hx1 := pc HB.out hx1
      have hbn := HBN.out (rd_T34 l0 (kk : Int)) (by rw [rdN l0 hlt]; exact List.getElem_mem hlt)
      have htk : rawC l0 (l0.take (kk + 1)) = rawC l0 (l0.take kk) ++ sideC l0 (corn (rd_T34 l0 (kk : Int)).f0 (rd_T34 l0 (kk : Int)).f1) := by
        rw [List.take_add_one, List.getElem?_eq_getElem hlt, rdN l0 hlt]
        simp only [rawC, List.flatMap_append, Option.toList_some, List.flatMap_cons, List.flatMap_nil, List.append_nil]
      generalize rd_T34 l0 (kk : Int) = c at hx0 hx1 hbn htk
      obtain ⟨kf, hcorn⟩ := corn_eq c.f0 c.f1 ⟨hbn.1, hbn.2.1⟩ ⟨hbn.2.2.1, hbn.2.2.2⟩
      have HCN := am hcorn
      have HTK := am htk
      have HLT := am hlt
      clear hbn hcorn htk hlt
      have p1 := eq_true hp
      have q1 := eq_true hq
      clear hp hq
      have hc8 : (corn c.f0 c.f1).length = 8 := rfl
      have HC8 := am hc8
      clear hc8
      go_wp2_with ((go_at_call 16); (refine (impl_cornersAround.calls kf c.f0 c.f1 _ _ HCN.out).mono ?_); (rintro e w5 ⟨v5, rfl, hR5, hB5⟩); (obtain ⟨g, cap, rfl, hgb, _, _⟩ := Kd.R_form hR5 (by rw [HC8.out]; omega)); have n0_ := am (Kd.R_below (Kd.R_elderB (Kd.R_alloc HO.out _) g hgb) hB5); have n1_ := am (Bb6 (Bb1 HB.out _) hB5); have n2_ := am (Kd.R_lower hR5 (Nat.le_trans (Bb5 HB.out) (by rw [size_al]; omega))); clear HO HB hR5 hB5 HCN hgb; have HO := n0_; have HB := n1_; have HNB := n2_; clear n0_ n1_ n2_; rw [HC8.out] at HNB ⊢)
      go_loopw [5, 21] (fun u i wr => ∃ k2 : Nat, k2 ≤ 8 ∧ i = .int .i64 (k2 : Int) ∧ Aside0 (Kd.R k34 34 wr w.heap.size (fun k => k ≠ g) u (rawC l0 (l0.take kk) ++ sideC l0 ((corn c.f0 c.f1).take k2))) ∧ Aside0 (Kd.R k34 34 wr w.heap.size (fun _ => True) (.slice (some ⟨g, 0, none⟩) 8 cap) (corn c.f0 c.f1)) ∧ Aside0 (Below w.heap.size w wr)) (fun _ i _ => 8 - (intOf i).toNat)
      case atStart => exact ⟨0, Nat.zero_le _, rfl, ⟨by
        rw [List.take_zero, show sideC l0 [] = [] from rfl, List.append_nil]
        exact Kd.R_mono HO.out (fun _ h => h.2)⟩, HNB, HB⟩
      case round =>
        clear HO HB HNB
        obtain ⟨k2, hk2, rfl, HO, HNB, HB⟩ := hrel
        by_cases hlt2 : k2 < 8
        · obtain ⟨⟨y0, y1⟩, _⟩ := cells2 HNB.out k2 hlt2
          have htk2 : sideC l0 ((corn c.f0 c.f1).take (k2 + 1)) = sideC l0 ((corn c.f0 c.f1).take k2) ++ sideC l0 [rd_T34 (corn c.f0 c.f1) (k2 : Int)] := by
            rw [List.take_add_one, List.getElem?_eq_getElem (show k2 < (corn c.f0 c.f1).length by rw [HC8.out]; exact hlt2), rdN _ (by rw [HC8.out]; exact hlt2)]
            simp only [sideC, List.filter_append, Option.toList_some]
          have HTK2 := am htk2
          clear htk2
          generalize rd_T34 (corn c.f0 c.f1) (k2 : Int) = d at y0 y1 HTK2
          have p2 : ((0 : Int) ≤ (k2 : Int)) = True := eq_true (by omega)
          have q2 : ((k2 : Int) < 8) = True := eq_true (by omega)
          have q3 : (k2 < 8) = True := eq_true hlt2
          have HLT2 := am hlt2
          clear hlt2
          have hlen : (rawC l0 (l0.take kk) ++ sideC l0 ((corn c.f0 c.f1).take k2)).length ≤ 10000 := by
            have h1 := rawC_len l0 (l0.take kk)
            have h2 := sideC_len l0 ((corn c.f0 c.f1).take k2)
            rw [List.length_take] at h1 h2
            have := HC8.out
            rw [List.length_append]
            omega
          have HLEN := am hlen
          clear hlen
          generalize hxs : rawC l0 (l0.take kk) ++ sideC l0 ((corn c.f0 c.f1).take k2) = xs at HO HLEN
          have HXS := am hxs
          clear hxs
          have HCT := am (cont_eq l0 d (by omega))
          cases hmem : memC l0 d with
          | true =>
            have HMM := am hmem
            rw [hmem] at HCT
            clear hmem
            go_wp2_with ((go_at_call 25); (refine (impl_Cell_25.calls (l0.length + 1) (some ad) c0 l0 d.f0 d.f1 true _ (Kd.C_below HR0.out (Bb1 HB.out _)) HC0.out HCT.out).mono ?_); (rintro e w6 ⟨rfl, hB6⟩); have n0_ := am (Kd.R_below (Kd.R_alloc HO.out _) hB6); have n1_ := am (Bb6 (Bb1 HB.out _) hB6); have n2_ := am (Kd.R_below (Kd.R_alloc HNB.out _) hB6); clear HO HB HNB; have HO := n0_; have HB := n1_; have HNB := n2_; clear n0_ n1_ n2_ hB6)
            go_roundw
            case rel => exact ⟨k2 + 1, by have := HLT2.out; omega, by go_num, ⟨by
              rw [HTK2.out, ← List.append_assoc, HXS.out, show sideC l0 [d] = [] by simp [sideC, HMM.out], List.append_nil]
              exact HO.out⟩, HNB, HB⟩
            case measure => have := HLT2.out; simp [intOf]; omega
          | false =>
            have HMM := am hmem
            rw [hmem] at HCT
            clear hmem
            go_wp2_with (first
              | ((go_at_call 25); (refine (impl_Cell_25.calls (l0.length + 1) (some ad) c0 l0 d.f0 d.f1 false _ (Kd.C_below HR0.out (Bb1 HB.out _)) HC0.out HCT.out).mono ?_); (rintro e w6 ⟨rfl, hB6⟩); have n0_ := am (Kd.R_below (Kd.R_alloc HO.out _) hB6); have n1_ := am (Bb6 (Bb1 HB.out _) hB6); have n2_ := am (Kd.R_below (Kd.R_alloc HNB.out _) hB6); have hbx := Bk4 (blk_new wr _) hB6; have z0 : w6.cell? ⟨wr.heap.size, 0, none⟩ = some (.int .i64 d.f0) := (kc hbx 0).trans rfl; have z1 : w6.cell? ⟨wr.heap.size, 1, none⟩ = some (.int .i64 d.f1) := (kc hbx 1).trans rfl; clear HO HB HNB hbx; have HO := n0_; have HB := n1_; have HNB := n2_; clear n0_ n1_ n2_ hB6; (obtain ⟨_, _, hgf, _, hgl, _⟩ := Kd.R_form HNB.out (by rw [HC8.out]; omega)); (cases hgf); have HGL := am hgl; clear hgl)
              | ((with_reducible refine gate_builtin (b := .append) (xs := #[.tmp 29, .tmp 31]) rfl ?_); at_builtin; refine Kd.R_append k34 (w0 := w) w.heap.size rfl (.tmp 29) (.tmp 31) 24 34 (.agg #[(.int .i64 0), (.int .i64 0)]) 16 rfl Try.underlying24 info34 rfl (by decide) (by omega) u5 xs d [.int .i64 d.f0, .int .i64 d.f1] (fun k => k ≠ g) (fun _ => False) rfl rfl ?aP (fun _ hk => hk.elim) ?aF ?aO ?aB ?aS ?aL ?_; (case aP => exact k34_mkM _ _ _ d); (case aB => exact HB.out); (case aF => exact (fun k hk => by have := HGL.out; omega)); (case aO => exact HO.out); (case aS => exact Bb5 HB.out); (case aL => have := HLEN.out; omega); intro v1 w7 ho hb hg hat; have n0_ := am ho; have n1_ := am hb; have n2_ := am (Kd.R_grown2 HNB.out rfl hg (fun k hk hke => Kd.R_away HO.out (fun _ h => h) (by rw [hk, hke]; rfl))); clear HO HB HNB ho hb hg hat; have HO := n0_; have HB := n1_; have HNB := n2_; clear n0_ n1_ n2_))
            go_roundw
            case rel => exact ⟨k2 + 1, by have := HLT2.out; omega, by go_num, ⟨by
              rw [HTK2.out, ← List.append_assoc, HXS.out, show sideC l0 [d] = [d] by simp [sideC, HMM.out]]
              exact HO.out⟩, HNB, HB⟩
            case measure => have := HLT2.out; simp [intOf]; omega
        · have hk8 : k2 = 8 := by omega
          have HK8 := am hk8
          clear hk8
          go_wp2
          go_roundw
          case rel => exact ⟨kk + 1, by have := HLT.out; omega, by go_num, ⟨by
            rw [HTK.out]
            have e := HO.out
            rw [HK8.out, List.take_of_length_le (l := corn c.f0 c.f1) (by rw [HC8.out]; omega)] at e
            exact Kd.R_mono e (fun _ _ => trivial)⟩, HB⟩
          case measure => have := HLT.out; simp [intOf]; omega
    · have hkx : kk = l0.length := by omega
      subst hkx
      rw [List.take_length] at HO
      have hlen : (rawC l0 l0).length ≤ 8000 := by
        have h1 := rawC_len l0 l0
        omega
      have HLEN := am hlen
      clear hlen
      go_wp2_with (go_at_call 26; fail)
      refine (impl_Cell_26.own _ w.heap.size (fun _ => True) u5 _ HO.out (by have := HLEN.out; omega)).mono ?_
      rintro e w6 ⟨rfl, hR6, hG6⟩
      have n1_ := am (below_grownC HB.out hG6 (fun k hk => baseC HO.out hk))
      have n0_ := am hR6
      clear HO HB hR6 hG6
      have HO := n0_
      have HB := n1_
      clear n0_ n1_
      go_wp2_with (go_at_call 27; fail)
      refine (impl_Cell_27.own _ w.heap.size (fun _ => True) u5 _ HO.out (by have := HLEN.out; rw [sortC_len]; omega)).mono ?_
      rintro e w7 ⟨v7, rfl, hR7, hG7⟩
      have n1_ := am (below_grownC HB.out hG7 (fun k hk => baseC HO.out hk))
      have n0_ := am hR7
      clear HO HB hR7 hG7
      have HO := n0_
      have HB := n1_
      clear n0_ n1_
      go_wp2
      go_ret
      exact ⟨_, rfl, HO.out, HB.out⟩

end Go.Proofs.Ytlnhjaokcgcdpaa.Q

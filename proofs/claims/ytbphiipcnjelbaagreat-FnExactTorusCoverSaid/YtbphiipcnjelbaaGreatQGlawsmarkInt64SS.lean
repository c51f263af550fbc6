/- Written by a program of this session (wip/tools/pp.py) out of the translation, with the kit's printer. -/
import Derived.Test.YtbphiipcnjelbaaGreatQ0
import Derived.Test.YtbphiipcnjelbaaGreatQ17
namespace Go.Proofs.YtbphiipcnjelbaaGreat.Q
open Go.RowKit Go.Proofs.YtbphiipcnjelbaaGreatW.PrintWords Go.Proofs.YtbphiipcnjelbaaGreatW.PrintLast Go.Proofs.YtbphiipcnjelbaaGreatW.PrintMore
attribute [local go_sem] max2_int min2_int max_two min_two max_three min_three max_four min_four
set_option linter.unusedVariables false
set_option linter.unusedSimpArgs false
def laws_markInt64SS.f (k : Nat) : List (List Int) → Int → Option Int
 | [], a => some a
 | q :: r, a => (laws_markInt64S.f k q a).bind fun t => laws_markInt64SS.f k r t.1
theorem laws_markInt64SS.mono : ∀ l a k, LeO (laws_markInt64SS.f k l a) (laws_markInt64SS.f (k + 1) l a)
 | [], a, k => LeO.refl _
 | q :: r, a, k => LeO.bind (laws_markInt64S.mono _ _ _) (fun t => laws_markInt64SS.mono r t.1 k)
def Rws (w : World) (base : Nat) (okm : Nat → Nat → Prop) (g : Nat) (l : List (List Int)) (m : Nat) : Prop :=
 ∀ j, m ≤ j → j < l.length → ∃ v : Value, w.cell? ⟨g, j, none⟩ = some v ∧ Kd.R (Kd.int .i64) 2 w base (okm j) v (l.getD j [])
theorem rws_all {w : World} {base : Nat} {ok : Nat → Prop} {v : Value} {l : List (List Int)} (h : Kd.S (Kd.slice 2 (Kd.int .i64)) 38 w base ok v l) :
  ∃ (A : Option Addr) (c g : Nat) (okm : Nat → Nat → Prop), v = .slice A l.length c ∧ l.length ≤ 9223372036854775807 ∧ (0 < l.length → A = some ⟨g, 0, none⟩) ∧ Rws w base okm g l 0 ∧ (∀ i j k, okm i k → okm j k → i = j) ∧ (∀ j k, okm j k → k ≠ g) ∧ (∀ j k, okm j k → ok k) := by
 by_cases hp : 0 < l.length
 ·obtain ⟨g, c, e, _⟩ := Kd.S_form h hp
  subst e
  obtain ⟨f, h0, inner, ho, hr⟩ := h
  have hml : maxLen ≤ 9223372036854775807 := by decide
  have hc : l.length ≤ 9223372036854775807 := by
   have h2 := ho.2
   rw [List.length_zipIdx] at h2
   rcases h2 with ⟨_, h2⟩ | ⟨_, cap, _, _, _, _, h2, h3, _⟩ <;> omega
  refine ⟨_, c, g, fun j k => (ok k ∧ k ≠ g) ∧ f k = j, rfl, hc, fun _ => rfl, fun j _ hj => ?_, fun i j k h1 h2 => h1.2.symm.trans h2.2, fun j k h1 => h1.1.2, fun j k h1 => h1.1.1⟩
  have hz : l.zipIdx[j]? = some (l.getD j [], j) := Kd.zip_at (by rw [List.getD_eq_getElem?_getD, List.getElem?_eq_getElem hj]; rfl)
  obtain ⟨u, hu, hR⟩ : ∃ u, ((inner.drop (j * 1)).take 1 = [u]) ∧ Kd.R (Kd.int .i64) 2 w base (fun k => (ok k ∧ some k ≠ (Value.slice (some ⟨g, 0, none⟩) l.length c).ownBlock) ∧ f k = j) u (l.getD j []) := hr.2 j _ hz
  have hi : inner[j]? = some u := by
   have h1 : ((inner.drop (j * 1)).take 1)[0]? = some u := by rw [hu]; rfl
   rw [List.getElem?_take, if_pos (by omega), List.getElem?_drop] at h1
   simpa using h1
  refine ⟨u, ?_, Kd.R_mono hR (fun k hk => ⟨⟨hk.1.1, fun e => hk.1.2 (by rw [e]; simp [Value.ownBlock])⟩, hk.2⟩)⟩
  have := ho.cells (g := g) (by simp [Value.ownBlock]) j u hi
  rwa [add_plain] at this
 ·obtain ⟨A, c, e⟩ := Kd.S_slice h
  subst e
  exact ⟨A, c, 0, fun _ _ => False, rfl, by omega, fun h => absurd h hp, fun j _ hj => by omega, fun _ _ _ h => h.elim, fun _ _ h => h.elim, fun _ _ h => h.elim⟩
theorem Rws.step {w w1 : World} {base : Nat} {okm : Nat → Nat → Prop} {g : Nat} {l : List (List Int)} {m : Nat} (h : Rws w base okm g l m) (hd : ∀ i j k, okm i k → okm j k → i = j) (hg : ∀ j k, okm j k → k ≠ g) (hk : Kept w w1 (okm m)) : Rws w1 base okm g l (m + 1) := by
 intro j hj hl
 obtain ⟨v, hc, hR⟩ := h j (by omega) hl
 exact ⟨v, cell_kept hc hk (fun e => hg m g e rfl), Kd.R_step hR (fun k ho hlt => hk.2 k hlt (fun e => by have := hd m j k e ho; omega))⟩
theorem Rws.below {w w1 : World} {base : Nat} {okm : Nat → Nat → Prop} {g : Nat} {l : List (List Int)} {m : Nat} (h : Rws w base okm g l m) (hb : Below w.heap.size w w1) : Rws w1 base okm g l m := by
 intro j hj hl
 obtain ⟨v, hc, hR⟩ := h j hj hl
 exact ⟨v, pw_cell_below hb hc, Kd.R_below hR hb⟩
set_option maxRecDepth 100000 in
set_option maxHeartbeats 1000000 in
theorem laws_markInt64SS.calls (k : Nat) (P0 : Nat → Prop) (v : Value) (l : List (List Int)) (a r : Int) (w0 w : World) (hB : Below w0.heap.size w0 w) (ho : Kd.S (Kd.slice 2 (Kd.int .i64)) 38 w w0.heap.size P0 v l) (h : laws_markInt64SS.f k l a = some r) :
  Calls Tryz.prog 13 #[v, .int .i64 a] w fun e w' => e = .returned (.int .i64 r) ∧ Below w0.heap.size w0 w' ∧ Kept w w' P0 := by
 obtain ⟨A, c, g, okm, rfl, hc, hA, HW0, hd, hg, hP⟩ := rws_all ho
 clear ho
 have HD := Aside0.mk hd
 have HG := Aside0.mk hg
 have HP := Aside0.mk hP
 have HW := Aside0.mk HW0
 have HB0 := Aside0.mk hB
 have HF := Aside0.mk h
 clear HW0 hd hg hP hB h
 go_enter Tryz.func13, Tryz.ntmps13
 go_wp2
 go_loopw [1, 5] (fun x i wr => ∃ (kk : Nat) (y : Int), kk ≤ l.length ∧ x = .int .i64 y ∧ i = .int .i64 kk ∧ Aside0 (laws_markInt64SS.f k (l.drop kk) y = some r) ∧ Aside0 (Rws wr w0.heap.size okm g l kk) ∧ Aside0 (Below w0.heap.size w0 wr) ∧ Aside0 (Kept w wr P0)) (fun _ i _ => l.length - (intOf i).toNat)
 case atStart => exact ⟨0, a, Nat.zero_le _, rfl, rfl, ⟨by rw [List.drop_zero]; exact HF.out⟩, HW, HB0, ⟨Kept.refl _ _⟩⟩
 case round =>
  obtain ⟨kk, y, hk, rfl, rfl, HFy, HWy, HBy, HKy⟩ := hrel
  by_cases hlt : kk < l.length
  ·have hd : l.drop kk = l.getD kk [] :: l.drop (kk + 1) := by
    rw [List.drop_eq_getElem_cons hlt]
    simp [List.getD_eq_getElem?_getD, List.getElem?_eq_getElem hlt]
   have hF := HFy.out
   rw [hd, laws_markInt64SS.f] at hF
   obtain ⟨t, ht, hF⟩ := Option.bind_eq_some_iff.mp hF
   obtain ⟨v1, x0, hR1⟩ := HWy.out kk (Nat.le_refl _) hlt
   have HT := Aside0.mk ht
   have HR1 := Aside0.mk hR1
   have HF2 := Aside0.mk hF
   obtain rfl := hA (by omega)
   clear hd ht hR1 hF
   go_wp2_with (go_at_call 32; refine (laws_markInt64S.calls k (okm kk) v1 _ y t.1 t.2 w0 _ HBy.out HR1.out HT.out).mono ?_; rintro e w5 ⟨rfl, hr5, hb5, hk5⟩)
   go_roundw
   case rel => exact ⟨kk + 1, t.1, by omega, rfl, by go_num, HF2, ⟨HWy.out.step HD.out HG.out hk5⟩, ⟨hb5⟩, ⟨Kept.then_ HKy.out hk5 (fun q hq => .inl (HP.out kk q hq))⟩⟩
   case measure => simp [intOf]; omega
  ·obtain rfl : kk = l.length := by omega
   have hF := HFy.out
   rw [List.drop_length, laws_markInt64SS.f] at hF
   obtain rfl := Option.some.inj hF
   clear hF
   go_wp2
   go_ret
   exact ⟨rfl, HBy.out, HKy.out⟩
def markIS (k : Nat) : List (List Int) → Int → Option (Int × List (List Int))
 | [], a => some (a, [])
 | q :: r, a => (laws_markInt64S.f k q a).bind fun t => (markIS k r t.1).bind fun u => some (u.1, t.2 :: u.2)
theorem markIS.mono : ∀ l a k, LeO (markIS k l a) (markIS (k + 1) l a)
 | [], a, k => LeO.refl _
 | q :: r, a, k => LeO.bind (laws_markInt64S.mono _ _ _) (fun t => LeO.bind (markIS.mono r t.1 k) (fun _ => LeO.refl _))
theorem markIS_len (k : Nat) : ∀ l a r l', markIS k l a = some (r, l') → l'.length = l.length
 | [], a, r, l', h => by
  unfold markIS at h
  simp only [Option.some.injEq, Prod.mk.injEq] at h
  rw [← h.2]
 | q :: s, a, r, l', h => by
  rw [markIS] at h
  obtain ⟨t, _, h⟩ := Option.bind_eq_some_iff.mp h
  obtain ⟨u, hu, h⟩ := Option.bind_eq_some_iff.mp h
  simp only [Option.some.injEq, Prod.mk.injEq] at h
  rw [← h.2, List.length_cons, List.length_cons, markIS_len k s t.1 u.1 u.2 hu]
set_option maxRecDepth 100000 in
set_option maxHeartbeats 1000000 in
theorem markIS.calls (k : Nat) (P0 : Nat → Prop) (v : Value) (l : List (List Int)) (a r : Int) (l' : List (List Int)) (w0 w : World) (hB : Below w0.heap.size w0 w) (hS : Kd.S (Kd.slice 2 (Kd.int .i64)) 38 w w0.heap.size P0 v l) (h : markIS k l a = some (r, l')) :
  Calls Tryz.prog 13 #[v, .int .i64 a] w fun e w' => e = .returned (.int .i64 r) ∧ Kd.S (Kd.slice 2 (Kd.int .i64)) 38 w' w0.heap.size P0 v l' ∧ Below w0.heap.size w0 w' ∧ Kept w w' P0 := by
 by_cases hp : 0 < l.length
 case neg =>
  obtain rfl : l = [] := List.length_eq_zero_iff.mp (by omega)
  have HB0 := Aside0.mk hB
  have HS := Aside0.mk hS
  unfold markIS at h
  simp only [Option.some.injEq, Prod.mk.injEq] at h
  obtain ⟨rfl, rfl⟩ := h
  obtain ⟨A, c, e⟩ := Kd.S_slice hS
  subst e
  clear hB hS
  go_enter Tryz.func13, Tryz.ntmps13
  go_wp2
  go_loopw [1, 5] (fun x i wr => x = .int .i64 a ∧ i = .int .i64 0 ∧ wr = w) (fun _ _ _ => 0)
  case atStart => exact ⟨rfl, rfl, rfl⟩
  case round =>
   obtain ⟨rfl, rfl, rfl⟩ := hrel
   go_wp2
   go_ret
   exact ⟨rfl, HS.out, HB0.out, Kept.refl _ _⟩
 obtain ⟨g, c, e, _⟩ := Kd.S_form hS hp
 subst e
 obtain ⟨f, h0, inner, ho, hr⟩ := hS
 have hml : maxLen ≤ 9223372036854775807 := by decide
 have hc : l.length ≤ 9223372036854775807 := by
  have h2 := ho.2
  rw [List.length_zipIdx] at h2
  rcases h2 with ⟨_, h2⟩ | ⟨_, cap, _, _, _, _, h2, h3, _⟩ <;> omega
 have hl' := markIS_len k l a r l' h
 obtain ⟨okm, hokm⟩ : ∃ okm : Nat → Nat → Prop, okm = fun j k => (P0 k ∧ some k ≠ (Value.slice (some ⟨g, 0, none⟩) l.length c).ownBlock) ∧ f k = j := ⟨_, rfl⟩
 have hin : ∀ j, j < l.length → ∃ u, inner[j]? = some u ∧ w.cell? ⟨g, j, none⟩ = some u ∧ Kd.R (Kd.int .i64) 2 w w0.heap.size (okm j) u (l.getD j []) := by
  intro j hj
  have hz : l.zipIdx[j]? = some (l.getD j [], j) := Kd.zip_at (by rw [List.getD_eq_getElem?_getD, List.getElem?_eq_getElem hj]; rfl)
  obtain ⟨u, hu, hR⟩ : ∃ u, ((inner.drop (j * 1)).take 1 = [u]) ∧ Kd.R (Kd.int .i64) 2 w w0.heap.size (okm j) u (l.getD j []) := by rw [hokm]; exact hr.2 j _ hz
  have hi : inner[j]? = some u := by
   have h1 : ((inner.drop (j * 1)).take 1)[0]? = some u := by rw [hu]; rfl
   rw [List.getElem?_take, if_pos (by omega), List.getElem?_drop] at h1
   simpa using h1
  have hcell := ho.cells (g := g) (by simp [Value.ownBlock]) j u hi
  rw [add_plain] at hcell
  exact ⟨u, hi, hcell, hR⟩
 have hg : ∀ j k, okm j k → k ≠ g := fun j k hk e => by rw [hokm] at hk; exact hk.1.2 (by rw [e]; simp [Value.ownBlock])
 have hd : ∀ i j k, okm i k → okm j k → i = j := fun i j k h1 h2 => by rw [hokm] at h1 h2; exact h1.2.symm.trans h2.2
 have hP : ∀ j k, okm j k → P0 k := fun j k hk => by rw [hokm] at hk; exact hk.1.1
 have hlt : g < w.heap.size := by
  obtain ⟨u, _, hcell, _⟩ := hin 0 hp
  exact World.block_lt_of_cell? w _ hcell
 have HS := Aside0.mk (fun (W : World) (hW : W.heap[g]? = w.heap[g]?) (hRW : ∀ j, j < l.length → ∀ u, inner[j]? = some u → Kd.R (Kd.int .i64) 2 W w0.heap.size (okm j) u (l'.getD j [])) => (show Kd.S (Kd.slice 2 (Kd.int .i64)) 38 W w0.heap.size P0 (.slice (some ⟨g, 0, none⟩) l.length c) l' from by
  refine ⟨f, h0, inner, ?_, ?_⟩
  ·have h2 := ho
   rw [List.length_zipIdx] at h2 ⊢
   rw [hl']
   obtain ⟨q1, q2⟩ := h2
   refine ⟨q1, ?_⟩
   rcases q2 with q2 | ⟨g', cap, cur, e1, e2, e3, e4⟩
   ·exact .inl q2
   ·have : g' = g := by cases e1; rfl
    subst this
    exact .inr ⟨g', cap, cur, e1, e2, hW.trans e3, e4⟩
  ·refine ⟨by rw [List.length_zipIdx, hl', ← List.length_zipIdx (l := l)]; exact hr.1, fun j p hj => ?_⟩
   have hjl : j < l.length := by
    have := List.getElem?_eq_some_iff.1 hj
    obtain ⟨h1, _⟩ := this
    rw [List.length_zipIdx, hl'] at h1
    exact h1
   have hp2 : p = (l'.getD j [], j) := by
    have hz : l'.zipIdx[j]? = some (l'.getD j [], j) := Kd.zip_at (by rw [List.getD_eq_getElem?_getD, List.getElem?_eq_getElem (by omega)]; rfl)
    rw [hz] at hj
    exact (Option.some.inj hj).symm
   subst hp2
   obtain ⟨u, hi, _, _⟩ := hin j hjl
   have hR := hRW j hjl u hi
   rw [hokm] at hR
   refine ⟨u, ?_, hR⟩
   have hlt2 := (List.getElem?_eq_some_iff.1 hi).1
   show List.take 1 (List.drop (j * 1) inner) = [u]
   rw [Nat.mul_one, List.drop_eq_getElem_cons hlt2]
   simp [(List.getElem?_eq_some_iff.1 hi).2]))
 have HIN := Aside0.mk hin
 have HG := Aside0.mk hg
 have HD := Aside0.mk hd
 have HP := Aside0.mk hP
 have HB0 := Aside0.mk hB
 have HF := Aside0.mk h
 clear hin hg hd hP hB h ho hr h0 hokm
 have hcut : ∀ (kk : Nat) (y : Int), kk < l.length → markIS k (l.drop kk) y = some (r, l'.drop kk) → ∃ t, laws_markInt64S.f k (l.getD kk []) y = some t ∧ t.2 = l'.getD kk [] ∧ markIS k (l.drop (kk + 1)) t.1 = some (r, l'.drop (kk + 1)) := by
  intro kk y hk hm
  have hd1 : l.drop kk = l.getD kk [] :: l.drop (kk + 1) := by
   rw [List.drop_eq_getElem_cons hk]
   simp [List.getD_eq_getElem?_getD, List.getElem?_eq_getElem hk]
  have hd2 : l'.drop kk = l'.getD kk [] :: l'.drop (kk + 1) := by
   rw [List.drop_eq_getElem_cons (by omega)]
   simp [List.getD_eq_getElem?_getD, List.getElem?_eq_getElem (show kk < l'.length by omega)]
  rw [hd1, hd2, markIS] at hm
  obtain ⟨t, ht, hm⟩ := Option.bind_eq_some_iff.mp hm
  obtain ⟨u, hu, hm⟩ := Option.bind_eq_some_iff.mp hm
  simp only [Option.some.injEq, Prod.mk.injEq, List.cons.injEq] at hm
  obtain ⟨e1, e2, e3⟩ := hm
  exact ⟨t, ht, e2, by rw [hu, ← e1, ← e3]⟩
 go_enter Tryz.func13, Tryz.ntmps13
 go_wp2
 go_loopw [1, 5] (fun x i wr => ∃ (kk : Nat) (y : Int), kk ≤ l.length ∧ x = .int .i64 y ∧ i = .int .i64 kk ∧ Aside0 (markIS k (l.drop kk) y = some (r, l'.drop kk)) ∧ Aside0 (wr.heap[g]? = w.heap[g]?) ∧ Aside0 (∀ j, j < l.length → ∀ u, inner[j]? = some u → Kd.R (Kd.int .i64) 2 wr w0.heap.size (okm j) u (if j < kk then l'.getD j [] else l.getD j [])) ∧ Aside0 (Below w0.heap.size w0 wr) ∧ Aside0 (Kept w wr P0)) (fun _ i _ => l.length - (intOf i).toNat)
 case atStart => exact ⟨0, a, Nat.zero_le _, rfl, rfl, ⟨by rw [List.drop_zero, List.drop_zero]; exact HF.out⟩, ⟨rfl⟩, ⟨fun j hj u hu => by
  obtain ⟨u', h1, _, h3⟩ := HIN.out j hj
  rw [if_neg (by omega)]
  have e : u' = u := Option.some.inj (h1.symm.trans hu)
  rw [← e]
  exact h3⟩, HB0, ⟨Kept.refl _ _⟩⟩
 case round =>
  obtain ⟨kk, y, hk, rfl, rfl, HFy, HGy, HRy, HBy, HKy⟩ := hrel
  by_cases hlk : kk < l.length
  ·obtain ⟨t, ht, ht2, hF2⟩ := hcut kk y hlk HFy.out
   obtain ⟨u, hui, hcell, _⟩ := HIN.out kk hlk
   have x0 : wr.cell? ⟨g, kk, none⟩ = some u := by
    simp only [World.cell?] at hcell ⊢
    rw [HGy.out]
    exact hcell
   have hR1 := HRy.out kk hlk u hui
   rw [if_neg (by omega)] at hR1
   have HT := Aside0.mk ht
   have HT2 := Aside0.mk ht2
   have HR1 := Aside0.mk hR1
   have HF2 := Aside0.mk hF2
   have HUI := Aside0.mk hui
   clear ht ht2 hR1 hF2 hcell hui
   go_wp2_with (go_at_call 32; refine (laws_markInt64S.calls k (okm kk) u _ y t.1 t.2 w0 _ HBy.out HR1.out HT.out).mono ?_; rintro e w5 ⟨rfl, hr5, hb5, hk5⟩)
   go_roundw
   case rel => exact ⟨kk + 1, t.1, by omega, rfl, by go_num, HF2, ⟨(hk5.2 g (by have := HKy.out.1; omega) (fun e => HG.out kk g e rfl)).trans HGy.out⟩, ⟨fun j hj u' hu' => by
    by_cases hjk : j = kk
    ·subst hjk
     have e : u' = u := Option.some.inj (hu'.symm.trans HUI.out)
     subst e
     rw [if_pos (by omega), ← HT2.out]
     exact Kd.R_reok rfl hr5 (fun q hq => HR1.out.1 q hq)
    ·have hR := HRy.out j hj u' hu'
     have e : (if j < kk + 1 then l'.getD j [] else l.getD j []) = (if j < kk then l'.getD j [] else l.getD j []) := by
      by_cases h1 : j < kk
      ·rw [if_pos h1, if_pos (by omega)]
      ·rw [if_neg h1, if_neg (by omega)]
     rw [e]
     exact Kd.R_step hR (fun q ho hlt => hk5.2 q hlt (fun e => hjk (HD.out j kk q ho e)))⟩, ⟨hb5⟩, ⟨Kept.then_ HKy.out hk5 (fun q hq => .inl (HP.out kk q hq))⟩⟩
   case measure => simp [intOf]; omega
  ·obtain rfl : kk = l.length := by omega
   have hF := HFy.out
   rw [List.drop_length, show l'.drop l.length = [] by rw [← hl']; exact List.drop_length, markIS] at hF
   simp only [Option.some.injEq, Prod.mk.injEq] at hF
   obtain ⟨rfl, _⟩ := hF
   have hS := HS.out wr HGy.out (fun j hj u hu => by
    have := HRy.out j hj u hu
    rw [if_pos hj] at this
    exact this)
   have HS2 := Aside0.mk hS
   clear hS
   go_wp2
   go_ret
   exact ⟨rfl, HS2.out, HBy.out, HKy.out⟩
end Go.Proofs.YtbphiipcnjelbaaGreat.Q

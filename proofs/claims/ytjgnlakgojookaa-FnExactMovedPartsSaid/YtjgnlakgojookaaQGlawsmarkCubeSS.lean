/- Written by a program of this session (wip/tools/pp.py) out of the translation, with the kit's printer. -/
import Derived.Test.YtjgnlakgojookaaQ0
import Derived.Test.YtjgnlakgojookaaQ32
namespace Go.Proofs.Ytjgnlakgojookaa.Q
open Go.RowKit Go.Proofs.YtjgnlakgojookaaW.PrintWords Go.Proofs.YtjgnlakgojookaaW.PrintLast Go.Proofs.YtjgnlakgojookaaW.PrintMore
attribute [local go_sem] max2_int min2_int max_two min_two max_three min_three max_four min_four
set_option linter.unusedVariables false
set_option linter.unusedSimpArgs false

/-! ### laws_markCubeSS: walked by hand -/
def laws_markCubeSS.f (k : Nat) : List (List S71) → Int → Option Int
  | [], a => some a
  | q :: r, a => (laws_markCubeS.f k q a).bind fun t => laws_markCubeSS.f k r t.1
theorem laws_markCubeSS.mono : ∀ l a k, LeO (laws_markCubeSS.f k l a) (laws_markCubeSS.f (k + 1) l a)
  | [], a, k => LeO.refl _
  | q :: r, a, k => LeO.bind (laws_markCubeS.mono _ _ _) (fun t => laws_markCubeSS.mono r t.1 k)
/-- The rows from m on, each with blocks of its own. -/
def Rws (w : World) (base : Nat) (okm : Nat → Nat → Prop) (g : Nat) (l : List (List S71)) (m : Nat) : Prop :=
  ∀ j, m ≤ j → j < l.length → ∃ v : Value, w.cell? ⟨g, j, none⟩ = some v ∧ Kd.R k71 71 w base (okm j) v (l.getD j [])
theorem rws_all {w : World} {base : Nat} {ok : Nat → Prop} {v : Value} {l : List (List S71)} (h : Kd.S (Kd.slice 71 k71) 36 w base ok v l) :
    ∃ (A : Option Addr) (c g : Nat) (okm : Nat → Nat → Prop), v = .slice A l.length c ∧ l.length ≤ 9223372036854775807 ∧ (0 < l.length → A = some ⟨g, 0, none⟩) ∧ Rws w base okm g l 0 ∧ (∀ i j k, okm i k → okm j k → i = j) ∧ (∀ j k, okm j k → k ≠ g) ∧ (∀ j k, okm j k → ok k) := by
  by_cases hp : 0 < l.length
  · obtain ⟨g, c, e, _⟩ := Kd.S_form h hp
    subst e
    obtain ⟨f, h0, inner, ho, hr⟩ := h
    have hml : maxLen ≤ 9223372036854775807 := by decide
    have hc : l.length ≤ 9223372036854775807 := by
      have h2 := ho.2
      rw [List.length_zipIdx] at h2
      rcases h2 with ⟨_, h2⟩ | ⟨_, cap, _, _, _, _, h2, h3, _⟩ <;> omega
    refine ⟨_, c, g, fun j k => (ok k ∧ k ≠ g) ∧ f k = j, rfl, hc, fun _ => rfl, fun j _ hj => ?_, fun i j k h1 h2 => h1.2.symm.trans h2.2, fun j k h1 => h1.1.2, fun j k h1 => h1.1.1⟩
    have hz : l.zipIdx[j]? = some (l.getD j [], j) := Kd.zip_at (by rw [List.getD_eq_getElem?_getD, List.getElem?_eq_getElem hj]; rfl)
    obtain ⟨u, hu, hR⟩ : ∃ u, ((inner.drop (j * 1)).take 1 = [u]) ∧ Kd.R k71 71 w base (fun k => (ok k ∧ some k ≠ (Value.slice (some ⟨g, 0, none⟩) l.length c).ownBlock) ∧ f k = j) u (l.getD j []) := hr.2 j _ hz
    have hi : inner[j]? = some u := by
      have h1 : ((inner.drop (j * 1)).take 1)[0]? = some u := by rw [hu]; rfl
      rw [List.getElem?_take, if_pos (by omega), List.getElem?_drop] at h1
      simpa using h1
    refine ⟨u, ?_, Kd.R_mono hR (fun k hk => ⟨⟨hk.1.1, fun e => hk.1.2 (by rw [e]; simp [Value.ownBlock])⟩, hk.2⟩)⟩
    have := ho.cells (g := g) (by simp [Value.ownBlock]) j u hi
    rwa [add_plain] at this
  · obtain ⟨A, c, e⟩ := Kd.S_slice h
    subst e
    exact ⟨A, c, 0, fun _ _ => False, rfl, by omega, fun h => absurd h hp, fun j _ hj => by omega, fun _ _ _ h => h.elim, fun _ _ h => h.elim, fun _ _ h => h.elim⟩
theorem Rws.step {w w1 : World} {base : Nat} {okm : Nat → Nat → Prop} {g : Nat} {l : List (List S71)} {m : Nat} (h : Rws w base okm g l m) (hd : ∀ i j k, okm i k → okm j k → i = j) (hg : ∀ j k, okm j k → k ≠ g) (hk : Kept w w1 (okm m)) : Rws w1 base okm g l (m + 1) := by
  intro j hj hl
  obtain ⟨v, hc, hR⟩ := h j (by omega) hl
  exact ⟨v, cell_kept hc hk (fun e => hg m g e rfl), Kd.R_step hR (fun k ho hlt => hk.2 k hlt (fun e => by have := hd m j k e ho; omega))⟩
theorem Rws.below {w w1 : World} {base : Nat} {okm : Nat → Nat → Prop} {g : Nat} {l : List (List S71)} {m : Nat} (h : Rws w base okm g l m) (hb : Below w.heap.size w w1) : Rws w1 base okm g l m := by
  intro j hj hl
  obtain ⟨v, hc, hR⟩ := h j hj hl
  exact ⟨v, pw_cell_below hb hc, Kd.R_below hR hb⟩
set_option maxRecDepth 100000 in
set_option maxHeartbeats 1000000 in
theorem laws_markCubeSS.calls (k : Nat) (P0 : Nat → Prop) (v : Value) (l : List (List S71)) (a r : Int) (w0 w : World) (hB : Below w0.heap.size w0 w) (ho : Kd.S (Kd.slice 71 k71) 36 w w0.heap.size P0 v l) (h : laws_markCubeSS.f k l a = some r) :
    Calls Try.prog 32 #[v, .int .i64 a] w fun e w' => e = .returned (.int .i64 r) ∧ Below w0.heap.size w0 w' ∧ Kept w w' P0 := by
  obtain ⟨A, c, g, okm, rfl, hc, hA, HW0, hd, hg, hP⟩ := rws_all ho
  clear ho
  have HD := Aside0.mk hd
  have HG := Aside0.mk hg
  have HP := Aside0.mk hP
  have HW := Aside0.mk HW0
  have HB0 := Aside0.mk hB
  have HF := Aside0.mk h
  clear HW0 hd hg hP hB h
  go_enter Try.func32, Try.ntmps32
  go_wp2
  go_loopw [1, 5] (fun x i wr => ∃ (kk : Nat) (y : Int), kk ≤ l.length ∧ x = .int .i64 y ∧ i = .int .i64 kk ∧ Aside0 (laws_markCubeSS.f k (l.drop kk) y = some r) ∧ Aside0 (Rws wr w0.heap.size okm g l kk) ∧ Aside0 (Below w0.heap.size w0 wr) ∧ Aside0 (Kept w wr P0)) (fun _ i _ => l.length - (intOf i).toNat)
  case atStart => exact ⟨0, a, Nat.zero_le _, rfl, rfl, ⟨by rw [List.drop_zero]; exact HF.out⟩, HW, HB0, ⟨Kept.refl _ _⟩⟩
  case round =>
    obtain ⟨kk, y, hk, rfl, rfl, HFy, HWy, HBy, HKy⟩ := hrel
    by_cases hlt : kk < l.length
    · have hd : l.drop kk = l.getD kk [] :: l.drop (kk + 1) := by
        rw [List.drop_eq_getElem_cons hlt]
        simp [List.getD_eq_getElem?_getD, List.getElem?_eq_getElem hlt]
      have hF := HFy.out
      rw [hd, laws_markCubeSS.f] at hF
      obtain ⟨t, ht, hF⟩ := Option.bind_eq_some_iff.mp hF
      obtain ⟨v1, x0, hR1⟩ := HWy.out kk (Nat.le_refl _) hlt
      have HT := Aside0.mk ht
      have HR1 := Aside0.mk hR1
      have HF2 := Aside0.mk hF
      obtain rfl := hA (by omega)
      clear hd ht hR1 hF
      go_wp2_with (go_at_call 31; refine (laws_markCubeS.calls k (okm kk) v1 _ y t.1 t.2 w0 _ HBy.out HR1.out HT.out).mono ?_; rintro e w5 ⟨rfl, hr5, hb5, hk5⟩)
      go_roundw
      case rel => exact ⟨kk + 1, t.1, by omega, rfl, by go_num, HF2, ⟨HWy.out.step HD.out HG.out hk5⟩, ⟨hb5⟩, ⟨Kept.then_ HKy.out hk5 (fun q hq => .inl (HP.out kk q hq))⟩⟩
      case measure => simp [intOf]; omega
    · obtain rfl : kk = l.length := by omega
      have hF := HFy.out
      rw [List.drop_length, laws_markCubeSS.f] at hF
      obtain rfl := Option.some.inj hF
      clear hF
      go_wp2
      go_ret
      exact ⟨rfl, HBy.out, HKy.out⟩

end Go.Proofs.Ytjgnlakgojookaa.Q

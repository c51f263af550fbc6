/- Written by a program of this session (wip/tools/pp.py) out of the translation, with the kit's printer. -/
import Derived.Test.YtbphiipcnjelbaaGreatQ0
import Derived.Test.YtbphiipcnjelbaaGreatQ7
import Derived.Test.YtbphiipcnjelbaaGreatQGspecl12Sorted
import Derived.LoopTactic
import Derived.Deep.RegionLaw
namespace Go.Proofs.YtbphiipcnjelbaaGreat.Q
open Go.RowKit Go.Proofs.YtbphiipcnjelbaaGreatW.PrintWords Go.Proofs.YtbphiipcnjelbaaGreatW.PrintLast Go.Proofs.YtbphiipcnjelbaaGreatW.PrintMore
attribute [local go_sem] max2_int min2_int max_two min_two max_three min_three max_four min_four
set_option linter.unusedVariables false
set_option linter.unusedSimpArgs false
def cmpL : List Int → List Int → Int
 | [], [] => 0
 | [], _ :: _ => -1
 | _ :: _, [] => 1
 | a :: r, b :: s => if a < b then -1 else if b < a then 1 else cmpL r s
theorem cmpL_run (a b : List Int) (ha : a.length ≤ 1000000) : ∀ (d i : Nat), i + d = a.length → i ≤ b.length → spec_l12Lists.l0 (2 * d + 2) a b (i : Int) = some (cmpL (a.drop i) (b.drop i))
 | 0, i, h, hb => by
  show spec_l12Lists.l0 (1 + 1) a b (i : Int) = _
  unfold spec_l12Lists.l0
  rw [if_neg (by omega)]
  unfold spec_l12Lists.j1
  rw [if_neg (by simp), List.drop_of_length_le (by omega)]
  by_cases hl : a.length < b.length
  ·rw [if_pos (by omega)]
   rw [List.drop_eq_getElem_cons (show i < b.length by omega)]
   rfl
  ·rw [if_neg (by omega), if_neg (by omega), List.drop_of_length_le (by omega)]
   rfl
 | d + 1, i, h, hb => by
  have hi : i < a.length := by omega
  show spec_l12Lists.l0 (2 * d + 2 + 1 + 1) a b (i : Int) = _
  unfold spec_l12Lists.l0
  rw [if_pos (by omega), List.drop_eq_getElem_cons hi]
  unfold spec_l12Lists.j1
  by_cases hl : i < b.length
  ·have ea : rd a (i : Int) = a[i] := by simp [rd, List.getD_eq_getElem?_getD, List.getElem?_eq_getElem hi]
   have eb : rd b (i : Int) = b[i] := by simp [rd, List.getD_eq_getElem?_getD, List.getElem?_eq_getElem hl]
   have hw : wrap64 ((i : Int) + 1) = ((i + 1 : Nat) : Int) := by unfold wrap64; omega
   rw [if_pos (decide_eq_true (by omega)), if_pos (by omega), if_pos (by omega), if_pos (by omega), ea, eb, List.drop_eq_getElem_cons hl, cmpL, hw, cmpL_run a b ha d (i + 1) (by omega) (by omega)]
   split
   ·rfl
   ·split <;> rfl
  ·rw [if_neg (by simp; omega), if_neg (by omega), if_pos (by omega), List.drop_of_length_le (show b.length ≤ i by omega)]
   rfl
theorem cmpL_f (a b : List Int) (ha : a.length ≤ 1000000) : spec_l12Lists.f (2 * a.length + 2) a b = some (cmpL a b) := by
 unfold spec_l12Lists.f
 have h := cmpL_run a b ha a.length 0 (by omega) (by omega)
 rw [List.drop_zero, List.drop_zero] at h
 exact h
def addL (x : List Int) : List (List Int) → List (List Int)
 | [] => [x]
 | y :: r => if cmpL y x < 0 then y :: addL x r else if cmpL y x = 0 then y :: r else x :: y :: r
theorem addL_split (x : List Int) : ∀ (l : List (List Int)) (j : Nat), j ≤ l.length → (∀ i, i < j → cmpL (l.getD i []) x < 0) → (j = l.length ∨ ¬ cmpL (l.getD j []) x < 0) → addL x l = if j < l.length ∧ cmpL (l.getD j []) x = 0 then l else l.take j ++ [x] ++ l.drop j
 | [], j, hj, _, _ => by
  have : j = 0 := by simpa using hj
  subst this
  rfl
 | y :: r, 0, _, _, h2 => by
  have h : ¬ cmpL y x < 0 := by
   rcases h2 with h2 | h2
   ·simp at h2
   ·simpa using h2
  unfold addL
  rw [if_neg h]
  by_cases h0 : cmpL y x = 0
  ·rw [if_pos h0, if_pos ⟨by simp, by simpa using h0⟩]
  ·rw [if_neg h0, if_neg (fun h => h0 (by simpa using h.2))]
   rfl
 | y :: r, j + 1, hj, h1, h2 => by
  have hy : cmpL y x < 0 := by simpa using h1 0 (by omega)
  unfold addL
  rw [if_pos hy, addL_split x r j (by simpa using hj) (fun i hi => by simpa using h1 (i + 1) (by omega)) (by
   rcases h2 with h2 | h2
   ·exact Or.inl (by simpa using h2)
   ·exact Or.inr (by simpa using h2))]
  by_cases hc : j < r.length ∧ cmpL (r.getD j []) x = 0
  ·rw [if_pos hc, if_pos ⟨by simpa using hc.1, by simpa using hc.2⟩]
  ·rw [if_neg hc, if_neg (fun h => hc ⟨by simpa using h.1, by simpa using h.2⟩)]
   rfl
theorem addL_len (x : List Int) : ∀ l : List (List Int), (addL x l).length ≤ l.length + 1
 | [] => Nat.le_refl _
 | y :: r => by
  unfold addL
  split
  ·rw [List.length_cons, List.length_cons]
   have := addL_len x r
   omega
  ·split <;> simp
abbrev kI : Kd Int := Kd.int .i64
theorem R_downI {w : World} {base : Nat} {v : Value} {ok : Nat → Prop} {xs : List (List Int)} (d0 : Value) (hd0 : ∃ A m c, d0 = .slice A m c) (h : Kd.R (Kd.slice 2 kI) 38 w base ok v xs) :
  ∃ (enc : Nat → Value) (h1 : ∀ x, (enc x).oneCell' = true), (∀ x, ∃ A m c, enc x = .slice A m c) ∧ enc xs.length = d0 ∧ Kd.R (Kd.scalar enc h1) 38 w base ok v (List.range xs.length) ∧ ∀ i, i < xs.length → Kd.R kI 2 w base (fun k => ok k ∧ some k ≠ v.ownBlock) (enc i) (xs.getD i []) := by
 obtain ⟨hok, inner, ho, hl, hr⟩ := h
 have hs : (Kd.slice 2 kI).sz = 1 := rfl
 rw [hs, Nat.mul_one] at hl
 have key : ∀ i, i < xs.length → ∃ u, inner[i]? = some u ∧ Kd.R kI 2 w base (fun k => ok k ∧ some k ≠ v.ownBlock) u (xs.getD i []) := by
  intro i hi
  obtain ⟨u, e, hv⟩ := hr i _ (List.getElem?_eq_getElem hi)
  refine ⟨u, ?_, ?_⟩
  ·rw [hs, Nat.mul_one] at e
   rw [List.getElem?_eq_getElem (by omega)]
   rw [List.drop_eq_getElem_cons (show i < inner.length by omega), List.take_succ_cons] at e
   injection e with e _
   rw [e]
  ·have : xs.getD i [] = xs[i] := by simp [List.getD_eq_getElem?_getD, List.getElem?_eq_getElem hi]
   rw [this]
   exact hv
 have hsl : ∀ x, ∃ A m c, inner.getD x d0 = .slice A m c := by
  intro x
  by_cases hx : x < xs.length
  ·obtain ⟨u, e, hv⟩ := key x hx
   obtain ⟨A, c, eu⟩ := Kd.R_slice hv
   exact ⟨A, _, c, by rw [List.getD_eq_getElem?_getD, e]; exact eu⟩
  ·rw [List.getD_eq_getElem?_getD, List.getElem?_eq_none (by omega)]
   exact hd0
 refine ⟨fun i => inner.getD i d0, fun x => ?_, hsl, ?_, ⟨hok, inner, ?_, ?_, ?_⟩, fun i hi => ?_⟩
 ·obtain ⟨A, m, c, e⟩ := hsl x
  show (inner.getD x d0).oneCell' = true
  rw [e]
  rfl
 ·show inner.getD xs.length d0 = _
  rw [List.getD_eq_getElem?_getD, List.getElem?_eq_none (by omega)]
  rfl
 ·rw [List.length_range]
  exact ho
 ·rw [List.length_range, hl]
  exact (Nat.mul_one _).symm
 ·intro j p hp
  obtain ⟨hj, e⟩ := List.getElem?_eq_some_iff.mp hp
  rw [List.getElem_range] at e
  subst e
  rw [List.length_range] at hj
  show (inner.drop (j * 1)).take 1 = [inner.getD j d0]
  rw [Nat.mul_one, List.drop_eq_getElem_cons (show j < inner.length by omega), List.take_succ_cons, List.take_zero, List.getD_eq_getElem?_getD, List.getElem?_eq_getElem (show j < inner.length by omega)]
  rfl
 ·obtain ⟨u, e, hv⟩ := key i hi
  show Kd.R kI 2 w base _ (inner.getD i d0) _
  rw [List.getD_eq_getElem?_getD, e]
  exact hv
theorem R_upI {W : World} {base : Nat} {v : Value} {ok : Nat → Prop} {enc : Nat → Value} {h1 : ∀ x, (enc x).oneCell' = true} {is : List Nat} {rows : Nat → List Int} (h : Kd.R (Kd.scalar enc h1) 38 W base ok v is) (hrow : ∀ i, i ∈ is → Kd.R kI 2 W base (fun k => ok k ∧ some k ≠ v.ownBlock) (enc i) (rows i)) :
  Kd.R (Kd.slice 2 kI) 38 W base ok v (is.map rows) := by
 obtain ⟨hok, inner, ho, hl, hr⟩ := h
 refine ⟨hok, inner, ?_, ?_, ?_⟩
 ·rw [List.length_map]
  exact ho
 ·rw [List.length_map]
  exact hl
 ·intro j p hp
  rw [List.getElem?_map] at hp
  obtain ⟨i, hi, rfl⟩ := Option.map_eq_some_iff.mp hp
  have e : (inner.drop (j * 1)).take 1 = [enc i] := hr j i hi
  exact ⟨enc i, e, hrow i (List.mem_of_getElem? hi)⟩
section
variable {enc : Nat → Value} {h1 : ∀ x, (enc x).oneCell' = true}
theorem litS (W : World) (base : Nat) {g : Nat} (hg : g = W.heap.size) (hb : base ≤ W.heap.size) : Kd.R (Kd.scalar enc h1) 38 (W.alloc (.cells #[] 38)) base (fun _ => True) (.slice (some ⟨g, 0, none⟩) 0 0) [] := by
 subst hg
 exact Kd.R_of_own (xs := []) (World.ownsRow_lit (base := base) (e := 38) (size := 1) W #[] 0 hb (by simp [maxLen]) (by simp)) (fun _ _ => trivial)
theorem litCS {W : World} {c i : Nat} (h : W.heap[c]? = some (.cells #[enc i] 38 (0, 0))) : Kd.C (Kd.scalar enc h1) W (some ⟨c, 0, none⟩) [i].length [i] := by
 refine ⟨rfl, by simp, fun _ => ⟨_, rfl, fun j p hj => ?_⟩⟩
 have h0 : j = 0 := by
  have := (List.getElem?_eq_some_iff.1 hj).1
  simpa using this
 subst h0
 have hp : i = p := by simpa using hj
 subst hp
 refine ⟨[enc i], rfl, rfl, fun q u hu => ?_⟩
 have hi : q = 0 := by
  have := (List.getElem?_eq_some_iff.1 hu).1
  simpa using this
 subst hi
 have hu2 : enc i = u := by simpa using hu
 subst hu2
 have := (blk_cell h 0).trans rfl
 simpa [Addr.add] using this
theorem kmS {w : World} {base : Nat} : ∀ (x : Nat) (cs : List Value), (Kd.scalar enc h1).K w x cs → (Kd.scalar enc h1).M w base (fun _ => False) x cs := fun _ _ h => h
end
theorem range_mapI (xs : List (List Int)) : (List.range xs.length).map (fun i => xs.getD i []) = xs := by
 refine List.ext_getElem (by simp) fun i h1 h2 => ?_
 simp [List.getD_eq_getElem?_getD, List.getElem?_eq_getElem h2]
set_option maxRecDepth 100000 in
set_option maxHeartbeats 4000000 in
theorem spec_l18Add.own (B : Nat) (v u : Value) (l : List (List Int)) (x : List Int) (w : World) (hB : B ≤ w.heap.size) (hv : Kd.R (Kd.slice 2 kI) 38 w B (fun _ => True) v l) (hu : Kd.R kI 2 w B (fun k => True ∧ some k ≠ v.ownBlock) u x) (hn : l.length ≤ 1000000) (hs : ∀ a ∈ l, a.length ≤ 1000000) :
  Calls Tryz.prog 43 #[v, u] w fun e w' => ∃ v', e = .returned v' ∧ Kd.R (Kd.slice 2 kI) 38 w' B (fun _ => True) v' (addL x l) ∧ Below w.heap.size w w' := by
 obtain ⟨A0, c0, e⟩ := Kd.R_slice hv
 subst e
 obtain ⟨A1, c1, e⟩ := Kd.R_slice hu
 subst e
 have HV := Aside0.mk hv
 have HU := Aside0.mk hu
 have HS := Aside0.mk hs
 have HBB := Aside0.mk hB
 clear hv hu hs hB
 obtain ⟨n, hnl⟩ : ∃ n, n = l.length := ⟨_, rfl⟩
 rw [← hnl] at HV HU hn ⊢
 have HNL := Aside0.mk hnl
 clear hnl
 go_enter Tryz.func43, Tryz.ntmps43
 go_wp2
 go_loopw [5] (fun j wr => ∃ jj : Nat, jj ≤ n ∧ j = .int .i64 (jj : Int) ∧ Aside0 (∀ i, i < jj → cmpL (l.getD i []) x < 0) ∧ Aside0 (Below w.heap.size w wr)) (fun j _ => n - (intOf j).toNat)
 case atStart => exact ⟨0, Nat.zero_le _, rfl, ⟨fun i hi => by omega⟩, ⟨Below.refl _ _⟩⟩
 case round =>
  obtain ⟨jj, hj, rfl, HLS, HB⟩ := hrel
  have hget : jj < n → ∃ (ad : Addr) (Ai : Option Addr) (ci : Nat), A0 = some ad ∧ (l.getD jj []).length ≤ 1000000 ∧ (l.getD jj []).length ≤ ci ∧ Kd.C kI w Ai (l.getD jj []).length (l.getD jj []) ∧ w.cell? (ad.add jj) = some (.slice Ai (l.getD jj []).length ci) := by
   intro hjn
   obtain ⟨ad, cs, e, hsz, ⟨Ai, ci, rfl, hci, hCi⟩, hcell⟩ := ReadsRow.get_ (Kd.R_reads' HV.out).2.2 ([] : List Int) (jj : Int) (by omega) (by have := HNL.out; omega)
   rw [Int.toNat_natCast] at hcell hci hCi
   have h0 := hcell 0 _ rfl
   rw [show jj * (Kd.slice 2 kI).sz + 0 = jj by show jj * 1 + 0 = jj; omega] at h0
   refine ⟨ad, Ai, ci, e, HS.out _ ?_, hci, hCi, h0⟩
   have hjl : jj < l.length := by have := HNL.out; omega
   have e : l.getD jj [] = l[jj] := by simp [List.getD_eq_getElem?_getD, List.getElem?_eq_getElem hjl]
   rw [e]
   exact List.getElem_mem hjl
  have HGET := Aside0.mk hget
  clear hget
  have HXC := Aside0.mk (Kd.R_reads' HU.out).2
  have hst : IntKind.i64.wrap ((jj : Int) + 1) = ((jj + 1 : Nat) : Int) := (i64_w _).trans (by unfold wrap64; omega)
  obtain ⟨bb, hbb⟩ : ∃ bb, bb = decide (jj < n ∧ cmpL (l.getD jj []) x < 0) := ⟨_, rfl⟩
  have HBB2 := Aside0.mk hbb
  clear hbb
  go_upto_region 2 with (fail)
  go_cut [18] (fun v wc => v = .bool bb ∧ Aside0 (Below w.heap.size w wc))
  case first =>
   by_cases hjn : jj < n
   ·obtain ⟨ad, Ai, ci, e, hal, hci, hCi, h0⟩ := HGET.out hjn
    subst e
    have hc : bb = decide (cmpL (l.getD jj []) x < 0) := by rw [HBB2.out]; simp [hjn]
    have HF := Aside0.mk (cmpL_f (l.getD jj []) x hal)
    have HCI := Aside0.mk hCi
    have HCC := Aside0.mk hci
    replace h0 := pc HB.out h0
    clear hci hCi
    generalize l.getD jj [] = a at HCI HCC hal h0 hc HF
    generalize cmpL a x = cv at HF hc
    have HC := Aside0.mk hc
    have p1 : ((0 : Int) ≤ (jj : Int)) = True := eq_true (by omega)
    have q1 : ((jj : Int) < (n : Int)) = True := eq_true (by omega)
    have q2 : (jj < n) = True := eq_true hjn
    clear hc hal
    go_wp2_with (go_at_call 64; (with_reducible refine (spec_l12Lists.calls _ _ _ a _ _ x cv _ (Kd.C_below HCI.out HB.out) HCC.out (Kd.C_below HXC.out.2 HB.out) HXC.out.1 HF.out).mono ?_); rintro e w5 ⟨rfl, n5, rfl⟩)
    go_meet
    case rel => exact ⟨by rw [HC.out], ⟨pw_below_drewN HB.out _⟩⟩
   ·have q1 : ((jj : Int) < (n : Int)) = False := eq_false (by omega)
    have q2 : (jj < n) = False := eq_false hjn
    have HC : Aside0 (bb = false) := ⟨by rw [HBB2.out]; exact decide_eq_false (fun h => hjn h.1)⟩
    go_wp2
    go_meet
    case rel => exact ⟨by rw [HC.out], HB⟩
  case rest =>
   clear HB
   obtain ⟨rfl, HB⟩ := hcut
   by_cases hgo : jj < n ∧ cmpL (l.getD jj []) x < 0
   ·obtain rfl : bb = true := by rw [HBB2.out]; exact decide_eq_true hgo
    go_wp2
    go_roundw
    case rel => exact ⟨jj + 1, by omega, by go_num, ⟨fun i hi => by
     by_cases h : i < jj
     ·exact HLS.out i h
     ·have : i = jj := by omega
      subst this
      exact hgo.2⟩, HB⟩
    case measure => simp [intOf]; omega
   ·obtain rfl : bb = false := by rw [HBB2.out]; exact decide_eq_false hgo
    have hsp := addL_split x l jj (by have := HNL.out; omega) HLS.out (by
     have := HNL.out
     by_cases h : jj < n
     ·exact Or.inr (fun h2 => hgo ⟨h, h2⟩)
     ·exact Or.inl (by omega))
    rw [← HNL.out] at hsp
    have HSP := Aside0.mk hsp
    clear hsp hgo HBB2
    obtain ⟨bb, hbb⟩ : ∃ bb, bb = decide (jj < n ∧ cmpL (l.getD jj []) x = 0) := ⟨_, rfl⟩
    have HBB2 := Aside0.mk hbb
    clear hbb
    go_upto_region 4 with (fail)
    go_cut [33] (fun v wc => v = .bool bb ∧ Aside0 (Below w.heap.size w wc))
    case first =>
     by_cases hjn : jj < n
     ·obtain ⟨ad, Ai, ci, e, hal, hci, hCi, h0⟩ := HGET.out hjn
      subst e
      have hc : bb = decide (cmpL (l.getD jj []) x = 0) := by rw [HBB2.out]; simp [hjn]
      have HF := Aside0.mk (cmpL_f (l.getD jj []) x hal)
      have HCI := Aside0.mk hCi
      have HCC := Aside0.mk hci
      replace h0 := pc HB.out h0
      clear hci hCi HSP
      generalize l.getD jj [] = a at HCI HCC hal h0 hc HF
      generalize cmpL a x = cv at HF hc
      have hc2 : bb = (cv == 0) := by rw [hc]; by_cases h : cv = 0 <;> simp [h]
      have HC := Aside0.mk hc2
      have p1 : ((0 : Int) ≤ (jj : Int)) = True := eq_true (by omega)
      have q1 : ((jj : Int) < (n : Int)) = True := eq_true (by omega)
      have q2 : (jj < n) = True := eq_true hjn
      clear hc hal hc2
      go_wp2_with (go_at_call 64; (with_reducible refine (spec_l12Lists.calls _ _ _ a _ _ x cv _ (Kd.C_below HCI.out HB.out) HCC.out (Kd.C_below HXC.out.2 HB.out) HXC.out.1 HF.out).mono ?_); rintro e w5 ⟨rfl, n5, rfl⟩)
      go_meet
      case rel => exact ⟨by rw [HC.out], ⟨pw_below_drewN HB.out _⟩⟩
     ·have q1 : ((jj : Int) < (n : Int)) = False := eq_false (by omega)
      have q2 : (jj < n) = False := eq_false hjn
      have HC : Aside0 (bb = false) := ⟨by rw [HBB2.out]; exact decide_eq_false (fun h => hjn h.1)⟩
      go_wp2
      go_meet
      case rel => exact ⟨by rw [HC.out], HB⟩
    case rest =>
     clear HB
     obtain ⟨rfl, HB⟩ := hcut
     by_cases hgo : jj < n ∧ cmpL (l.getD jj []) x = 0
     ·obtain rfl : bb = true := by rw [HBB2.out]; exact decide_eq_true hgo
      have hs := HSP.out
      rw [if_pos hgo] at hs
      have HS2 := Aside0.mk hs
      clear hs hgo
      go_wp2
      go_ret
      exact ⟨_, rfl, by rw [HS2.out]; exact Kd.R_below HV.out HB.out, HB.out⟩
     ·obtain rfl : bb = false := by rw [HBB2.out]; exact decide_eq_false hgo
      have hs := HSP.out
      rw [if_neg hgo] at hs
      have HS2 := Aside0.mk hs
      clear hs hgo HSP HGET HBB2 hst
      obtain ⟨enc, h1, hsl, hnz, hR, hrow⟩ := R_downI (.slice A1 x.length c1) ⟨_, _, _, rfl⟩ HV.out
      rw [← HNL.out] at hnz hR hrow
      have HR := Aside0.mk hR
      have HROW := Aside0.mk hrow
      have HNZ := Aside0.mk hnz
      clear hR hrow hnz hsl
      have hlr : (List.range n).length = n := List.length_range
      have hcap := (Kd.R_reads' HV.out).2.1
      obtain ⟨i2, hi2, hj2⟩ := Option.map_eq_some_iff.1 info38
      simp only [Prod.mk.injEq] at hj2
      have hs1 : ∀ W : World, (Instr.slice 26 (.slice A0 n c0) none (some (.int .i64 (jj : Int))) none).run Tryz.prog W = .ok (.slice A0 jj c0) W := by
       intro W
       have := cut_to (P := Tryz.prog) 26 38 .i64 Tryz.underlying26 hi2 A0 n c0 (jj : Int) (by omega) (by omega) hcap W
       rwa [Int.toNat_natCast] at this
      have hs2 : ∀ W : World, (Instr.slice 26 (.slice A0 n c0) (some (.int .i64 (jj : Int))) none none).run Tryz.prog W = .ok (.slice (if c0 = jj then A0 else A0.map (·.add (jj * 1))) (n - jj) (c0 - jj)) W := by
       intro W
       have := cut_from (P := Tryz.prog) 26 38 .i64 Tryz.underlying26 hi2 1 hj2.2.1 A0 n c0 (jj : Int) (by omega) (by omega) W
       rwa [Int.toNat_natCast] at this
      obtain ⟨A2, hA2⟩ : ∃ A2, A2 = (if c0 = jj then A0 else A0.map (·.add (jj * 1))) := ⟨_, rfl⟩
      rw [← hA2] at hs2
      have HC0 := Aside0.mk (Kd.C_below (Kd.R_reads' HR.out).2.2 HB.out)
      have HC1 : Aside0 (Kd.C (Kd.scalar enc h1) wc A0 ((List.range n).take jj).length ((List.range n).take jj)) := ⟨Kd.C_take HC0.out (by rw [hlr]; omega)⟩
      have HC2 : Aside0 (Kd.C (Kd.scalar enc h1) wc A2 ((List.range n).drop jj).length ((List.range n).drop jj)) := ⟨by rw [hA2]; exact Kd.C_drop HC0.out (by rw [hlr]; omega) (by rw [hlr]; omega)⟩
      have hl1 : ((List.range n).take jj).length = jj := by rw [List.length_take]; omega
      have hl2 : ((List.range n).drop jj).length = n - jj := by rw [List.length_drop, hlr]
      rw [hl1] at HC1
      rw [hl2] at HC2
      have HL1 := Aside0.mk hl1
      have hnb : n - jj ≤ 1000000 := by omega
      have HAC : Aside0 (((wc.alloc (.cells #[] 38)).alloc (.cells #[.slice A1 x.length c1] 38)).heap[wc.heap.size + 1]? = some (.cells #[enc n] 38 (0, 0))) := ⟨by
       have h := heap_alloc_new (wc.alloc (.cells #[] 38)) (.cells #[.slice A1 x.length c1] 38 (0, 0))
       rw [HNZ.out]
       rwa [show (wc.alloc (.cells #[] 38)).heap.size = wc.heap.size + 1 by simp] at h⟩
      have HCA : Aside0 (((wc.alloc (.cells #[.slice A1 x.length c1] 38)).alloc (.cells #[] 38)).heap[wc.heap.size]? = some (.cells #[enc n] 38 (0, 0))) := ⟨by rw [HNZ.out]; exact blk_alloc (heap_alloc_new wc _) _⟩
      clear hl1 hl2 hlr hA2 hj2 hi2
      have HJ := Aside0.mk hj
      go_wp2
      go_region_law (first
       | (refine Kd.R_append_rows_step (Kd.scalar enc h1) (w0 := wc.drew) wc.drew.heap.size (by simp [Region.wanted]) (.tmp 35) (.tmp 38) 26 38 (.slice none 0 0) 24 rfl Tryz.underlying26 info38 rfl Nat.one_pos (by omega) _ ([] : List Nat) ((List.range n).take jj) _ _ _ (fun _ => True) (fun _ => False) rfl rfl ?aO ?aR kmS (fun _ h => h.elim) ?aF ?aB ?aS ?aL ?_; (case aO => first | exact litS wc.drew wc.drew.heap.size rfl (Nat.le_refl _) | exact Kd.R_alloc (litS wc.drew wc.drew.heap.size rfl (Nat.le_refl _)) (.cells #[.slice A1 x.length c1] 38) | exact litS (wc.drew.alloc (.cells #[.slice A1 x.length c1] 38)) wc.drew.heap.size (by simp) (by simp)); (case aR => exact Kd.C_below HC1.out (by repeat (first | exact Below.refl _ _ | exact below_un _ _ | apply below_dr | apply below_alloc))); (case aB => exact (by repeat (first | exact Below.refl _ _ | exact below_un _ _ | apply below_dr | apply below_alloc))); (case aF => exact fun _ _ => trivial); (case aS => first | (simp; done) | (simp; omega)); (case aL => simp; omega); intro v1 w1 ho1 hb1 hg1 hat1)
       | (refine Kd.R_append_rows_step (Kd.scalar enc h1) (w0 := wc.drew) wc.drew.heap.size (by simp [Region.wanted]) (.tmp 39) (.tmp 41) 26 38 (.slice none 0 0) 24 rfl Tryz.underlying26 info38 rfl Nat.one_pos (by omega) _ ((List.range n).take jj) [n] _ _ _ (fun _ => True) (fun _ => False) rfl rfl ?aO ?aR kmS (fun _ h => h.elim) ?aF ?aB ?aS ?aL ?_; (case aO => first | exact ho1 | exact Kd.R_alloc ho1 _); (case aR => first | exact litCS (by rw [HNZ.out]; exact heap_alloc_new w1 (.cells #[.slice A1 x.length c1] 38 (0, 0))) | exact litCS ((hg1.block (wc.heap.size + 1) (by simp <;> omega) (fun h => by have h2 : wc.heap.size + 1 = wc.heap.size := Option.some.inj h; omega)).trans HAC.out) | exact litCS ((hg1.block wc.heap.size (by simp <;> omega) (fun h => by have h2 : wc.heap.size = wc.heap.size + 1 := Option.some.inj h; omega)).trans HCA.out)); (case aB => exact (by repeat (first | exact Below.refl _ _ | exact below_un _ _ | exact hb1 | apply below_dr | apply below_alloc))); (case aF => exact fun _ _ => trivial); (case aS => exact Below.size (show Below wc.drew.heap.size wc.drew _ from (by repeat (first | exact Below.refl _ _ | exact below_un _ _ | exact hb1 | apply below_dr | apply below_alloc)))); (case aL => simp [HL1.out]; omega); intro v2 w2 ho2 hb2 hg2 hat2)
       | (refine Kd.R_append_rows_step (Kd.scalar enc h1) (w0 := wc.drew) wc.drew.heap.size (by simp [Region.wanted]) (.tmp 42) (.tmp 45) 26 38 (.slice none 0 0) 24 rfl Tryz.underlying26 info38 rfl Nat.one_pos (by omega) _ ((List.range n).take jj ++ [n]) ((List.range n).drop jj) _ _ _ (fun _ => True) (fun _ => False) rfl rfl ?aO ?aR kmS (fun _ h => h.elim) ?aF ?aB ?aS ?aL ?_; (case aO => exact ho2); (case aR => exact Kd.C_below HC2.out (below_step (below_dr (Below.refl _ _)) hb2)); (case aB => exact hb2); (case aF => exact fun _ _ => trivial); (case aS => exact hb2.size); (case aL => simp [HL1.out]; omega); intro v3 w3 ho3 hb3 hg3 hat3))
      all_goals (
       have HBF := Aside0.mk (below_step HB.out (below_step (below_dr (Below.refl _ _)) hb3))
       have hfr : ∀ k, v3.ownBlock = some k → w.heap.size ≤ k := fun k hk => Nat.le_trans HB.out.size (Kd.R_base ho3 k hk)
       have hup := R_upI (rows := fun i => if i < n then l.getD i [] else x) (Kd.R_lower ho3 (Nat.le_trans HBB.out HB.out.size)) (fun i hi => by
        by_cases hin : i < n
        ·have h := Kd.R_elder' (HROW.out i hin) hfr HBF.out
         simp only [if_pos hin]
         exact Kd.R_mono h (fun k hk => ⟨trivial, hk.2⟩)
        ·have hie : i = n := by
          rw [List.append_assoc, List.mem_append, List.mem_append, List.mem_singleton] at hi
          rcases hi with hi | hi | hi
          ·exact absurd (List.mem_range.1 (List.mem_of_mem_take hi)) hin
          ·exact hi
          ·exact absurd (List.mem_range.1 (List.mem_of_mem_drop hi)) hin
         subst hie
         have h := Kd.R_elder' HU.out hfr HBF.out
         simp only [if_neg hin]
         rw [HNZ.out]
         exact Kd.R_mono h (fun k hk => ⟨trivial, hk.2⟩))
       have hmap : ((List.range n).take jj ++ [n] ++ (List.range n).drop jj).map (fun i => if i < n then l.getD i [] else x) = l.take jj ++ [x] ++ l.drop jj := by
        have hr : (List.range n).map (fun i => if i < n then l.getD i [] else x) = l := by
         rw [HNL.out]
         refine List.ext_getElem (by simp) fun i h1 h2 => ?_
         simp [List.getD_eq_getElem?_getD, List.getElem?_eq_getElem h2, h2]
        rw [List.map_append, List.map_append, List.map_take, List.map_drop, hr]
        simp
       rw [hmap, ← HS2.out] at hup
       have HUP := Aside0.mk hup
       clear ho1 ho2 ho3 hb1 hb2 hb3 hg1 hg2 hg3 hat1 hat2 hat3 hs1 hs2 hup hmap hfr
       go_wp2
       go_ret
       exact ⟨_, rfl, HUP.out, HBF.out⟩)
end Go.Proofs.YtbphiipcnjelbaaGreat.Q

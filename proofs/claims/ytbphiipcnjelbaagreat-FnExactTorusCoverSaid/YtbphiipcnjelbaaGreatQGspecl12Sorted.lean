/- Written by a program of this session (wip/tools/pp.py) out of the translation, with the kit's printer. -/
import Derived.Test.YtbphiipcnjelbaaGreatQ0
import Derived.LoopTactic
import Derived.Deep.RegionLaw
namespace Go.Proofs.YtbphiipcnjelbaaGreat.Q
open Go.RowKit Go.Proofs.YtbphiipcnjelbaaGreatW.PrintWords Go.Proofs.YtbphiipcnjelbaaGreatW.PrintLast Go.Proofs.YtbphiipcnjelbaaGreatW.PrintMore
attribute [local go_sem] max2_int min2_int max_two min_two max_three min_three max_four min_four
set_option linter.unusedVariables false
set_option linter.unusedSimpArgs false
def insI (x : Int) : List Int → List Int
 | [] => [x]
 | y :: r => if y < x then y :: insI x r else x :: y :: r
def srtI (l : List Int) : List Int := l.foldl (fun a x => insI x a) []
def spec_l12Sorted.f (l : List Int) : Option (List Int) := if l.length ≤ 1000000 then some (srtI l) else none
theorem insI_len (x : Int) : ∀ l : List Int, (insI x l).length = l.length + 1
 | [] => rfl
 | y :: r => by
  unfold insI
  split
  ·rw [List.length_cons, insI_len x r, List.length_cons]
  ·rfl
theorem insI_split (x : Int) : ∀ (l : List Int) (j : Nat), j ≤ l.length → (∀ i, i < j → l.getD i 0 < x) → (j = l.length ∨ ¬ l.getD j 0 < x) → insI x l = l.take j ++ [x] ++ l.drop j
 | [], j, hj, _, _ => by
  have : j = 0 := by simpa using hj
  subst this
  rfl
 | y :: r, 0, _, _, h2 => by
  have : ¬ y < x := by
   rcases h2 with h2 | h2
   ·simp at h2
   ·simpa using h2
  unfold insI
  rw [if_neg this]
  rfl
 | y :: r, j + 1, hj, h1, h2 => by
  have hy : y < x := by simpa using h1 0 (by omega)
  unfold insI
  rw [if_pos hy, insI_split x r j (by simpa using hj) (fun i hi => by simpa using h1 (i + 1) (by omega)) (by
   rcases h2 with h2 | h2
   ·exact Or.inl (by simpa using h2)
   ·exact Or.inr (by simpa using h2))]
  rfl
theorem litC {W : World} {c : Nat} {x : Int} {e : TypeId} (h : W.heap[c]? = some (.cells #[.int .i64 x] e (0, 0))) : Kd.C (Kd.int .i64) W (some ⟨c, 0, none⟩) [x].length [x] := by
 refine ⟨rfl, by simp, fun _ => ⟨_, rfl, fun j p hj => ?_⟩⟩
 have h0 : j = 0 := by
  have := (List.getElem?_eq_some_iff.1 hj).1
  simpa using this
 subst h0
 have hp : x = p := by simpa using hj
 subst hp
 refine ⟨[.int .i64 x], rfl, rfl, fun i u hu => ?_⟩
 have hi : i = 0 := by
  have := (List.getElem?_eq_some_iff.1 hu).1
  simpa using this
 subst hi
 have hu2 : Value.int .i64 x = u := by simpa using hu
 subst hu2
 have := (blk_cell h 0).trans rfl
 simpa [Addr.add] using this
theorem litR (W : World) (base e : Nat) (hb : base ≤ W.heap.size) : Kd.R (Kd.int .i64) e (W.alloc (.cells #[] e)) base (fun _ => True) (.slice (some ⟨W.heap.size, 0, none⟩) 0 0) [] :=
 Kd.R_of_own (own_lit W base e .i64 [] hb (by simp)) (fun _ _ => trivial)
theorem litR2 (W : World) (base e : Nat) {g : Nat} (hg : g = W.heap.size) (hb : base ≤ W.heap.size) : Kd.R (Kd.int .i64) e (W.alloc (.cells #[] e)) base (fun _ => True) (.slice (some ⟨g, 0, none⟩) 0 0) [] := by
 subst hg
 exact litR W base e hb
theorem kmI {w : World} {base : Nat} : ∀ (x : Int) (cs : List Value), (Kd.int .i64).K w x cs → (Kd.int .i64).M w base (fun _ => False) x cs := fun _ _ h => h
theorem below_un (B : Nat) (w : World) : Below B w.drew w := ⟨rfl, rfl, rfl, Nat.le_refl _, fun _ _ => rfl⟩
theorem below_dr {B : Nat} {w W : World} (h : Below B w W) : Below B w W.drew := ⟨h.os, h.tape, h.output, h.size, h.block⟩
set_option maxRecDepth 100000 in
set_option maxHeartbeats 4000000 in
theorem spec_l12Sorted.calls (A0 : Option Addr) (c0 : Nat) (l0 : List Int) (r : List Int) (w : World) (hr0 : Kd.C (Kd.int .i64) w A0 l0.length l0) (hc0 : l0.length ≤ c0) (h : spec_l12Sorted.f l0 = some r) :
  Calls Tryz.prog 44 #[.slice A0 l0.length c0] w fun e w' => ∃ v0_ : Value, e = .returned v0_ ∧ Kd.R (Kd.int .i64) 2 w' w.heap.size (fun _ => True) v0_ r ∧ Below w.heap.size w w' := by
 have HR := Aside0.mk hr0
 clear hr0
 unfold spec_l12Sorted.f at h
 by_cases hn : l0.length ≤ 1000000
 case neg => rw [if_neg hn] at h; cases h
 rw [if_pos hn] at h
 obtain rfl := Option.some.inj h
 clear h
 have hnil : Kd.R (Kd.int .i64) 2 (w.alloc (.cells #[] 2)) w.heap.size (fun _ => True) (.slice (some ⟨w.heap.size, 0, none⟩) 0 0) [] := litR w w.heap.size 2 (Nat.le_refl _)
 have HN := Aside0.mk hnil
 clear hnil
 obtain ⟨i2, hi2, hj2⟩ := Option.map_eq_some_iff.1 info2
 simp only [Prod.mk.injEq] at hj2
 have HSZ := Aside0.mk hj2.2.1
 have HI := Aside0.mk hi2
 clear hj2 hi2
 go_enter Tryz.func44, Tryz.ntmps44
 go_wp2
 go_loopw [3, 4] (fun v i wr => ∃ (kk : Nat) (out : List Int), kk ≤ l0.length ∧ i = .int .i64 (kk : Int) ∧ Aside0 (out.length = kk) ∧ Aside0 ((l0.drop kk).foldl (fun a x => insI x a) out = srtI l0) ∧ Aside0 (Kd.R (Kd.int .i64) 2 wr w.heap.size (fun _ => True) v out) ∧ Aside0 (Below w.heap.size w wr)) (fun _ i _ => l0.length - (intOf i).toNat)
 case atStart => exact ⟨0, [], Nat.zero_le _, rfl, ⟨rfl⟩, ⟨rfl⟩, HN, ⟨below_alloc (Below.refl _ _) _⟩⟩
 case round =>
  clear HN
  obtain ⟨kk, out, hk, rfl, HOL, HF, HO, HB⟩ := hrel
  obtain ⟨ao, co, e⟩ := Kd.R_slice HO.out
  subst e
  by_cases hlt : kk < l0.length
  ·obtain ⟨ad, e, hx⟩ := Kd.at_int (Kd.C_below HR.out HB.out) (kk : Int) (by omega) (by omega)
   subst e
   rw [Int.toNat_natCast] at hx
   have hd : l0.drop kk = rd l0 (kk : Int) :: l0.drop (kk + 1) := by
    rw [List.drop_eq_getElem_cons hlt]
    simp [rd, List.getD_eq_getElem?_getD, List.getElem?_eq_getElem hlt]
   have hf := HF.out
   rw [hd, List.foldl_cons] at hf
   have HF2 := Aside0.mk hf
   clear hf hd HF
   generalize rd l0 (kk : Int) = x at hx HF2
   have HX := Aside0.mk hx
   clear hx
   obtain ⟨m, hm⟩ : ∃ m, m = out.length := ⟨_, rfl⟩
   rw [← hm] at HO ⊢
   have HM := Aside0.mk hm
   have hmk : m ≤ 1000000 := by have := HOL.out; omega
   clear hm
   have HLT := Aside0.mk hlt
   have HK := Aside0.mk hk
   go_wp2
   go_loopw [5] (fun j wr2 => ∃ jj : Nat, jj ≤ m ∧ j = .int .i64 (jj : Int) ∧ Aside0 (∀ i, i < jj → out.getD i 0 < x) ∧ Aside0 (Kd.R (Kd.int .i64) 2 wr2 w.heap.size (fun _ => True) (.slice ao m co) out) ∧ Aside0 (Below w.heap.size w wr2) ∧ Aside0 (wr2.cell? (ad.add kk) = some (.int .i64 x))) (fun j _ => m - (intOf j).toNat)
   case atStart => exact ⟨0, Nat.zero_le _, rfl, ⟨fun i hi => by omega⟩, HO, HB, HX⟩
   case round =>
    clear HO HB HX
    obtain ⟨jj, hj, rfl, HLS, HO, HB, HX⟩ := hrel
    have hst : IntKind.i64.wrap ((jj : Int) + 1) = ((jj + 1 : Nat) : Int) := (i64_w _).trans (by unfold wrap64; omega)
    have p0 : ((0 : Int) ≤ (kk : Int)) = True := eq_true (by omega)
    have q0 : ((kk : Int) < (l0.length : Int)) = True := eq_true (by have := HLT.out; omega)
    have hx := HX.out
    go_upto_region 6 with (fail)
    obtain ⟨bb, hbb⟩ : ∃ bb, bb = decide (jj < m ∧ rd out (jj : Int) < x) := ⟨_, rfl⟩
    have HBB := Aside0.mk hbb
    clear hbb
    go_cut [27] (fun v wc => v = .bool bb ∧ Aside0 (Kd.R (Kd.int .i64) 2 wc w.heap.size (fun _ => True) (.slice ao m co) out) ∧ Aside0 (Below w.heap.size w wc) ∧ Aside0 (wc.cell? (ad.add kk) = some (.int .i64 x)))
    case first =>
     by_cases hjm : jj < m
     ·have hml := HM.out
      obtain ⟨ad2, e2, hy⟩ := Kd.at_int (Kd.R_reads' HO.out).2.2 (jj : Int) (by omega) (by omega)
      subst e2
      rw [Int.toNat_natCast] at hy
      have hc : bb = decide (rd out (jj : Int) < x) := by rw [HBB.out]; simp [hjm]
      generalize rd out (jj : Int) = y at hy hc
      have HC := Aside0.mk hc
      clear hc
      have p1 : ((0 : Int) ≤ (jj : Int)) = True := eq_true (by omega)
      have q1 : ((jj : Int) < (m : Int)) = True := eq_true (by omega)
      have q2 : (jj < m) = True := eq_true hjm
      clear hml
      go_region
      all_goals (
       go_wp2
       go_meet
       case rel => exact ⟨by rw [HC.out], ⟨Kd.R_drew HO.out⟩, ⟨below_dr HB.out⟩, ⟨HX.out⟩⟩)
     ·have q1 : ((jj : Int) < (m : Int)) = False := eq_false (by omega)
      have q2 : (jj < m) = False := eq_false hjm
      have HC : Aside0 (bb = false) := ⟨by rw [HBB.out]; exact decide_eq_false (fun h => hjm h.1)⟩
      go_region
      all_goals (
       go_wp2
       go_meet
       case rel => exact ⟨by rw [HC.out], ⟨Kd.R_drew HO.out⟩, ⟨below_dr HB.out⟩, ⟨HX.out⟩⟩)
    case rest =>
     clear HO HB HX hx
     obtain ⟨rfl, HO, HB, HX⟩ := hcut
     by_cases hgo : jj < m ∧ rd out (jj : Int) < x
     ·obtain rfl : bb = true := by rw [HBB.out]; exact decide_eq_true hgo
      go_wp2
      go_roundw
      case rel => exact ⟨jj + 1, by omega, by go_num, ⟨fun i hi => by
       by_cases h : i < jj
       ·exact HLS.out i h
       ·have : i = jj := by omega
        subst this
        simpa [rd] using hgo.2⟩, HO, HB, HX⟩
      case measure => simp [intOf]; omega
     ·obtain rfl : bb = false := by rw [HBB.out]; exact decide_eq_false hgo
      have hsp : insI x out = out.take jj ++ [x] ++ out.drop jj := insI_split x out jj (by have := HM.out; omega) HLS.out (by
       have := HM.out
       by_cases h : jj < m
       ·exact Or.inr (fun h2 => hgo ⟨h, by simpa [rd] using h2⟩)
       ·exact Or.inl (by omega))
      have HSP := Aside0.mk hsp
      clear hsp hgo
      have hcap := (Kd.R_reads' HO.out).2.1
      have hs1 : ∀ W : World, (Instr.slice 38 (.slice ao m co) none (some (.int .i64 (jj : Int))) none).run Tryz.prog W = .ok (.slice ao jj co) W := by
       intro W
       have := cut_to (P := Tryz.prog) 38 2 .i64 Tryz.underlying38 HI.out ao m co (jj : Int) (by omega) (by omega) hcap W
       rwa [Int.toNat_natCast] at this
      have hs2 : ∀ W : World, (Instr.slice 38 (.slice ao m co) (some (.int .i64 (jj : Int))) none none).run Tryz.prog W = .ok (.slice (if co = jj then ao else ao.map (·.add (jj * 1))) (m - jj) (co - jj)) W := by
       intro W
       have := cut_from (P := Tryz.prog) 38 2 .i64 Tryz.underlying38 HI.out 1 HSZ.out ao m co (jj : Int) (by omega) (by omega) W
       rwa [Int.toNat_natCast] at this
      obtain ⟨A2, hA2⟩ : ∃ A2, A2 = (if co = jj then ao else ao.map (·.add (jj * 1))) := ⟨_, rfl⟩
      rw [← hA2] at hs2
      have HA2 := Aside0.mk hA2
      clear hA2
      have hx := HX.out
      have hx2 : (wc.alloc (.cells #[] 2)).cell? (ad.add kk) = some (.int .i64 x) := pc (below_alloc (Below.refl _ _) _) HX.out
      have HAC : Aside0 (((wc.alloc (.cells #[] 2)).alloc (.cells #[.int .i64 x] 2)).heap[wc.heap.size + 1]? = some (.cells #[.int .i64 x] 2 (0, 0))) := ⟨by
       have h := heap_alloc_new (wc.alloc (.cells #[] 2)) (.cells #[.int .i64 x] 2 (0, 0))
       rwa [show (wc.alloc (.cells #[] 2)).heap.size = wc.heap.size + 1 by simp] at h⟩
      have HCA : Aside0 (((wc.alloc (.cells #[.int .i64 x] 2)).alloc (.cells #[] 2)).heap[wc.heap.size]? = some (.cells #[.int .i64 x] 2 (0, 0))) := ⟨blk_alloc (heap_alloc_new wc _) _⟩
      have HML := HM.out
      have HC1 : Aside0 (Kd.C (Kd.int .i64) wc ao (out.take jj).length (out.take jj)) := ⟨Kd.C_take (Kd.R_reads' HO.out).2.2 (by omega)⟩
      have HC2 : Aside0 (Kd.C (Kd.int .i64) wc A2 (out.drop jj).length (out.drop jj)) := ⟨by rw [HA2.out]; exact Kd.C_drop (Kd.R_reads' HO.out).2.2 (by omega) (by omega)⟩
      have hl1 : (out.take jj).length = jj := by rw [List.length_take]; omega
      have hl2 : (out.drop jj).length = m - jj := by rw [List.length_drop]; omega
      rw [hl1] at HC1
      rw [hl2] at HC2
      have HL1 := Aside0.mk hl1
      have HL2 := Aside0.mk hl2
      have hmk2 : out.length ≤ 1000000 := by omega
      have hmj : m - jj ≤ 1000000 := by omega
      have hjb : jj ≤ 1000000 := by omega
      clear hl1 hl2 HML hmk2
      have HWs : Aside0 (w.heap.size ≤ wc.heap.size) := ⟨HB.out.size⟩
      go_wp2
      go_region_law (first
       | (refine Kd.R_append_rows_step (Kd.int .i64) (w0 := wc.drew) wc.drew.heap.size (by simp [Region.wanted]) (.tmp 30) (.tmp 33) 38 2 (.int .i64 0) 8 rfl Tryz.underlying38 info2 rfl (by decide) (by omega) _ ([] : List Int) (out.take jj) _ _ _ (fun _ => True) (fun _ => False) rfl rfl ?aO ?aR kmI (fun _ h => h.elim) ?aF ?aB ?aS ?aL ?_; (case aO => first | exact litR wc.drew wc.drew.heap.size 2 (Nat.le_refl _) | exact Kd.R_alloc (litR wc.drew wc.drew.heap.size 2 (Nat.le_refl _)) (.cells #[.int .i64 x] 2) | exact litR2 (wc.drew.alloc (.cells #[.int .i64 x] 2)) wc.drew.heap.size 2 (by simp) (by simp)); (case aR => exact Kd.C_below HC1.out (by repeat (first | exact Below.refl _ _ | exact below_un _ _ | apply below_dr | apply below_alloc))); (case aB => exact (by repeat (first | exact Below.refl _ _ | exact below_un _ _ | apply below_dr | apply below_alloc))); (case aF => exact fun _ _ => trivial); (case aS => first | (simp; done) | (simp; omega)); (case aL => simp; omega); intro v1 w1 ho1 hb1 hg1 hat1; have hx1 := pc hb1 (show wc.drew.cell? (ad.add kk) = some (.int .i64 x) from HX.out))
       | (refine Kd.R_append_rows_step (Kd.int .i64) (w0 := wc.drew) wc.drew.heap.size (by simp [Region.wanted]) (.tmp 34) (.tmp 39) 38 2 (.int .i64 0) 8 rfl Tryz.underlying38 info2 rfl (by decide) (by omega) _ (out.take jj) [x] _ _ _ (fun _ => True) (fun _ => False) rfl rfl ?aO ?aR kmI (fun _ h => h.elim) ?aF ?aB ?aS ?aL ?_; (case aO => first | exact ho1 | exact Kd.R_alloc ho1 _); (case aR => first | exact litC (heap_alloc_new w1 (.cells #[.int .i64 x] 2 (0, 0))) | exact litC ((hg1.block (wc.heap.size + 1) (by simp <;> omega) (fun h => by have h2 : wc.heap.size + 1 = wc.heap.size := Option.some.inj h; omega)).trans HAC.out) | exact litC ((hg1.block wc.heap.size (by simp <;> omega) (fun h => by have h2 : wc.heap.size = wc.heap.size + 1 := Option.some.inj h; omega)).trans HCA.out)); (case aB => exact (by repeat (first | exact Below.refl _ _ | exact below_un _ _ | exact hb1 | apply below_dr | apply below_alloc))); (case aF => exact fun _ _ => trivial); (case aS => exact Below.size (show Below wc.drew.heap.size wc.drew _ from (by repeat (first | exact Below.refl _ _ | exact below_un _ _ | exact hb1 | apply below_dr | apply below_alloc)))); (case aL => simp [HL1.out]; omega); intro v2 w2 ho2 hb2 hg2 hat2)
       | (refine Kd.R_append_rows_step (Kd.int .i64) (w0 := wc.drew) wc.drew.heap.size (by simp [Region.wanted]) (.tmp 40) (.tmp 43) 38 2 (.int .i64 0) 8 rfl Tryz.underlying38 info2 rfl (by decide) (by omega) _ (out.take jj ++ [x]) (out.drop jj) _ _ _ (fun _ => True) (fun _ => False) rfl rfl ?aO ?aR kmI (fun _ h => h.elim) ?aF ?aB ?aS ?aL ?_; (case aO => exact ho2); (case aR => exact Kd.C_below HC2.out (below_step (below_dr (Below.refl _ _)) hb2)); (case aB => exact hb2); (case aF => exact fun _ _ => trivial); (case aS => exact hb2.size); (case aL => simp [HL1.out]; omega); intro v3 w3 ho3 hb3 hg3 hat3))
      all_goals (
       have HO3 := Aside0.mk (Kd.R_lower ho3 HWs.out)
       have HB3 := Aside0.mk (below_step HB.out (below_step (below_dr (Below.refl _ _)) hb3))
       clear ho1 ho2 ho3 hb1 hb2 hb3 hg1 hg2 hg3 hat1 hat2 hat3 hx1 hx2 hs1 hs2 hx p0 q0 hst
       go_wp2
       go_roundw
       case rel => exact ⟨kk + 1, out.take jj ++ [x] ++ out.drop jj, by have := HLT.out; omega, by go_num, ⟨by rw [← HSP.out, insI_len, HOL.out]⟩, ⟨by rw [← HSP.out]; exact HF2.out⟩, HO3, HB3⟩
       case measure => have := HLT.out; simp [intOf]; omega)
  ·have hka : kk = l0.length := by omega
   have hf := HF.out
   rw [hka, List.drop_length, List.foldl_nil] at hf
   subst hf
   clear HF
   go_wp2
   go_ret
   exact ⟨_, rfl, HO.out, HB.out⟩
end Go.Proofs.YtbphiipcnjelbaaGreat.Q

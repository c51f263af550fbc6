/- Written by a program of this session (wip/tools/pp.py) out of the translation, with the kit's printer. -/
import Derived.Test.YtbphiipcnjelbaaGreatQ0
import Derived.Test.YtbphiipcnjelbaaGreatQGspecl18Add
import Derived.Test.YtbphiipcnjelbaaGreatQGspecl12Sorted
import Derived.Test.YtbphiipcnjelbaaGreatQGspecl25Spots
import Derived.Test.YtbphiipcnjelbaaGreatQGimplcompareShapes
import Derived.Test.YtbphiipcnjelbaaGreatQ13
import Derived.Test.YtbphiipcnjelbaaGreatQGimplformsOf
import Derived.Test.YtbphiipcnjelbaaGreatQ14
import Derived.Test.YtbphiipcnjelbaaGreatQGslicesCloneint64int64
import Derived.Test.YtbphiipcnjelbaaGreatQGslicesCompactFuncint64int64
import Derived.LoopTactic
import Derived.Deep.RegionLaw
namespace Go.Proofs.YtbphiipcnjelbaaGreat.Q
open Go.RowKit Go.Proofs.YtbphiipcnjelbaaGreatW.PrintWords Go.Proofs.YtbphiipcnjelbaaGreatW.PrintLast Go.Proofs.YtbphiipcnjelbaaGreatW.PrintMore
attribute [local go_sem] max2_int min2_int max_two min_two max_three min_three max_four min_four
set_option linter.unusedVariables false
set_option linter.unusedSimpArgs false
set_option maxRecDepth 100000 in
set_option maxHeartbeats 8000000 in
theorem impl_spots.own (k : Nat) (A0 : Option Addr) (c0 : Nat) (l0 : List S66) (a1 : Int) (a2 : Bool) (W H : Nat) (fs : List (List S66)) (R : List (List Int)) (w : World) (hr0 : Kd.C k66 w A0 l0.length l0) (hc0 : l0.length ≤ c0) (hf : impl_forms.f k l0 (if a2 = true then 8 else 4) = some fs) (hok : frmsOk fs) (hpos : 0 < fs.length) (hW : 1 ≤ W ∧ W ≤ 6) (hH : 1 ≤ H ∧ H ≤ 6)
  (hR : ∀ a, a ∈ R ↔ ∃ f ∈ fs, ∃ n, n < W * H ∧ okSp (f.map (torAt W H n)) ∧ a = sortI (f.map (torAt W H n))) (hP : R.Pairwise (fun x y => cmpL x y < 0)) :
  Calls Tryz.prog 29 #[.agg #[.slice A0 l0.length c0, .int .i64 a1, .bool a2], .int .i64 (W : Int), .int .i64 (H : Int)] w fun e w' => ∃ v', e = .returned v' ∧ Kd.S (Kd.slice 2 kI) 38 w' w.heap.size (fun _ => True) v' R ∧ Below w.heap.size w w' := by
 have hu1 := Tryz.underlying31
 have hu2 := Tryz.underlying66
 have HR := Aside0.mk hr0
 have HF := Aside0.mk hf
 have HOK := Aside0.mk hok.2
 have HRM := Aside0.mk hR
 have HRP := Aside0.mk hP
 have hfl := hok.1
 clear hr0 hf hok hR hP
 obtain ⟨M, hM⟩ : ∃ M, M = W * H := ⟨_, rfl⟩
 have hmle : M ≤ 36 := by rw [hM]; exact Nat.mul_le_mul hW.2 hH.2
 have hmul : IntKind.i64.wrap ((W : Int) * (H : Int)) = (M : Int) := by
  refine (i64_w _).trans ?_
  rw [show ((W : Int) * (H : Int)) = (M : Int) by rw [hM]; simp]
  unfold wrap64
  omega
 have HMD := Aside0.mk hM
 clear hM
 have HB0 := Aside0.mk (below_alloc (Below.refl w.heap.size w) (.cells #[.slice A0 l0.length c0, .int .i64 a1, .bool a2] 31))
 go_enter Tryz.func29, Tryz.ntmps29
 go_wp2_with (go_at_call 48; refine (impl_formsOf.own k A0 c0 l0 a1 a2 fs _ (Kd.C_below HR.out (below_alloc HB0.out _)) hc0 HF.out hpos hfl (fun a ha => by have := (HOK.out a ha).1; omega)).mono ?_; rintro e w1 ⟨v1, ys, rfl, hm1, ho1, hb1⟩; obtain ⟨A1, c1, e1⟩ := Kd.R_slice ho1; subst e1; have HM1 := Aside0.mk hm1.1; have hyl := hm1.2; have HO1 := Aside0.mk (Kd.R_bound ho1); have HB1 := Aside0.mk hb1; clear ho1 hb1 hm1)
 obtain ⟨B1, hB1⟩ : ∃ B1, B1 = ((w.alloc (.cells #[.slice A0 l0.length c0, .int .i64 a1, .bool a2] 31)).alloc (.cells #[] 38)).heap.size := ⟨_, rfl⟩
 have hB1s : B1 = w.heap.size + 1 + 1 := by rw [hB1]; simp
 have hN1 : B1 ≤ w1.heap.size := by rw [hB1]; exact HB1.out.size
 obtain ⟨N1, hN1e⟩ : ∃ N1, N1 = w1.heap.size := ⟨_, rfl⟩
 have hnil : Kd.S (Kd.slice 2 kI) 38 w1 w.heap.size (fun k => k < B1 ∨ N1 ≤ k) (.slice (some ⟨w.heap.size + 1, 0, none⟩) ([] : List (List Int)).length 0) [] := by
  have h := S_upI (f := fun _ => 0) (rows := fun _ => []) List.nodup_nil (litS (enc := fun _ => .slice none 0 0) (h1 := fun _ => rfl) (w.alloc (.cells #[.slice A0 l0.length c0, .int .i64 a1, .bool a2] 31)) w.heap.size (g := w.heap.size + 1) (by simp) HB0.out.size) (fun i hi => by cases hi)
  exact Kd.S_below (Kd.S_mono (Kd.S_bound h) (fun k hk => Or.inl (by rw [hB1]; exact hk.2.2.1))) HB1.out
 have HNIL := Aside0.mk hnil
 have HYS : Aside0 (Kd.R (Kd.slice 66 k66) 29 w1 B1 (fun k => B1 ≤ k ∧ k < N1) (.slice A1 ys.length c1) ys) := ⟨by
  have h := HO1.out
  rw [← hB1] at h
  exact Kd.R_mono h (fun k hk => ⟨hk.2.1, by rw [hN1e]; exact hk.2.2.1⟩)⟩
 have HBW := Aside0.mk (below_step (below_alloc HB0.out (.cells #[] 38)) HB1.out)
 have HYO := Aside0.mk (fun f hf => HOK.out f ((HM1.out f).1 hf) : ∀ f ∈ ys, f.length ≤ 1000 ∧ ∀ c ∈ f, (-1000000 ≤ c.f0 ∧ c.f0 ≤ 1000000) ∧ -1000000 ≤ c.f1 ∧ c.f1 ≤ 1000000)
 have hyl2 : ys.length ≤ 1000 := by omega
 have HN1 : Aside0 (N1 ≤ w1.heap.size) := ⟨by omega⟩
 clear hnil HB1 HF HB0 HOK hyl hfl hpos HO1 hB1 hN1 hN1e hB1s
 go_wp2
 go_loopw [7, 18] (fun v i wr => ∃ (kk : Nat) (out : List (List Int)) (gg cap : Nat), kk ≤ ys.length ∧ i = .int .i64 (kk : Int) ∧ v = .slice (some ⟨gg, 0, none⟩) out.length cap ∧ Aside0 ((ys.drop kk).foldl (spotIF W H) out = spotsI W H ys) ∧ Aside0 (out.length ≤ kk * 36 ∧ ∀ a ∈ out, a.length ≤ 1000) ∧ Aside0 (Kd.S (Kd.slice 2 kI) 38 wr w.heap.size (fun k => k < B1 ∨ N1 ≤ k) (.slice (some ⟨gg, 0, none⟩) out.length cap) out) ∧ Aside0 (Below w.heap.size w wr) ∧ Aside0 (Kd.R (Kd.slice 66 k66) 29 wr B1 (fun k => B1 ≤ k ∧ k < N1) (.slice A1 ys.length c1) ys) ∧ Aside0 (N1 ≤ wr.heap.size)) (fun _ i _ => ys.length - (intOf i).toNat)
 case atStart => exact ⟨0, [], _, _, Nat.zero_le _, rfl, rfl, ⟨rfl⟩, ⟨by simp, by simp⟩, HNIL, HBW, HYS, HN1⟩
 case round =>
  clear HNIL HBW HYS HN1
  obtain ⟨kk, out, gg, cap, hk, rfl, rfl, HFD, HLN, HO, HB, HYS, HN1⟩ := hrel
  by_cases hlt : kk < ys.length
  ·obtain ⟨ad, e⟩ : ∃ ad, A1 = some ad := by
    obtain ⟨ad, _, e, _⟩ := ReadsRow.get_ (Kd.R_reads' HYS.out).2.2 ([] : List S66) (kk : Int) (by omega) (by omega)
    exact ⟨ad, e⟩
   subst e
   obtain ⟨cs, hcl, ⟨vf, rfl, hvf⟩, hcell⟩ := Kd.R_getA HYS.out ([] : List S66) (kk : Int) (by omega) (by omega)
   obtain ⟨Af, cf, e⟩ := Kd.R_slice hvf
   subst e
   rw [Int.toNat_natCast] at hcell hvf
   have hfx := hcell 0 _ rfl
   rw [show kk * (Kd.slice 66 k66).sz + 0 = kk by show kk * 1 + 0 = kk; omega] at hfx
   have hd : ys.drop kk = ys.getD kk [] :: ys.drop (kk + 1) := by
    rw [List.drop_eq_getElem_cons hlt]
    simp [List.getD_eq_getElem?_getD, List.getElem?_eq_getElem hlt]
   have hfo := HYO.out (ys.getD kk []) (by
    have e : ys.getD kk [] = ys[kk] := by simp [List.getD_eq_getElem?_getD, List.getElem?_eq_getElem hlt]
    rw [e]
    exact List.getElem_mem hlt)
   have hf := HFD.out
   rw [hd, List.foldl_cons] at hf
   have HF2 := Aside0.mk hf
   have HFO := Aside0.mk hfo.2
   have hfln := hfo.1
   have HFR := Aside0.mk (Kd.R_drop hvf)
   clear hd hf HFD hfo hcell hcl hvf
   generalize ys.getD kk [] = f at HF2 HFO hfln HFR hfx
   have HLT := Aside0.mk hlt
   clear hlt
   have p1 : ((0 : Int) ≤ (kk : Int)) = True := eq_true (by omega)
   have q1 : ((kk : Int) < (ys.length : Int)) = True := eq_true (by have := HLT.out; omega)
   go_wp2
   go_loopw [7, 25] (fun v i wr => ∃ (n : Nat) (out2 : List (List Int)) (gg cap : Nat), n ≤ M ∧ i = .int .i64 (n : Int) ∧ v = .slice (some ⟨gg, 0, none⟩) out2.length cap ∧ Aside0 (((List.range M).drop n).foldl (spotI1 W H f) out2 = spotIF W H out f) ∧ Aside0 (out2.length ≤ kk * 36 + n ∧ ∀ a ∈ out2, a.length ≤ 1000) ∧ Aside0 (Kd.S (Kd.slice 2 kI) 38 wr w.heap.size (fun k => k < B1 ∨ N1 ≤ k) (.slice (some ⟨gg, 0, none⟩) out2.length cap) out2) ∧ Aside0 (Below w.heap.size w wr) ∧ Aside0 (Kd.R (Kd.slice 66 k66) 29 wr B1 (fun k => B1 ≤ k ∧ k < N1) (.slice (some ad) ys.length c1) ys) ∧ Aside0 (N1 ≤ wr.heap.size) ∧ Aside0 (Kd.R k66 66 wr B1 (fun k => B1 ≤ k ∧ k < N1) (.slice Af f.length cf) f)) (fun _ i _ => M - (intOf i).toNat)
   case atStart => exact ⟨0, out, _, _, Nat.zero_le _, rfl, rfl, ⟨by rw [HMD.out]; rfl⟩, ⟨by have := HLN.out.1; omega, HLN.out.2⟩, HO, HB, HYS, HN1, HFR⟩
   case round =>
    clear HO HB HLN HYS HN1 HFR hfx
    obtain ⟨n, out2, g2, cap2, hn, rfl, rfl, HFD, HLN, HO, HB, HYS, HN1, HFR⟩ := hrel
    by_cases hltn : n < M
    ·have HLTN := Aside0.mk hltn
     clear hltn
     obtain ⟨W2, rfl⟩ : ∃ W2 : World, W2 = wr := ⟨_, rfl⟩
     have HSP := Aside0.mk (litR W2 W2.heap.size 2 (Nat.le_refl _))
     have HBN := Aside0.mk (below_alloc (Below.refl W2.heap.size W2) (.cells #[] 2))
     obtain ⟨mp, hmp⟩ : ∃ mp, mp = f.map (torAt W H n) := ⟨_, rfl⟩
     have HMP := Aside0.mk hmp
     clear hmp
     have q2 : ((n : Int) < (M : Int)) = True := eq_true (by have := HLTN.out; omega)
     go_wp2
     go_loopw [11, 31] (fun v i wr3 => ∃ (jj : Nat), jj ≤ f.length ∧ i = .int .i64 (jj : Int) ∧ Aside0 (Kd.R kI 2 wr3 W2.heap.size (fun _ => True) v (mp.take jj)) ∧ Aside0 (Below W2.heap.size W2 wr3)) (fun _ i _ => f.length - (intOf i).toNat)
     case atStart => exact ⟨0, Nat.zero_le _, rfl, HSP, HBN⟩
     case round =>
      clear HSP HBN
      obtain ⟨jj, hj, rfl, HSP, HBN⟩ := hrel
      have hmpl : mp.length = f.length := by rw [HMP.out, List.length_map]
      obtain ⟨As, cs, e⟩ := Kd.R_slice HSP.out
      have hspl : (mp.take jj).length = jj := by rw [List.length_take]; omega
      rw [hspl] at e
      subst e
      by_cases hltj : jj < f.length
      ·obtain ⟨fd, e, h0, h1⟩ := at_T66 (Kd.C_below (Kd.R_reads' HFR.out).2.2 HBN.out) (jj : Int) (by omega) (by omega)
       subst e
       rw [Int.toNat_natCast] at h0 h1
       have htk : mp.take (jj + 1) = mp.take jj ++ [torAt W H n (rd_T66 f (jj : Int))] := by
        rw [List.take_succ_eq_append_getElem (by omega)]
        congr 2
        simp [HMP.out, rd_T66, List.getD_eq_getElem?_getD, List.getElem?_eq_getElem hltj]
       have hfc := HFO.out (rd_T66 f (jj : Int)) (by simp [rd_T66, List.getD_eq_getElem?_getD, List.getElem?_eq_getElem hltj])
       have HLTJ := Aside0.mk hltj
       clear hltj
       generalize rd_T66 f (jj : Int) = c at h0 h1 hfc htk
       have p3 : ((0 : Int) ≤ (jj : Int)) = True := eq_true (by omega)
       have q3 : ((jj : Int) < (f.length : Int)) = True := eq_true (by have := HLTJ.out; omega)
       unfold torAt at htk
       have hn36 : n ≤ 36 := by omega
       have htd : Int.tdiv (n : Int) (W : Int) = ((n / W : Nat) : Int) := rfl
       have htm : Int.tmod (n : Int) (W : Int) = ((n % W : Nat) : Int) := rfl
       have hd36 : n / W ≤ 36 := Nat.le_trans (Nat.div_le_self _ _) hn36
       have hm36 : n % W ≤ 36 := Nat.le_trans (Nat.mod_le _ _) hn36
       generalize n / W = qd at htk htd hd36
       generalize n % W = md at htk htm hm36
       have hM1 : impl_modOf.f (c.f1 + (qd : Int)) (H : Int) = some ((c.f1 + (qd : Int)) % (H : Int)) := by
        unfold impl_modOf.f
        rw [if_neg (by omega), mod_ok _ H hH.1 (by omega)]
       have hM0 : impl_modOf.f (c.f0 + (md : Int)) (W : Int) = some ((c.f0 + (md : Int)) % (W : Int)) := by
        unfold impl_modOf.f
        rw [if_neg (by omega), mod_ok _ W hW.1 (by omega)]
       have r1 := mod_rng (c.f1 + (qd : Int)) H hH.1
       have r0 := mod_rng (c.f0 + (md : Int)) W hW.1
       generalize (c.f1 + (qd : Int)) % (H : Int) = m1 at htk hM1 r1
       generalize (c.f0 + (md : Int)) % (W : Int) = m0 at htk hM0 r0
       have r2 := mul_rng m1 W r1.1 (by omega) hW.2
       obtain ⟨pw, hpw⟩ : ∃ pw, pw = m1 * (W : Int) := ⟨_, rfl⟩
       have hpw2 : IntKind.i64.wrap (m1 * (W : Int)) = pw := by
        rw [← hpw] at r2 ⊢
        exact (i64_w _).trans (by unfold wrap64; omega)
       rw [← hpw] at htk r2
       obtain ⟨x, hx⟩ : ∃ x, x = pw + m0 := ⟨_, rfl⟩
       rw [← hx] at htk
       have hx2 : IntKind.i64.wrap (pw + m0) = x := (i64_w _).trans (by rw [hx]; unfold wrap64; omega)
       have hs1 : IntKind.i64.wrap (c.f1 + (qd : Int)) = c.f1 + (qd : Int) := (i64_w _).trans (by unfold wrap64; omega)
       have hs0 : IntKind.i64.wrap (c.f0 + (md : Int)) = c.f0 + (md : Int) := (i64_w _).trans (by unfold wrap64; omega)
       have hq1 : IntKind.i64.wrap (qd : Int) = (qd : Int) := (i64_w _).trans (by unfold wrap64; omega)
       have hz : ((W : Int) == 0) = false := by simp; omega
       have hz2 : (W : Int) ≠ 0 := by omega
       have hz3 : (W = 0) = False := eq_false (by omega)
       have HTK := Aside0.mk htk
       have HM1 := Aside0.mk hM1
       have HM0 := Aside0.mk hM0
       have HLIT : Aside0 (((wr.alloc (.cells #[.int .i64 c.f0, .int .i64 c.f1] 66)).alloc (.cells #[.int .i64 x] 2)).heap[wr.heap.size + 1]? = some (.cells #[.int .i64 x] 2 (0, 0))) := ⟨by
        have h := heap_alloc_new (wr.alloc (.cells #[.int .i64 c.f0, .int .i64 c.f1] 66)) (.cells #[.int .i64 x] 2 (0, 0))
        rwa [show (wr.alloc (.cells #[.int .i64 c.f0, .int .i64 c.f1] 66)).heap.size = wr.heap.size + 1 by simp] at h⟩
       have HSPA := Aside0.mk (Kd.R_alloc (Kd.R_alloc HSP.out (.cells #[.int .i64 c.f0, .int .i64 c.f1] 66)) (.cells #[.int .i64 x] 2))
       have HBNA := Aside0.mk (below_alloc (below_alloc HBN.out (.cells #[.int .i64 c.f0, .int .i64 c.f1] 66)) (.cells #[.int .i64 x] 2))
       have HSPL := Aside0.mk hspl
       have hjb : jj ≤ 1000 := by have := HLTJ.out; omega
       clear htk hpw hx hM1 hM0 r0 r1 r2 hspl hmpl
       go_upto_region 12 with (fail)
       go_region_law (first
        | (refine goes_ Tryz.func49 (by kernel_rfl) rfl #[.int .i64 (c.f1 + (qd : Int)), .int .i64 (H : Int)] (by rfl) rfl rfl (by (try simp only [List.map_toArray, List.map_cons, List.map_nil]); rfl) ?_; (with_reducible refine (impl_modOf.calls _ _ m1 _ HM1.out).mono ?_); rintro e w5 ⟨rfl, n5, rfl⟩; refine ⟨_, rfl, ?_⟩)
        | (refine goes_ Tryz.func49 (by kernel_rfl) rfl #[.int .i64 (c.f0 + (md : Int)), .int .i64 (W : Int)] (by rfl) rfl rfl (by (try simp only [List.map_toArray, List.map_cons, List.map_nil]); rfl) ?_; (with_reducible refine (impl_modOf.calls _ _ m0 _ HM0.out).mono ?_); rintro e w5 ⟨rfl, n5, rfl⟩; refine ⟨_, rfl, ?_⟩)
        | (refine Kd.R_append_rows_step kI (w0 := W2) W2.heap.size (by simp [Region.wanted]) (.tmp 35) (.tmp 55) 38 2 (.int .i64 0) 8 rfl Tryz.underlying38 info2 rfl (by decide) (by omega) _ (mp.take jj) [x] _ _ _ (fun _ => True) (fun _ => False) rfl rfl ?aO ?aR kmI (fun _ h => h.elim) ?aF ?aB ?aS ?aL ?_; (case aO => exact (by repeat (first | exact HSP.out | apply Kd.R_alloc | apply Kd.R_drew | apply Kd.R_drewN))); (case aR => exact litC HLIT.out); (case aB => exact (by repeat (first | exact HBN.out | apply below_alloc | apply below_dr | apply pw_below_drewN))); (case aF => exact fun _ _ => trivial); (case aS => exact HBNA.out.size); (case aL => rw [HSPL.out]; omega); intro v7 w7 ho7 hb7 hg7 hat7))
       all_goals (
        have HSP7 := Aside0.mk ho7
        have HBN7 := Aside0.mk hb7
        clear ho7 hb7 hg7 hat7 h0 h1 hfc htd htm hs1 hs0 hpw2 hx2 hq1
        go_wp2
        go_roundw
        case rel => exact ⟨jj + 1, by have := HLTJ.out; omega, by go_num, ⟨by rw [HTK.out]; exact HSP7.out⟩, HBN7⟩
        case measure => have := HLTJ.out; simp [intOf]; omega)
      ·have hje : jj = f.length := by omega
       have HS0 : Aside0 (Kd.R kI 2 wr W2.heap.size (fun _ => True) (.slice As jj cs) mp) := ⟨by
        have h := HSP.out
        rwa [List.take_of_length_le (by omega)] at h⟩
       have hml : mp.length = jj := by omega
       have HML := Aside0.mk hml
       have hjb : jj ≤ 1000 := by omega
       have hdr : (List.range M).drop n = n :: (List.range M).drop (n + 1) := by
        rw [List.drop_eq_getElem_cons (show n < (List.range M).length by rw [List.length_range]; exact HLTN.out)]
        simp
       have hfd := HFD.out
       rw [hdr, List.foldl_cons] at hfd
       have hs1 : spotI1 W H f out2 n = if okSp mp then out2 ++ [sortI mp] else out2 := by
        unfold spotI1
        rw [← HMP.out]
       rw [hs1] at hfd
       have HFD4 := Aside0.mk hfd
       have hsm : (sortI mp).length = jj := by rw [sortI_len]; exact hml
       have HSM := Aside0.mk hsm
       have hcl : slices_Clone_int64_int64.f (sortI mp) = some (sortI mp) := by unfold slices_Clone_int64_int64.f; rw [if_pos (by omega)]
       have HCL := Aside0.mk hcl
       have HJE := Aside0.mk hje
       clear hdr hfd hs1 HFD HSP hml hsm hcl hmpl hspl hje
       have HCLO := Aside0.mk (fun (V : World) (h : Kd.R kI 2 V W2.heap.size (fun _ => True) (.slice As jj cs) (sortI mp)) => (show Calls Tryz.prog 52 #[.slice As jj cs] V fun e w' => ∃ v_ : Value, e = .returned v_ ∧ Kd.R kI 2 w' V.heap.size (fun _ => True) v_ (sortI mp) ∧ Below V.heap.size V w' from by
        have h2 := slices_Clone_int64_int64.calls As cs (sortI mp) (sortI mp) V (Kd.R_reads' h).2.2 (by have := (Kd.R_reads' h).1; have := (Kd.R_reads' h).2.1; omega) HCL.out
        rwa [HSM.out] at h2))
       have hg2 := (Kd.S_R HO.out).1 g2 rfl
       have hg2l := Kd.S_lt HO.out g2 rfl
       have hg2b := Kd.S_base HO.out g2 rfl
       have HG2 := Aside0.mk hg2
       by_cases hok : okSp mp
       ·have hfd := HFD4.out
        rw [if_pos hok] at hfd
        have HFD5 := Aside0.mk hfd
        unfold okSp at hok
        rw [HML.out] at hok
        have hcmp : (((Lib.compact (sortI mp)).length : Int) == (jj : Int)) = true := by rw [hok]; simp
        have HOKM := Aside0.mk hok
        clear hfd HFD4 hok hg2
        go_wp2_with (first
         | (go_at_call 50; (with_reducible refine (sortI_own _ W2.heap.size (fun _ => True) _ mp HS0.out (by have := HML.out; omega)).mono ?_); rintro e w5 ⟨rfl, ho5, hg5⟩; have HS5 := Aside0.mk ho5; have HBN5 := Aside0.mk (HBN.out.grown hg5 HBN.out.size (Kd.R_base HS0.out)); clear ho5 hg5)
         | (go_at_call 52; (with_reducible refine (HCLO.out _ HS5.out).mono ?_); rintro e w6 ⟨v6, rfl, ho6, hb6⟩; have HV6 := Aside0.mk ho6; have HS6 := Aside0.mk (Kd.R_below (Kd.R_bound HS5.out) hb6); have HBN6 := Aside0.mk (below_step HBN5.out hb6); clear ho6 hb6)
         | (go_at_call 51; (with_reducible refine (cptI_own _ _ (fun _ => True) v6 (sortI mp) HV6.out (by have := HSM.out; omega)).mono ?_); rintro e w7 ⟨A7, c7, rfl, hg7⟩; have HS7 := Aside0.mk (Kd.R_grown HS6.out hg7 (fun k hk e => by have := Kd.R_base HV6.out k e.symm; have := hk.2.2.1; omega)); have HBN7 := Aside0.mk (HBN6.out.grown hg7 HBN6.out.size (fun k hk => Nat.le_trans HBN5.out.size (Kd.R_base HV6.out k hk))); clear hg7)
         | ((with_reducible refine gate_builtin (b := .append) (xs := #[.tmp 67, .tmp 69]) rfl ?_); at_builtin; refine Kd.S_append (Kd.slice 2 kI) (w0 := w) w.heap.size rfl (.tmp 67) (.tmp 69) 26 38 (.slice none 0 0) 24 rfl Tryz.underlying26 info38 rfl Nat.one_pos (by omega) _ out2 (sortI mp) [.slice As jj cs] (fun k => k < B1 ∨ N1 ≤ k) (fun k => W2.heap.size ≤ k) rfl rfl ?aP ?aK ?aF ?aO ?aB ?aS ?aL ?_; (case aP => exact Kd.M_row (Kd.R_lower (Kd.R_mono (Kd.R_bound HS7.out) (fun k hk => hk.2.1)) HB.out.size)); (case aK => exact fun k hk => ⟨Or.inr (Nat.le_trans HN1.out hk), fun e => by have h9 : k = g2 := Option.some.inj e; omega⟩); (case aF => exact fun k hk => Or.inr (Nat.le_trans HN1.out (Nat.le_trans HBN7.out.size hk))); (case aO => exact Kd.S_below (Kd.S_mono (Kd.S_bound HO.out) (fun k hk => ⟨hk.1, by have := hk.2.2.1; omega⟩)) HBN7.out); (case aB => exact below_step HB.out HBN7.out); (case aS => exact Nat.le_trans HB.out.size HBN7.out.size); (case aL => (have := HLN.out.1; omega)); intro v8 w8 ho8 hb8 hg8 hat8; obtain ⟨g8, cap8, e8, _⟩ := Kd.S_form ho8 (by simp); subst e8; have HO8 := Aside0.mk ho8; have HB8 := Aside0.mk hb8; have HYS8 := Aside0.mk (Kd.R_grown (Kd.R_below HYS.out HBN7.out) hg8 (fun k hk e => by have h9 : k = g2 := Option.some.inj e; have := HG2.out; omega)); have HFR8 := Aside0.mk (Kd.R_grown (Kd.R_below HFR.out HBN7.out) hg8 (fun k hk e => by have h9 : k = g2 := Option.some.inj e; have := HG2.out; omega)); have HN8 := Aside0.mk (Nat.le_trans HN1.out (Nat.le_trans HBN7.out.size hg8.size)); clear ho8 hb8 hg8 hat8))
        go_roundw
        case rel => exact ⟨n + 1, out2 ++ [sortI mp], g8, cap8, by have := HLTN.out; omega, by go_num, by rw [List.length_append, List.length_singleton], HFD5, ⟨by have := HLN.out.1; rw [List.length_append, List.length_singleton]; omega, fun a ha => by
         rcases List.mem_append.1 ha with h | h
         ·exact HLN.out.2 a h
         ·rw [List.mem_singleton.1 h, HSM.out]; exact hjb⟩, HO8, HB8, HYS8, HN8, HFR8⟩
        case measure => have := HLTN.out; simp [intOf]; omega
       ·have hfd := HFD4.out
        rw [if_neg hok] at hfd
        have HFD5 := Aside0.mk hfd
        unfold okSp at hok
        rw [HML.out] at hok
        have hcmp : (((Lib.compact (sortI mp)).length : Int) == (jj : Int)) = false := by simp; omega
        clear hfd HFD4 hok hg2
        go_wp2_with (first
         | (go_at_call 50; (with_reducible refine (sortI_own _ W2.heap.size (fun _ => True) _ mp HS0.out (by have := HML.out; omega)).mono ?_); rintro e w5 ⟨rfl, ho5, hg5⟩; have HS5 := Aside0.mk ho5; have HBN5 := Aside0.mk (HBN.out.grown hg5 HBN.out.size (Kd.R_base HS0.out)); clear ho5 hg5)
         | (go_at_call 52; (with_reducible refine (HCLO.out _ HS5.out).mono ?_); rintro e w6 ⟨v6, rfl, ho6, hb6⟩; have HV6 := Aside0.mk ho6; have HS6 := Aside0.mk (Kd.R_below (Kd.R_bound HS5.out) hb6); have HBN6 := Aside0.mk (below_step HBN5.out hb6); clear ho6 hb6)
         | (go_at_call 51; (with_reducible refine (cptI_own _ _ (fun _ => True) v6 (sortI mp) HV6.out (by have := HSM.out; omega)).mono ?_); rintro e w7 ⟨A7, c7, rfl, hg7⟩; have HS7 := Aside0.mk (Kd.R_grown HS6.out hg7 (fun k hk e => by have := Kd.R_base HV6.out k e.symm; have := hk.2.2.1; omega)); have HBN7 := Aside0.mk (HBN6.out.grown hg7 HBN6.out.size (fun k hk => Nat.le_trans HBN5.out.size (Kd.R_base HV6.out k hk))); clear hg7))
        go_roundw
        case rel => exact ⟨n + 1, out2, g2, cap2, by have := HLTN.out; omega, by go_num, rfl, HFD5, ⟨by have := HLN.out.1; omega, HLN.out.2⟩, ⟨Kd.S_below HO.out HBN7.out⟩, ⟨below_step HB.out HBN7.out⟩, ⟨Kd.R_below HYS.out HBN7.out⟩, ⟨Nat.le_trans HN1.out HBN7.out.size⟩, ⟨Kd.R_below HFR.out HBN7.out⟩⟩
        case measure => have := HLTN.out; simp [intOf]; omega
    ·have hne : n = M := by omega
     have hf := HFD.out
     rw [List.drop_of_length_le (by simp; omega), List.foldl_nil] at hf
     have hh := HF2.out
     rw [← hf] at hh
     have HF3 := Aside0.mk hh
     clear hf hh HFD HF2
     go_wp2
     go_roundw
     case rel => exact ⟨kk + 1, out2, g2, cap2, by have := HLT.out; omega, by go_num, rfl, HF3, ⟨by have := HLN.out.1; omega, HLN.out.2⟩, HO, HB, HYS, HN1⟩
     case measure => have := HLT.out; simp [intOf]; omega
  ·have hka : kk = ys.length := by omega
   have hf := HFD.out
   rw [hka, List.drop_length, List.foldl_nil] at hf
   obtain ⟨enc, h1, f, hsl, hnz, hR, hrow⟩ := S_downI HO.out
   have hread := hreadI hnz hrow
   have hxl : ∀ i, (out.getD i []).length ≤ 1000000 := by
    intro i
    by_cases hi : i < out.length
    ·have e : out.getD i [] = out[i] := by simp [List.getD_eq_getElem?_getD, List.getElem?_eq_getElem hi]
     rw [e]
     have := HLN.out.2 _ (List.getElem_mem hi)
     omega
    ·rw [List.getD_eq_getElem?_getD, List.getElem?_eq_none (by omega)]
     simp
   have hol : out.length ≤ 1000 * 36 := by have := HLN.out.1; omega
   have hsort := sortR_own out hxl wr w.heap.size gg cap _ hR hread (by omega)
   have hcpt := fun (w5 : World) (d : List Nat) (hdl : d.length = out.length) (hG5 : wr.grownBy w5 (some gg)) (h5 : Kd.R (Kd.scalar enc h1) 38 w5 w.heap.size (fun k => k < B1 ∨ N1 ≤ k) (.slice (some ⟨gg, 0, none⟩) out.length cap) d) => (show _ from by
    rw [← hdl] at h5
    have h := compactI (fun i j => decide (out.getD i [] = out.getD j [])) out.length (hnz _ (Nat.le_refl _)) hsl w5 w.heap.size gg cap (fun k => k < B1 ∨ N1 ≤ k) d h5 (by rw [hdl]; omega) (fun W' i j hW' => by
     obtain ⟨A, ca, ea, la, ra⟩ := hread W' (grown_X hG5 hW') i
     obtain ⟨B, cb, eb, lb, rb⟩ := hread W' (grown_X hG5 hW') j
     rw [ea, eb]
     exact spots2_eq _ _ A B ca cb W' ra rb la lb (hxl i))
    rw [hdl] at h
    exact h)
   have HSORT := Aside0.mk hsort
   have HCPT := Aside0.mk hcpt
   have HROW := Aside0.mk hrow
   have HFE := Aside0.mk hf
   have hgb := Kd.S_base HO.out gg rfl
   clear hsort hcpt hrow hf hread hxl hR hsl hnz hka HFD
   go_wp2_with (first
    | (go_at_call 53; (with_reducible refine HSORT.out.mono ?_); rintro e w5 ⟨rfl, d, hdl, hdp, hds, h5, hG5⟩; have HDL := Aside0.mk hdl; have HDP := Aside0.mk hdp; have HDS := Aside0.mk hds; have H5 := Aside0.mk h5; have HG5 := Aside0.mk hG5; clear hdl hdp hds h5 hG5)
    | (go_at_call 56; (with_reducible refine (HCPT.out w5 d HDL.out HG5.out H5.out).mono ?_); rintro e w6 ⟨v6, rfl, h6, hv6, hG6⟩; have H6 := Aside0.mk h6; have HV6 := Aside0.mk hv6; have HG6 := Aside0.mk (grown_X HG5.out hG6); clear h6 hv6 hG6))
   go_ret
   have hsub : (cmpH (fun i j => decide (out.getD i [] = out.getD j [])) d out.length).Sublist d := by
    have h := cmpH_sub (fun i j => decide (out.getD i [] = out.getD j [])) d out.length (by rw [HDL.out]; exact Nat.le_refl _)
    rwa [List.take_of_length_le (by rw [HDL.out]; exact Nat.le_refl _)] at h
   have hnd : (cmpH (fun i j => decide (out.getD i [] = out.getD j [])) d out.length).Nodup := hsub.nodup (HDP.out.nodup_iff.2 List.nodup_range)
   have hE : ∀ i j, decide (out.getD i [] = out.getD j []) = true ↔ out.getD i [] = out.getD j [] := fun i j => decide_eq_true_iff
   have h6 := H6.out
   rw [← HDL.out] at h6
   rw [← HDL.out] at hsub hnd
   have hS := S_upI (f := f) (rows := fun i => out.getD i []) hnd h6 (fun i hi => by
    have hir := List.mem_range.1 (HDP.out.mem_iff.1 (hsub.subset hi))
    have h7 := Kd.R_step (w1 := w6) (HROW.out i hir) (fun k hk hlt => HG6.out.block k hlt (fun e => hk.1.2 (by rw [e]; rfl)))
    exact Kd.R_mono h7 (fun k hk => ⟨⟨hk.1.1, fun e => hk.1.2 (by rw [e, HV6.out]; rfl)⟩, hk.2⟩))
   have hst := cmpH_strict (x := fun i => out.getD i []) (E := fun i j => decide (out.getD i [] = out.getD j [])) hE d (fun i j hij hj => HDS.out i j hij hj) d.length (Nat.le_refl _)
   have hme : (cmpH (fun i j => decide (out.getD i [] = out.getD j [])) d d.length).map (fun i => out.getD i []) = R := by
    refine strict_ext _ _ (List.pairwise_map.2 hst) HRP.out fun a => ?_
    have h1 := cmpH_memI (x := fun i => out.getD i []) (E := fun i j => decide (out.getD i [] = out.getD j [])) hE d d.length (Nat.le_refl _) a
    rw [h1, List.take_of_length_le (Nat.le_refl _), (HDP.out.map fun i => out.getD i []).mem_iff, range_mapI, HFE.out]
    unfold spotsI
    rw [spotsI_mem, HRM.out]
    constructor
    ·rintro (h | ⟨g, hg, h⟩)
     ·cases h
     ·exact ⟨g, (HM1.out g).1 hg, h⟩
    ·rintro ⟨g, hg, h⟩
     exact Or.inr ⟨g, (HM1.out g).2 hg, h⟩
   rw [hme] at hS
   exact ⟨_, rfl, Kd.S_mono hS (fun _ _ => trivial), HB.out.grown HG6.out HB.out.size (fun k hk => by cases hk; exact hgb)⟩
end Go.Proofs.YtbphiipcnjelbaaGreat.Q

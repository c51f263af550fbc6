/- Written by a program of this session (wip/tools/pp.py) out of the translation, with the kit's printer. -/
import Derived.Test.YtbphiipcnjelbaaGreatQ0
import Derived.Test.YtbphiipcnjelbaaGreatQ5
import Derived.Test.YtbphiipcnjelbaaGreatQ6
import Derived.Test.YtbphiipcnjelbaaGreatQGspecl18Add
import Derived.Test.YtbphiipcnjelbaaGreatQGspecl12Sorted
import Derived.LoopTactic
import Derived.Deep.QuietTactic
namespace Go.Proofs.YtbphiipcnjelbaaGreat.Q
open Go.RowKit Go.Proofs.YtbphiipcnjelbaaGreatW.PrintWords Go.Proofs.YtbphiipcnjelbaaGreatW.PrintLast Go.Proofs.YtbphiipcnjelbaaGreatW.PrintMore
attribute [local go_sem] max2_int min2_int max_two min_two max_three min_three max_four min_four
set_option linter.unusedVariables false
set_option linter.unusedSimpArgs false
def torAt (W H n : Nat) (c : S66) : Int := (c.f1 + ((n / W : Nat) : Int)) % (H : Int) * (W : Int) + (c.f0 + ((n % W : Nat) : Int)) % (W : Int)
def dstep (a : List Int) (x : Int) : List Int := if x ∈ a then a else a ++ [x]
def dd (l : List Int) : List Int := l.foldl dstep []
def spotS1 (W H : Nat) (f : List S66) (out : List (List Int)) (n : Nat) : List (List Int) := if (dd (f.map (torAt W H n))).length = f.length then addL (srtI (dd (f.map (torAt W H n)))) out else out
def spotSF (W H : Nat) (out : List (List Int)) (f : List S66) : List (List Int) := (List.range (W * H)).foldl (spotS1 W H f) out
def spotsS (W H : Nat) (fs : List (List S66)) : List (List Int) := fs.foldl (spotSF W H) []
theorem dstep_len (a : List Int) (x : Int) : a.length ≤ (dstep a x).length ∧ (dstep a x).length ≤ a.length + 1 := by
 unfold dstep
 split
 ·omega
 ·rw [List.length_append, List.length_singleton]; omega
theorem dfold_len : ∀ (l a : List Int), (l.foldl dstep a).length ≤ a.length + l.length
 | [], a => Nat.le_refl _
 | x :: r, a => by
  rw [List.foldl_cons, List.length_cons]
  have h1 := dfold_len r (dstep a x)
  have h2 := (dstep_len a x).2
  omega
theorem srtI_len (l : List Int) : (srtI l).length = l.length := by
 have gen : ∀ (l a : List Int), (l.foldl (fun a x => insI x a) a).length = a.length + l.length := by
  intro l
  induction l with
  | nil => intro a; rfl
  | cons x r ih =>
   intro a
   rw [List.foldl_cons, ih, insI_len, List.length_cons]
   omega
 have := gen l []
 unfold srtI
 simpa using this
theorem addL_mem {x a : List Int} : ∀ {l : List (List Int)}, a ∈ addL x l → a = x ∨ a ∈ l
 | [], h => by simpa [addL] using h
 | y :: r, h => by
  unfold addL at h
  split at h
  ·rcases List.mem_cons.1 h with h | h
   ·exact Or.inr (h ▸ List.mem_cons_self)
   ·rcases addL_mem h with h | h
    ·exact Or.inl h
    ·exact Or.inr (List.mem_cons_of_mem _ h)
  ·split at h
   ·exact Or.inr h
   ·rcases List.mem_cons.1 h with h | h
    ·exact Or.inl h
    ·exact Or.inr h
theorem mod_ok (a : Int) (m : Nat) (hm : 1 ≤ m) (hb : m ≤ 1000) : Int.tmod (wrap64 (Int.tmod a m + m)) (m : Int) = a % (m : Int) := by
 have h1 := Int.tmod_lt_of_pos a (show (0 : Int) < (m : Int) by omega)
 have h2 := Int.lt_tmod_of_pos a (show (0 : Int) < (m : Int) by omega)
 have h0 : wrap64 (Int.tmod a m + m) = Int.tmod a m + m := by unfold wrap64; omega
 rw [h0, Int.tmod_eq_emod_of_nonneg (by omega)]
 have h3 := Int.mul_tdiv_add_tmod a m
 have h4 : Int.tmod a m + m = a + m * (1 - Int.tdiv a m) := by rw [Int.mul_sub, Int.mul_one]; omega
 rw [h4, Int.add_mul_emod_self_left]
theorem mod_rng (a : Int) (m : Nat) (hm : 1 ≤ m) : 0 ≤ a % (m : Int) ∧ a % (m : Int) < m := ⟨Int.emod_nonneg _ (by omega), Int.emod_lt_of_pos _ (by omega)⟩
theorem mul_rng (a : Int) (m : Nat) (h0 : 0 ≤ a) (h1 : a < 6) (hm : m ≤ 6) : 0 ≤ a * (m : Int) ∧ a * (m : Int) ≤ 30 := by
 have h2 : a * (m : Int) ≤ 5 * (m : Int) := Int.mul_le_mul_of_nonneg_right (by omega) (by omega)
 exact ⟨Int.mul_nonneg h0 (by omega), by omega⟩
theorem has_run (l : List Int) (a : Int) (hl : l.length ≤ 1000000) : ∀ (d i : Nat), i + d = l.length → spec_l01Has.l0 (d + 1) l a (i : Int) = some (decide (a ∈ l.drop i))
 | 0, i, h => by
  unfold spec_l01Has.l0
  rw [if_neg (by omega), List.drop_of_length_le (by omega)]
  simp
 | d + 1, i, h => by
  have hi : i < l.length := by omega
  have e : rd l (i : Int) = l[i] := by simp [rd, List.getD_eq_getElem?_getD, List.getElem?_eq_getElem hi]
  unfold spec_l01Has.l0
  rw [if_pos (by omega), if_pos (by omega), List.drop_eq_getElem_cons hi, e]
  by_cases h2 : l[i] = a
  ·rw [if_pos h2, h2]
   simp
  ·rw [if_neg h2, show wrap64 ((i : Int) + 1) = ((i + 1 : Nat) : Int) by unfold wrap64; omega, has_run l a hl d (i + 1) (by omega)]
   congr 1
   apply decide_eq_decide.2
   rw [List.mem_cons]
   constructor
   ·exact Or.inr
   ·rintro (h3 | h3)
    ·exact absurd h3.symm h2
    ·exact h3
theorem has_f (l : List Int) (a : Int) (hl : l.length ≤ 1000000) : spec_l01Has.f (l.length + 1) l a = some (decide (a ∈ l)) := by
 unfold spec_l01Has.f
 have h := has_run l a hl l.length 0 (by omega)
 rwa [List.drop_zero] at h
def frmsOk (fs : List (List S66)) : Prop := fs.length ≤ 1000 ∧ ∀ f ∈ fs, f.length ≤ 1000 ∧ ∀ c ∈ f, (-1000000 ≤ c.f0 ∧ c.f0 ≤ 1000000) ∧ -1000000 ≤ c.f1 ∧ c.f1 ≤ 1000000
set_option maxRecDepth 100000 in
set_option maxHeartbeats 4000000 in
theorem spec_l25Spots.own (k : Nat) (A0 : Option Addr) (c0 : Nat) (l0 : List S66) (a1 : Int) (a2 : Bool) (W H : Nat) (fs : List (List S66)) (w : World) (hr0 : Kd.C k66 w A0 l0.length l0) (hc0 : l0.length ≤ c0) (hf : spec_l11Forms.f k l0 a1 a2 = some fs) (hok : frmsOk fs) (hW : 1 ≤ W ∧ W ≤ 6) (hH : 1 ≤ H ∧ H ≤ 6) :
  Calls Tryz.prog 26 #[.agg #[.slice A0 l0.length c0, .int .i64 a1, .bool a2], .int .i64 (W : Int), .int .i64 (H : Int)] w fun e w' => ∃ v', e = .returned v' ∧ Kd.R (Kd.slice 2 kI) 38 w' w.heap.size (fun _ => True) v' (spotsS W H fs) ∧ Below w.heap.size w w' := by
 have hu1 := Tryz.underlying31
 have hu2 := Tryz.underlying66
 have HR := Aside0.mk hr0
 have HF := Aside0.mk hf
 have HOK := Aside0.mk hok.2
 have hfl := hok.1
 clear hr0 hf hok
 obtain ⟨M, hM⟩ : ∃ M, M = W * H := ⟨_, rfl⟩
 have hmle : M ≤ 36 := by rw [hM]; exact Nat.mul_le_mul hW.2 hH.2
 have hmul : IntKind.i64.wrap ((W : Int) * (H : Int)) = (M : Int) := by
  refine (i64_w _).trans ?_
  rw [show ((W : Int) * (H : Int)) = (M : Int) by rw [hM]; simp]
  unfold wrap64
  omega
 have HMD := Aside0.mk hM
 clear hM
 have HB0 := Aside0.mk (below_alloc (Below.refl w.heap.size w) (.cells #[.slice A0 l0.length c0, .int .i64 a1, .bool a2] 31))
 go_enter Tryz.func26, Tryz.ntmps26
 go_wp2_with (go_at_call 41; (with_reducible refine (spec_l11Forms.calls k A0 c0 l0 a1 a2 fs _ (Kd.C_below HR.out (below_alloc HB0.out _)) hc0 HF.out).mono ?_); rintro e w1 ⟨v1, rfl, ho1, hb1⟩; obtain ⟨A1, c1, e1⟩ := Kd.V_slice ho1; subst e1; have HO1 := Aside0.mk (Kd.V_reads' ho1).2.2; have HB1 := Aside0.mk hb1; clear ho1 hb1)
 have hnil : Kd.R (Kd.slice 2 kI) 38 w1 w.heap.size (fun _ => True) (.slice (some ⟨w.heap.size + 1, 0, none⟩) 0 0) [] := by
  have h := R_upI (rows := fun _ => []) (litS (enc := fun _ => .slice none 0 0) (h1 := fun _ => rfl) (w.alloc (.cells #[.slice A0 l0.length c0, .int .i64 a1, .bool a2] 31)) w.heap.size (g := w.heap.size + 1) (by simp) HB0.out.size) (fun i hi => by cases hi)
  exact Kd.R_below h HB1.out
 have HNIL := Aside0.mk hnil
 have HBW := Aside0.mk (below_step (below_alloc HB0.out (.cells #[] 38)) HB1.out)
 clear hnil HB1 HF HB0
 go_wp2
 go_loopw [7, 9] (fun v i wr => ∃ (kk : Nat) (out : List (List Int)), kk ≤ fs.length ∧ i = .int .i64 (kk : Int) ∧ Aside0 ((fs.drop kk).foldl (spotSF W H) out = spotsS W H fs) ∧ Aside0 (out.length ≤ kk * 36 ∧ ∀ a ∈ out, a.length ≤ 1000) ∧ Aside0 (Kd.R (Kd.slice 2 kI) 38 wr w.heap.size (fun _ => True) v out) ∧ Aside0 (Below w1.heap.size w1 wr)) (fun _ i _ => fs.length - (intOf i).toNat)
 case atStart => exact ⟨0, [], Nat.zero_le _, rfl, ⟨rfl⟩, ⟨by simp, by simp⟩, HNIL, ⟨Below.refl _ _⟩⟩
 case round =>
  clear HNIL
  obtain ⟨kk, out, hk, rfl, HFD, HLN, HO, HB⟩ := hrel
  by_cases hlt : kk < fs.length
  ·obtain ⟨ad, cs, e, hsz, ⟨Af, cf, rfl, hcf, hCf⟩, hcell⟩ := ReadsRow.get_ HO1.out ([] : List S66) (kk : Int) (by omega) (by omega)
   subst e
   rw [Int.toNat_natCast] at hcell hcf hCf
   have hfx := hcell 0 _ rfl
   rw [show kk * (Kd.slice 66 k66).sz + 0 = kk by show kk * 1 + 0 = kk; omega] at hfx
   have hd : fs.drop kk = fs.getD kk [] :: fs.drop (kk + 1) := by
    rw [List.drop_eq_getElem_cons hlt]
    simp [List.getD_eq_getElem?_getD, List.getElem?_eq_getElem hlt]
   have hfo := HOK.out (fs.getD kk []) (by
    have e : fs.getD kk [] = fs[kk] := by simp [List.getD_eq_getElem?_getD, List.getElem?_eq_getElem hlt]
    rw [e]
    exact List.getElem_mem hlt)
   have hf := HFD.out
   rw [hd, List.foldl_cons] at hf
   have HF2 := Aside0.mk hf
   have HFO := Aside0.mk hfo.2
   have hfln := hfo.1
   have HCF := Aside0.mk hCf
   have HFX := Aside0.mk hfx
   have HCC := Aside0.mk hcf
   clear hd hf HFD hfo hcell hcf hCf hsz hfx
   generalize fs.getD kk [] = f at HF2 HFO hfln HCF HFX HCC
   have HLT := Aside0.mk hlt
   clear hlt
   have p1 : ((0 : Int) ≤ (kk : Int)) = True := eq_true (by omega)
   have q1 : ((kk : Int) < (fs.length : Int)) = True := eq_true (by have := HLT.out; omega)
   go_wp2
   go_loopw [7, 10] (fun v i wr => ∃ (n : Nat) (out2 : List (List Int)), n ≤ M ∧ i = .int .i64 (n : Int) ∧ Aside0 (((List.range M).drop n).foldl (spotS1 W H f) out2 = spotSF W H out f) ∧ Aside0 (out2.length ≤ kk * 36 + n ∧ ∀ a ∈ out2, a.length ≤ 1000) ∧ Aside0 (Kd.R (Kd.slice 2 kI) 38 wr w.heap.size (fun _ => True) v out2) ∧ Aside0 (Below w1.heap.size w1 wr)) (fun _ i _ => M - (intOf i).toNat)
   case atStart => exact ⟨0, out, Nat.zero_le _, rfl, ⟨by rw [HMD.out]; rfl⟩, ⟨by have := HLN.out.1; omega, HLN.out.2⟩, HO, HB⟩
   case round =>
    clear HO HB HLN
    obtain ⟨n, out2, hn, rfl, HFD, HLN, HO, HB⟩ := hrel
    by_cases hltn : n < M
    ·have HLTN := Aside0.mk hltn
     have HLNS := Aside0.mk (fun a ha => Nat.le_trans (HLN.out.2 a ha) (by omega) : ∀ a ∈ out2, a.length ≤ 1000000)
     clear hltn
     obtain ⟨W2, rfl⟩ : ∃ W2 : World, W2 = wr := ⟨_, rfl⟩
     have hsp : Kd.R kI 2 (W2.alloc (.cells #[] 2)) W2.heap.size (fun _ => True) (.slice (some ⟨W2.heap.size, 0, none⟩) 0 0) [] := litR W2 W2.heap.size 2 (Nat.le_refl _)
     have HSP := Aside0.mk hsp
     have HBN := Aside0.mk (below_alloc (Below.refl W2.heap.size W2) (.cells #[] 2))
     obtain ⟨mp, hmp⟩ : ∃ mp, mp = f.map (torAt W H n) := ⟨_, rfl⟩
     have HMP := Aside0.mk hmp
     clear hsp hmp
     have q2 : ((n : Int) < (M : Int)) = True := eq_true (by have := HLTN.out; omega)
     go_wp2
     go_loopw [11, 12] (fun v i wr3 => ∃ (jj : Nat) (sp : List Int), jj ≤ f.length ∧ i = .int .i64 (jj : Int) ∧ Aside0 ((mp.drop jj).foldl dstep sp = dd mp) ∧ Aside0 (sp.length ≤ jj) ∧ Aside0 (Kd.R kI 2 wr3 W2.heap.size (fun _ => True) v sp) ∧ Aside0 (Below W2.heap.size W2 wr3)) (fun _ i _ => f.length - (intOf i).toNat)
     case atStart => exact ⟨0, [], Nat.zero_le _, rfl, ⟨rfl⟩, ⟨Nat.le_refl _⟩, HSP, HBN⟩
     case round =>
      clear HSP HBN
      obtain ⟨jj, sp, hj, rfl, HFD3, HLN3, HSP, HBN⟩ := hrel
      obtain ⟨As, cs, e⟩ := Kd.R_slice HSP.out
      subst e
      have HB3 := Aside0.mk (below_step HB.out HBN.out)
      have hfx := pc HB3.out HFX.out
      by_cases hltj : jj < f.length
      ·obtain ⟨fd, e, h0, h1⟩ := at_T66 (Kd.C_below HCF.out HB3.out) (jj : Int) (by omega) (by omega)
       subst e
       rw [Int.toNat_natCast] at h0 h1
       have hml : jj < mp.length := by rw [HMP.out, List.length_map]; exact hltj
       have hd : mp.drop jj = torAt W H n (rd_T66 f (jj : Int)) :: mp.drop (jj + 1) := by
        rw [List.drop_eq_getElem_cons hml]
        congr 1
        simp [HMP.out, rd_T66, List.getD_eq_getElem?_getD, List.getElem?_eq_getElem hltj]
       have hfc := HFO.out (rd_T66 f (jj : Int)) (by simp [rd_T66, List.getD_eq_getElem?_getD, List.getElem?_eq_getElem hltj])
       have hf := HFD3.out
       rw [hd, List.foldl_cons] at hf
       have HF3 := Aside0.mk hf
       have HLTJ := Aside0.mk hltj
       clear hd hf HFD3 hml hltj
       generalize rd_T66 f (jj : Int) = c at h0 h1 hfc HF3
       have p3 : ((0 : Int) ≤ (jj : Int)) = True := eq_true (by omega)
       have q3 : ((jj : Int) < (f.length : Int)) = True := eq_true (by have := HLTJ.out; omega)
       have ht := HF3.out
       unfold torAt at ht
       have hn36 : n ≤ 36 := by omega
       have htd : Int.tdiv (n : Int) (W : Int) = ((n / W : Nat) : Int) := rfl
       have htm : Int.tmod (n : Int) (W : Int) = ((n % W : Nat) : Int) := rfl
       have hd36 : n / W ≤ 36 := Nat.le_trans (Nat.div_le_self _ _) hn36
       have hm36 : n % W ≤ 36 := Nat.le_trans (Nat.mod_le _ _) hn36
       generalize n / W = qd at ht htd hd36
       generalize n % W = md at ht htm hm36
       have hM1 : spec_l01Mod.f (c.f1 + (qd : Int)) (H : Int) = some ((c.f1 + (qd : Int)) % (H : Int)) := by
        unfold spec_l01Mod.f
        rw [if_neg (by omega), mod_ok _ H hH.1 (by omega)]
       have hM0 : spec_l01Mod.f (c.f0 + (md : Int)) (W : Int) = some ((c.f0 + (md : Int)) % (W : Int)) := by
        unfold spec_l01Mod.f
        rw [if_neg (by omega), mod_ok _ W hW.1 (by omega)]
       have r1 := mod_rng (c.f1 + (qd : Int)) H hH.1
       have r0 := mod_rng (c.f0 + (md : Int)) W hW.1
       generalize (c.f1 + (qd : Int)) % (H : Int) = m1 at ht hM1 r1
       generalize (c.f0 + (md : Int)) % (W : Int) = m0 at ht hM0 r0
       have r2 := mul_rng m1 W r1.1 (by omega) hW.2
       obtain ⟨pw, hpw⟩ : ∃ pw, pw = m1 * (W : Int) := ⟨_, rfl⟩
       have hpw2 : IntKind.i64.wrap (m1 * (W : Int)) = pw := by
        rw [← hpw] at r2 ⊢
        exact (i64_w _).trans (by unfold wrap64; omega)
       rw [← hpw] at ht r2
       obtain ⟨x, hx⟩ : ∃ x, x = pw + m0 := ⟨_, rfl⟩
       rw [← hx] at ht
       have hx2 : IntKind.i64.wrap (pw + m0) = x := (i64_w _).trans (by rw [hx]; unfold wrap64; omega)
       have hs1 : IntKind.i64.wrap (c.f1 + (qd : Int)) = c.f1 + (qd : Int) := (i64_w _).trans (by unfold wrap64; omega)
       have hs0 : IntKind.i64.wrap (c.f0 + (md : Int)) = c.f0 + (md : Int) := (i64_w _).trans (by unfold wrap64; omega)
       have hq1 : IntKind.i64.wrap (qd : Int) = (qd : Int) := (i64_w _).trans (by unfold wrap64; omega)
       have hz : ((W : Int) == 0) = false := by simp; omega
       have hz2 : (W : Int) ≠ 0 := by omega
       have hz3 : (W = 0) = False := eq_false (by omega)
       have HTR := Aside0.mk ht
       have HM1 := Aside0.mk hM1
       have HM0 := Aside0.mk hM0
       clear ht hpw hx HF3 hM1 hM0 r0 r1 r2
       go_upto_region 14 with (fail)
       go_quiet (first
        | (go_at_call_of 42 (Value.int .i64 (c.f1 + (qd : Int))); exact Calls.quiet_of ((spec_l01Mod.calls _ _ m1 _ HM1.out).mono fun _ _ ⟨he, hd⟩ => ⟨he, by obtain ⟨n, rfl⟩ := hd; exact ⟨n, rfl⟩⟩))
        | (go_at_call_of 42 (Value.int .i64 (c.f0 + (md : Int))); exact Calls.quiet_of ((spec_l01Mod.calls _ _ m0 _ HM0.out).mono fun _ _ ⟨he, hd⟩ => ⟨he, by obtain ⟨n, rfl⟩ := hd; exact ⟨n, rfl⟩⟩)))
       have HSP5 := Aside0.mk (fun m : Nat => Kd.R_drewN (Kd.R_alloc HSP.out (.cells #[.int .i64 c.f0, .int .i64 c.f1] 66)) m)
       have HBN5 := Aside0.mk (fun m : Nat => pw_below_drewN (below_alloc HBN.out (.cells #[.int .i64 c.f0, .int .i64 c.f1] 66)) m)
       have HHF := Aside0.mk (has_f sp x (by have := HLN3.out; omega))
       clear h0 h1 hfx HSP HBN htd htm hs1 hs0 hpw2 HM1 HM0 HB3 hfc
       by_cases hin : x ∈ sp
       ·rw [decide_eq_true hin] at HHF
        have ht := HTR.out
        rw [show dstep sp x = sp by unfold dstep; rw [if_pos hin]] at ht
        have HT2 := Aside0.mk ht
        clear ht HTR hin
        go_wp2_with (go_at_call 36; (with_reducible refine (spec_l01Has.calls _ _ _ sp x true _ (Kd.R_reads' (HSP5.out nq)).2.2 (Kd.R_reads' (HSP5.out nq)).2.1 HHF.out).mono ?_); rintro e w6 ⟨rfl, n6, rfl⟩)
        go_roundw
        case rel => exact ⟨jj + 1, sp, by have := HLTJ.out; omega, by go_num, HT2, ⟨by have := HLN3.out; omega⟩, ⟨HSP5.out _⟩, ⟨HBN5.out _⟩⟩
        case measure => have := HLTJ.out; simp [intOf]; omega
       ·rw [decide_eq_false hin] at HHF
        have ht := HTR.out
        rw [show dstep sp x = sp ++ [x] by unfold dstep; rw [if_neg hin]] at ht
        have HT2 := Aside0.mk ht
        clear ht HTR hin
        go_wp2_with (first
         | (go_at_call 36; (with_reducible refine (spec_l01Has.calls _ _ _ sp x false _ (Kd.R_reads' (HSP5.out nq)).2.2 (Kd.R_reads' (HSP5.out nq)).2.1 HHF.out).mono ?_); rintro e w6 ⟨rfl, hd6⟩; have HSP6 := Aside0.mk (Kd.R_below (HSP5.out nq) hd6.below); have HBN6 := Aside0.mk (below_step (HBN5.out nq) hd6.below); clear hd6)
         | (at_builtin; refine Kd.R_append kI (w0 := W2) W2.heap.size rfl (.tmp 71) (.tmp 73) 38 2 (.int .i64 0) 8 rfl Tryz.underlying38 info2 rfl (by decide) (by omega) _ sp x [.int .i64 x] (fun _ => True) (fun _ => False) rfl rfl ?aP (fun _ hk => hk.elim) ?aF ?aO ?aB ?aS ?aL ?_; (case aP => rfl); (case aF => exact fun _ _ => trivial); (case aO => exact HSP6.out); (case aB => exact HBN6.out); (case aS => exact HBN6.out.size); (case aL => (have := HLN3.out; omega)); intro v7 w7 ho7 hb7 hg7 hat7; have HSP7 := Aside0.mk ho7; have HBN7 := Aside0.mk hb7; clear ho7 hb7 hg7 hat7))
        go_roundw
        case rel => exact ⟨jj + 1, sp ++ [x], by have := HLTJ.out; omega, by go_num, HT2, ⟨by have := HLN3.out; rw [List.length_append, List.length_singleton]; omega⟩, HSP7, HBN7⟩
        case measure => have := HLTJ.out; simp [intOf]; omega
      ·have hje : jj = f.length := by omega
       have hf := HFD3.out
       rw [List.drop_of_length_le (by rw [HMP.out, List.length_map]; omega), List.foldl_nil] at hf
       have HSD := Aside0.mk hf
       have hdr : (List.range M).drop n = n :: (List.range M).drop (n + 1) := by
        rw [List.drop_eq_getElem_cons (show n < (List.range M).length by rw [List.length_range]; exact HLTN.out)]
        simp
       have hfd := HFD.out
       rw [hdr, List.foldl_cons] at hfd
       have hs1 : spotS1 W H f out2 n = if sp.length = f.length then addL (srtI sp) out2 else out2 := by
        unfold spotS1
        rw [← HMP.out, ← hf]
       rw [hs1] at hfd
       have HFD4 := Aside0.mk hfd
       have hspl : sp.length ≤ 1000 := by have := HLN3.out; omega
       clear hf hdr hfd hs1 HFD HFD3 HSD hje
       have q4 : (kk < fs.length) = True := eq_true HLT.out
       have HO3 := Aside0.mk (Kd.R_below HO.out HBN.out)
       clear HO
       by_cases hsl : sp.length = f.length
       ·have hfd := HFD4.out
        rw [if_pos hsl] at hfd
        have HFD5 := Aside0.mk hfd
        have hsl2 : ((sp.length : Int) == (f.length : Int)) = true := by rw [hsl]; simp
        have HSF := Aside0.mk (show spec_l12Sorted.f sp = some (srtI sp) by unfold spec_l12Sorted.f; rw [if_pos (by omega)])
        have HSLN := Aside0.mk hsl
        clear hfd HFD4 hsl
        go_wp2_with (first
         | (go_at_call 44; (with_reducible refine (spec_l12Sorted.calls _ _ sp (srtI sp) _ (Kd.R_reads' HSP.out).2.2 (Kd.R_reads' HSP.out).2.1 HSF.out).mono ?_); rintro e w6 ⟨v6, rfl, ho6, hb6⟩; have HO6 := Aside0.mk (Kd.R_lower (Kd.R_new' (u := u7) ho6 (Kd.R_lt HO3.out)) (Nat.le_trans HBW.out.size HB3.out.size)); have HOO6 := Aside0.mk (Kd.R_below HO3.out hb6); have HB6 := Aside0.mk (below_step HB3.out hb6); clear ho6 hb6)
         | (go_at_call 43; refine (spec_l18Add.own w.heap.size _ _ out2 (srtI sp) _ (Nat.le_trans HBW.out.size HB6.out.size) HOO6.out HO6.out (by have := HLN.out.1; omega) HLNS.out).mono ?_; rintro e w7 ⟨v7, rfl, ho7, hb7⟩; have HO7 := Aside0.mk ho7; have HB7 := Aside0.mk (below_step HB6.out hb7); clear ho7 hb7))
        go_roundw
        case rel => exact ⟨n + 1, addL (srtI sp) out2, by have := HLTN.out; omega, by go_num, HFD5, ⟨by have := HLN.out.1; have := addL_len (srtI sp) out2; omega, fun a ha => by
         rcases addL_mem ha with h | h
         ·rw [h, srtI_len]; exact hspl
         ·exact HLN.out.2 a h⟩, HO7, HB7⟩
        case measure => have := HLTN.out; simp [intOf]; omega
       ·have hfd := HFD4.out
        rw [if_neg hsl] at hfd
        have HFD5 := Aside0.mk hfd
        have hsl2 : ((sp.length : Int) == (f.length : Int)) = false := by simp; omega
        clear hfd HFD4 hsl
        go_wp2
        go_roundw
        case rel => exact ⟨n + 1, out2, by have := HLTN.out; omega, by go_num, HFD5, ⟨by have := HLN.out.1; omega, HLN.out.2⟩, HO3, HB3⟩
        case measure => have := HLTN.out; simp [intOf]; omega
    ·have hne : n = M := by omega
     have hf := HFD.out
     rw [List.drop_of_length_le (by simp; omega), List.foldl_nil] at hf
     have hh := HF2.out
     rw [← hf] at hh
     have HF3 := Aside0.mk hh
     clear hf hh HFD HF2
     go_wp2
     go_roundw
     case rel => exact ⟨kk + 1, out2, by have := HLT.out; omega, by go_num, HF3, ⟨by have := HLN.out.1; omega, HLN.out.2⟩, HO, HB⟩
     case measure => have := HLT.out; simp [intOf]; omega
  ·have hka : kk = fs.length := by omega
   have hf := HFD.out
   rw [hka, List.drop_length, List.foldl_nil] at hf
   have HF2 := Aside0.mk hf
   clear hf
   go_wp2
   go_ret
   exact ⟨_, rfl, by rw [← HF2.out]; exact HO.out, below_step HBW.out HB.out⟩
end Go.Proofs.YtbphiipcnjelbaaGreat.Q

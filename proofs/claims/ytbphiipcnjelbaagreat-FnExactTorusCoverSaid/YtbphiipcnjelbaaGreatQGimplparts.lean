/- Written by a program of this session (wip/tools/pp.py) out of the translation, with the kit's printer. -/
import Derived.Test.YtbphiipcnjelbaaGreatQ0
import Derived.Test.YtbphiipcnjelbaaGreatQ9
import Derived.LoopTactic
import Derived.Test.YtbphiipcnjelbaaGreatVMap
namespace Go.Proofs.YtbphiipcnjelbaaGreat.Q
open Go.RowKit Go.Proofs.YtbphiipcnjelbaaGreatW.PrintWords Go.Proofs.YtbphiipcnjelbaaGreatW.PrintLast Go.Proofs.YtbphiipcnjelbaaGreatW.PrintMore
attribute [local go_sem] max2_int min2_int max_two min_two max_three min_three max_four min_four
set_option linter.unusedVariables false
set_option linter.unusedSimpArgs false
def pcV (p : Int × Int) : Value := .agg #[.int .i64 p.1, .int .i64 p.2]
theorem pcV_inj (p q : Int × Int) (h : pcV p = pcV q) : p = q := by
 unfold pcV at h
 simp at h
 exact Prod.ext h.1 h.2
def prng (x : Int) : Bool := decide (-9223372036854775808 ≤ x) && decide (x ≤ 9223372036854775807)
theorem prng_wf {x : Int} (h : prng x = true) : (Lit.int .i64 x).wf = true := by
 show (decide ((-9223372036854775808 : Int) ≤ x) && decide (x ≤ (9223372036854775807 : Int))) = true
 exact h
theorem lawPC : Maps.Keyed Tryz.prog 66 := Maps.Keyed.of_law (deep_law_laid (by kernel_rfl : laidOutB Tryz.prog = true) (m := 2) (by omega) (of_decide_eq_true (by kernel_rfl)) (by kernel_rfl) (by kernel_rfl))
theorem pc_key {p : Int × Int} (h0 : prng p.1 = true) (h1 : prng p.2 = true) : KOk Tryz.prog 66 pcV p :=
 key_pair Tryz.underlying66 Tryz.underlying2 rfl rfl rfl rfl (by decide) (by decide) (by kernel_rfl) (by kernel_rfl) (by kernel_rfl) (of_decide_eq_true (by kernel_rfl)) (prng_wf h0) (prng_wf h1)
abbrev pvV (x : Int) : Value := .int .i64 x
def impl_parts.plc : Int → List S66 → List ((Int × Int) × Int) → List ((Int × Int) × Int)
 | _, [], L => L
 | i, c :: r, L => impl_parts.plc (i + 1) r (((c.f0, c.f1), i) :: L)
def impl_parts.stp (L : List ((Int × Int) × Int)) (i : Int) : List S66 → List Int → List Int → Option (List Int × List Int)
 | [], o, q => some (o, q)
 | d :: r, o, q => if (prng d.f0 && prng d.f1) = true then (match mget L (d.f0, d.f1) with
  | none => impl_parts.stp L i r o q
  | some k => if 0 ≤ k ∧ k < (o.length : Int) ∧ q.length < 1000000 then (if rd o k < 0 then impl_parts.stp L i r (o.set k.toNat i) (q ++ [k]) else impl_parts.stp L i r o q) else none) else none
def impl_parts.bfs (sh : List S66) (L : List ((Int × Int) × Int)) (i : Int) : Nat → List Int → List Int → Nat → Option (List Int)
 | 0, _, _, _ => none
 | k + 1, o, q, at_ => if at_ < q.length then (if 0 ≤ rd q at_ ∧ rd q at_ < (sh.length : Int) then
   (impl_around.f (rd_T66 sh (rd q at_)).f0 (rd_T66 sh (rd q at_)).f1).bind fun ds => (impl_parts.stp L i ds o q).bind fun p => impl_parts.bfs sh L i k p.1 p.2 (at_ + 1) else none) else some o
def impl_parts.outer (sh : List S66) (L : List ((Int × Int) × Int)) (k : Nat) : Nat → List Int → Option (List Int)
 | 0, o => some o
 | d + 1, o => if rd o ((sh.length - (d + 1) : Nat) : Int) ≥ 0 then impl_parts.outer sh L k d o else
   (impl_parts.bfs sh L ((sh.length - (d + 1) : Nat) : Int) k (o.set (sh.length - (d + 1)) ((sh.length - (d + 1) : Nat) : Int)) [((sh.length - (d + 1) : Nat) : Int)] 0).bind fun o' => impl_parts.outer sh L k d o'
def impl_parts.f (k : Nat) (sh : List S66) : Option (List Int) :=
 if sh.length ≤ 1000000 ∧ (sh.all fun c => prng c.f0 && prng c.f1) = true then impl_parts.outer sh (impl_parts.plc 0 sh []) k sh.length (List.replicate sh.length (-1)) else none
theorem impl_parts.bfs_mono (sh : List S66) (L : List ((Int × Int) × Int)) (i : Int) : ∀ k o q at_, LeO (impl_parts.bfs sh L i k o q at_) (impl_parts.bfs sh L i (k + 1) o q at_)
 | 0, o, q, at_ => LeO.none _
 | k + 1, o, q, at_ => by
  rw [show impl_parts.bfs sh L i (k + 1) o q at_ = (if at_ < q.length then (if 0 ≤ rd q at_ ∧ rd q at_ < (sh.length : Int) then
   (impl_around.f (rd_T66 sh (rd q at_)).f0 (rd_T66 sh (rd q at_)).f1).bind fun ds => (impl_parts.stp L i ds o q).bind fun p => impl_parts.bfs sh L i k p.1 p.2 (at_ + 1) else none) else some o) from rfl]
  rw [show impl_parts.bfs sh L i (k + 1 + 1) o q at_ = (if at_ < q.length then (if 0 ≤ rd q at_ ∧ rd q at_ < (sh.length : Int) then
   (impl_around.f (rd_T66 sh (rd q at_)).f0 (rd_T66 sh (rd q at_)).f1).bind fun ds => (impl_parts.stp L i ds o q).bind fun p => impl_parts.bfs sh L i (k + 1) p.1 p.2 (at_ + 1) else none) else some o) from rfl]
  split
  ·split
   ·exact LeO.bind (LeO.refl _) (fun ds => LeO.bind (LeO.refl _) (fun p => impl_parts.bfs_mono sh L i k p.1 p.2 (at_ + 1)))
   ·exact LeO.refl _
  ·exact LeO.refl _
theorem impl_parts.outer_mono (sh : List S66) (L : List ((Int × Int) × Int)) (k : Nat) : ∀ d o, LeO (impl_parts.outer sh L k d o) (impl_parts.outer sh L (k + 1) d o)
 | 0, o => LeO.refl _
 | d + 1, o => by
  unfold impl_parts.outer
  split
  ·exact impl_parts.outer_mono sh L k d o
  ·exact LeO.bind (impl_parts.bfs_mono _ _ _ _ _ _ _) (fun o' => impl_parts.outer_mono sh L k d o')
theorem impl_parts.mono : ∀ a0 k, LeO (impl_parts.f k a0) (impl_parts.f (k + 1) a0) := by
 intro a0 k
 unfold impl_parts.f
 split
 ·exact impl_parts.outer_mono _ _ _ _ _
 ·exact LeO.refl _
structure PS (w : World) (n : Nat) (L : List ((Int × Int) × Int)) (W : World) (o : List Int) : Prop where
 hv : VM Tryz.prog 66 pcV pvV W w.heap.size L
 ho : W.ownsRow w.heap.size 2 1 (.slice (some ⟨w.heap.size + 1, 0, none⟩) n n) n (nums .i64 o)
 hb : Below w.heap.size w W
theorem PS.below {w W W' : World} {n : Nat} {L : List ((Int × Int) × Int)} {o : List Int} (h : PS w n L W o) (hb : Below W.heap.size W W') : PS w n L W' o :=
 ⟨h.hv.below hb, own_move h.ho (fun k hk => hb.block k (h.ho.lt k hk).2), below_step h.hb hb⟩
theorem PS.grown {w W W' : World} {n : Nat} {L : List ((Int × Int) × Int)} {o : List Int} {row : Option Nat} (h : PS w n L W o) (hg : W.grownBy W' row) (hr : ∀ k, row = some k → w.heap.size + 2 ≤ k) : PS w n L W' o :=
 ⟨h.hv.kept hg (fun e => by have := hr _ e.symm; omega), h.ho.kept hg (Or.inr (fun e => by
  have e2 : some (w.heap.size + 1) = row := e
  have := hr _ e2.symm; omega)), h.hb.grown hg h.hb.size (fun k hk => by have := hr k hk; omega)⟩
theorem PS.set {w W : World} {n : Nat} {L : List ((Int × Int) × Int)} {o : List Int} (h : PS w n L W o) (i x : Int) : PS w n L (W.setCell ⟨w.heap.size + 1, i.toNat, none⟩ (.int .i64 x)) (o.set i.toNat x) := by
 obtain ⟨h1, h2⟩ := own_store h.ho i x
 exact ⟨h.hv.kept h2 (by simp), h1, h.hb.grown h2 h.hb.size (fun k hk => by cases hk; omega)⟩
theorem PS.len {w W : World} {n : Nat} {L : List ((Int × Int) × Int)} {o : List Int} (h : PS w n L W o) : o.length = n := by
 have := h.ho.1
 simpa [nums] using this
theorem PS.setN {w W : World} {n : Nat} {L : List ((Int × Int) × Int)} {o : List Int} (h : PS w n L W o) (i : Nat) (x : Int) : PS w n L (W.setCell ⟨w.heap.size + 1, i, none⟩ (.int .i64 x)) (o.set i x) := by
 have := h.set (i : Int) x
 rwa [Int.toNat_natCast] at this
theorem PS.put {w W W' : World} {n : Nat} {L L' : List ((Int × Int) × Int)} {o : List Int} (h : PS w n L W o) (hv : VM Tryz.prog 66 pcV pvV W' w.heap.size L') (hg : W.grownBy W' (some w.heap.size)) : PS w n L' W' o :=
 ⟨hv, h.ho.kept hg (Or.inr (by simp [Value.ownBlock])), h.hb.grown hg h.hb.size (fun k hk => by cases hk; omega)⟩
theorem PS.cell {w W : World} {n : Nat} {L : List ((Int × Int) × Int)} {o : List Int} (h : PS w n L W o) (i : Nat) (hi : i < n) : W.cell? ⟨w.heap.size + 1, i, none⟩ = some (.int .i64 (rd o i)) ∧ W.frozen? ⟨w.heap.size + 1, i, none⟩ = false := by
 have := own_at h.ho (i : Int) (by omega) (by omega)
 rwa [Int.toNat_natCast] at this
theorem PS.made (w : World) (n : Nat) (hn : n ≤ 9223372036854775807) : PS w n [] ((w.alloc (.map #[] 0)).alloc (.cells (madeCells #[.int .i64 0] n) 2)) (List.replicate n 0) := by
 refine ⟨VM.alloc (VM.made w) _, ?_, below_alloc (below_alloc (Below.refl _ _) _) _⟩
 have h := own_made (w.alloc (.map #[] 0)) w.heap.size 2 .i64 n (by simp) hn
 rw [show (w.alloc (.map #[] 0)).heap.size = w.heap.size + 1 by simp] at h
 exact h
theorem take_set_next (o : List Int) (kk : Nat) (hk : kk < o.length) (h : o.take kk = List.replicate kk (-1)) : (o.set kk (-1)).take (kk + 1) = List.replicate (kk + 1) (-1) := by
 rw [List.take_succ_eq_append_getElem (by simpa using hk), List.take_set_of_le (Nat.le_refl _), h, List.getElem_set_self, List.replicate_succ']
theorem plc_cons (i : Int) (c : S66) (r : List S66) (L : List ((Int × Int) × Int)) : impl_parts.plc i (c :: r) L = impl_parts.plc (i + 1) r (((c.f0, c.f1), i) :: L) := rfl
def LR (w W : World) (v : Value) (q : List Int) : Prop := W.ownsRow (w.heap.size + 2) 3 1 v q.length (nums .i64 q)
theorem LR.below {w W W' : World} {v : Value} {q : List Int} (h : LR w W v q) (hb : Below W.heap.size W W') : LR w W' v q := own_move h (fun k hk => hb.block k (World.ownsRow.lt h k hk).2)
theorem LR.set {w W : World} {v : Value} {q : List Int} (h : LR w W v q) (i : Nat) (u : Value) : LR w (W.setCell ⟨w.heap.size + 1, i, none⟩ u) v q :=
 own_setCell h (fun e => by have := (World.ownsRow.lt h _ e.symm).1; simp only at this; omega) u
theorem LR.form {w W : World} {v : Value} {q : List Int} (h : LR w W v q) (hp : 0 < q.length) : ∃ g cap, v = .slice (some ⟨g, 0, none⟩) q.length cap ∧ w.heap.size + 2 ≤ g ∧ g < W.heap.size := World.ownsRow.form h hp
theorem LR.cell {w W : World} {g cap : Nat} {q : List Int} (h : LR w W (.slice (some ⟨g, 0, none⟩) q.length cap) q) (i : Nat) (hi : i < q.length) : W.cell? ⟨g, i, none⟩ = some (.int .i64 (rd q i)) := by
 have := (own_at h (i : Int) (by omega) (by omega)).1
 rwa [Int.toNat_natCast] at this
theorem LR.new (w W : World) (x : Int) (h : w.heap.size + 2 ≤ W.heap.size) : LR w (W.alloc (.cells #[.int .i64 x] 3)) (.slice (some ⟨W.heap.size, 0, none⟩) 1 1) [x] := own_lit W (w.heap.size + 2) 3 .i64 [x] h (by simp)
theorem PS.top {w W : World} {n : Nat} {L : List ((Int × Int) × Int)} {o : List Int} (h : PS w n L W o) : w.heap.size + 2 ≤ W.heap.size := by
 have := (h.ho.lt (w.heap.size + 1) rfl).2
 omega
theorem PS.cellI {w W : World} {n : Nat} {L : List ((Int × Int) × Int)} {o : List Int} (h : PS w n L W o) (i : Int) (h0 : 0 ≤ i) (hi : i < (n : Int)) : W.cell? ⟨w.heap.size + 1, i.toNat, none⟩ = some (.int .i64 (rd o i)) ∧ W.frozen? ⟨w.heap.size + 1, i.toNat, none⟩ = false := own_at h.ho i h0 hi
theorem ds_cells {w5 W : World} {gd n : Nat} {xs : List S66} (h : Kd.C k66 w5 (some ⟨gd, 0, none⟩) n xs) (hW : W.heap[gd]? = w5.heap[gd]?) (i : Nat) (hi : i < n) :
  W.cell? ⟨gd, i * 2, none⟩ = some (.int .i64 (rd_T66 xs i).f0) ∧ W.cell? ⟨gd, i * 2 + 1, none⟩ = some (.int .i64 (rd_T66 xs i).f1) := by
 obtain ⟨ad, e, h0, h1⟩ := at_T66 h (i : Int) (by omega) (by omega)
 cases e
 rw [Int.toNat_natCast, add_plain] at h0 h1
 exact ⟨(World.cell?_of_block (a := ⟨gd, i * 2, none⟩) hW).trans h0, (World.cell?_of_block (a := ⟨gd, i * 2 + 1, none⟩) hW).trans h1⟩
theorem hat_ne {v v1 : Value} {gd n : Nat} (h : v1.ownBlock = v.ownBlock ∨ ∃ b, v1.ownBlock = some b ∧ n ≤ b) (hne : ∀ b, v.ownBlock = some b → b ≠ gd) (hlt : gd < n) : ∀ b, v1.ownBlock = some b → b ≠ gd := by
 intro b hb
 rcases h with h | ⟨b8, h, h9⟩
 ·exact hne b (h.symm.trans hb)
 ·have := Option.some.inj (h.symm.trans hb)
  omega
theorem LR.shape {w W : World} {v : Value} {q : List Int} (h : LR w W v q) : ∃ ao cap, v = .slice ao q.length cap := by
 rcases h.2 with ⟨hv, h0⟩ | ⟨g, cap, cur, hv, _⟩
 ·exact ⟨none, 0, by rw [hv, h0]⟩
 ·exact ⟨_, _, hv⟩
theorem LR.lo {w W : World} {v : Value} {q : List Int} (h : LR w W v q) : ∀ k, v.ownBlock = some k → w.heap.size + 2 ≤ k := fun k hk => (World.ownsRow.lt h k hk).1
theorem stp_nil (L : List ((Int × Int) × Int)) (i : Int) (o q : List Int) : impl_parts.stp L i [] o q = some (o, q) := rfl
theorem stp_cons {L : List ((Int × Int) × Int)} {i : Int} {d : S66} {r : List S66} {o q : List Int} {R : List Int × List Int} (h : impl_parts.stp L i (d :: r) o q = some R) :
  (prng d.f0 && prng d.f1) = true ∧ ((mget L (d.f0, d.f1) = none ∧ impl_parts.stp L i r o q = some R) ∨ ∃ k, mget L (d.f0, d.f1) = some k ∧ (0 ≤ k ∧ k < (o.length : Int) ∧ q.length < 1000000) ∧ (if rd o k < 0 then impl_parts.stp L i r (o.set k.toNat i) (q ++ [k]) else impl_parts.stp L i r o q) = some R) := by
 unfold impl_parts.stp at h
 split at h
 case isFalse => cases h
 case isTrue hp =>
  refine ⟨hp, ?_⟩
  split at h
  case h_1 hm => exact .inl ⟨hm, h⟩
  case h_2 k hm =>
   split at h
   case isFalse => cases h
   case isTrue hb => exact .inr ⟨k, hm, hb, h⟩
set_option maxRecDepth 100000 in
set_option maxHeartbeats 4000000 in
theorem impl_parts.calls (k : Nat) (A : Option Addr) (c : Nat) (sh : List S66) (r : List Int) (w : World) (hr : Kd.C k66 w A sh.length sh) (hc : sh.length ≤ c) (h : impl_parts.f k sh = some r) :
  Calls Tryz.prog 85 #[.slice A sh.length c, .func (.func 67) #[] #[]] w fun e w' => ∃ v0_ : Value, e = .returned v0_ ∧ Kd.R (Kd.int .i64) 2 w' w.heap.size (fun _ => True) v0_ r ∧ Below w.heap.size w w' := by
 have hlen := hr.2.1
 have HR := Aside0.mk hr
 clear hr
 unfold impl_parts.f at h
 by_cases hn : sh.length ≤ 1000000 ∧ (sh.all fun c => prng c.f0 && prng c.f1) = true
 case neg => rw [if_neg hn] at h; cases h
 rw [if_pos hn] at h
 obtain ⟨hn1, hn2⟩ := hn
 have HF := Aside0.mk h
 have HK := Aside0.mk hn2
 clear h hn2
 have hmm := @run_makeMap Tryz.prog
 have hu35 := Tryz.underlying66
 have hmk := print_make (P := Tryz.prog) 38 2 .i64 8 Tryz.underlying38 (by kernel_rfl) (by omega) sh.length (by omega)
 go_enter Tryz.func85, Tryz.ntmps85
 go_wp2
 go_loopw [22] (fun i wr => ∃ (kk : Nat) (L : List ((Int × Int) × Int)) (o : List Int), kk ≤ sh.length ∧ i = .int .i64 kk ∧ Aside0 (impl_parts.plc kk (sh.drop kk) L = impl_parts.plc 0 sh []) ∧ Aside0 (L.length = kk) ∧ Aside0 (o.take kk = List.replicate kk (-1)) ∧ Aside0 (PS w sh.length L wr o)) (fun i _ => sh.length - (intOf i).toNat)
 case atStart =>
  refine ⟨0, [], List.replicate sh.length 0, Nat.zero_le _, rfl, ⟨rfl⟩, ⟨rfl⟩, ⟨by simp⟩, ⟨PS.made w sh.length (by omega)⟩⟩
 case round =>
  obtain ⟨kk, L, o, hk, rfl, HG, HN, HT, HP⟩ := hrel
  by_cases hlt : kk < sh.length
  ·obtain ⟨ad, e, h0, h1⟩ := at_T66 (Kd.C_below HR.out HP.out.hb) (kk : Int) (by omega) (by omega)
   have hd : sh.drop kk = rd_T66 sh kk :: sh.drop (kk + 1) := by
    rw [List.drop_eq_getElem_cons hlt]
    simp [rd_T66, List.getD_eq_getElem?_getD, List.getElem?_eq_getElem hlt]
   have hmem : rd_T66 sh kk ∈ sh := by
    simp [rd_T66, List.getD_eq_getElem?_getD, List.getElem?_eq_getElem hlt]
   have hrg := List.all_eq_true.1 HK.out _ hmem
   have HG2 := HG.out
   rw [hd] at HG2
   rw [plc_cons] at HG2
   have HG3 := Aside0.mk HG2
   have HRG := Aside0.mk hrg
   clear hd HG2 hmem hrg HG
   subst e
   rw [Int.toNat_natCast] at h0 h1
   have HP1 := Aside0.mk (HP.out.below (below_alloc (Below.refl _ _) (.cells #[.int .i64 (rd_T66 sh kk).f0, .int .i64 (rd_T66 sh kk).f1] 66)))
   go_wp2_with (at_mapUpdate; refine wpList_vm_put rfl _ _ _ 124 rfl 3 lawPC Tryz.underlying124 HP1.out.hv rfl (by rw [HN.out]; unfold maxLen; omega) ((rd_T66 sh kk).f0, (rd_T66 sh kk).f1) (kk : Int) rfl rfl (pc_key (p := ((rd_T66 sh kk).f0, (rd_T66 sh kk).f1)) (Bool.and_eq_true_iff.mp HRG.out).1 (Bool.and_eq_true_iff.mp HRG.out).2) ?_; intro w2 hv2 hg2; have HP2 := Aside0.mk (HP1.out.put hv2 hg2); have hcl := (HP2.out.cell kk hlt).1; have hfr := (HP2.out.cell kk hlt).2; clear hv2 hg2)
   go_roundw
   case rel => exact ⟨kk + 1, _, o.set kk (-1), by omega, by go_num, ⟨by rw [← HG3.out]; rfl⟩, ⟨by simp [HN.out]⟩, ⟨take_set_next o kk (by rw [HP.out.len]; exact hlt) HT.out⟩, ⟨HP2.out.setN kk (-1)⟩⟩
   case measure => simp [intOf]; omega
  ·have hkl : kk = sh.length := by omega
   subst hkl
   have hT := HT.out
   have hG := HG.out
   rw [List.drop_length] at hG
   rw [← HP.out.len, List.take_length] at hT
   rw [HP.out.len] at hT
   rw [show impl_parts.plc (sh.length : Int) [] L = L from rfl] at hG
   subst hG
   have HP1 := HP
   rw [hT] at HP1
   clear HP HT HG HN HK hT hmk hmm
   go_wp2
   go_loopw [36] (fun i wr => ∃ (ii : Nat) (o : List Int), ii ≤ sh.length ∧ i = .int .i64 ii ∧ Aside0 (impl_parts.outer sh (impl_parts.plc 0 sh []) k (sh.length - ii) o = some r) ∧ Aside0 (PS w sh.length (impl_parts.plc 0 sh []) wr o)) (fun i _ => sh.length - (intOf i).toNat)
   case atStart => exact ⟨0, _, Nat.zero_le _, rfl, HF, HP1⟩
   case round =>
    obtain ⟨ii, o2, hi, rfl, HG, HP⟩ := hrel
    clear HP1 HF
    generalize impl_parts.plc 0 sh [] = LL at HG HP ⊢
    have hol := HP.out.len
    have htop := HP.out.top
    by_cases hlt2 : ii < sh.length
    ·obtain ⟨d, hd⟩ : ∃ d, sh.length - ii = d + 1 := ⟨sh.length - ii - 1, by omega⟩
     have hG := HG.out
     rw [hd] at hG
     unfold impl_parts.outer at hG
     rw [show sh.length - (d + 1) = ii by omega] at hG
     have hcl := (HP.out.cell ii hlt2).1
     have hfr := (HP.out.cell ii hlt2).2
     have hdd : sh.length - (ii + 1) = d := by omega
     clear HG hd
     by_cases hge : rd o2 ii ≥ 0
     ·rw [if_pos hge] at hG
      have HG := Aside0.mk hG
      clear hG
      generalize rd o2 ii = x at hcl hge
      go_wp2
      go_roundw
      case rel => exact ⟨ii + 1, o2, by omega, by go_num, by rw [hdd]; exact HG, HP⟩
      case measure => simp [intOf]; omega
     ·rw [if_neg hge] at hG
      have HG := Aside0.mk hG
      clear hG
      generalize rd o2 ii = x at hcl hge
      have hs0 : (wr.setCell ⟨w.heap.size + 1, ii, none⟩ (.int .i64 (ii : Int))).heap.size = wr.heap.size := by simp [World.setCell]
      have HP2 := Aside0.mk (HP.out.setN ii (ii : Int))
      have HL2 := Aside0.mk (LR.new w (wr.setCell ⟨w.heap.size + 1, ii, none⟩ (.int .i64 (ii : Int))) (ii : Int) (by rw [hs0]; exact htop))
      have HP3 := Aside0.mk (HP2.out.below (below_alloc (Below.refl _ _) (.cells #[.int .i64 (ii : Int)] 3)))
      clear HP HP2
      go_wp2
      go_loopw [10, 11] (fun v i wr3 => ∃ (at_ kf : Nat) (o q : List Int), i = .int .i64 at_ ∧ at_ ≤ q.length ∧ q.length ≤ 1000000 ∧ Aside0 (((impl_parts.bfs sh LL (ii : Int) kf o q at_).bind fun o' => impl_parts.outer sh LL k d o') = some r) ∧ Aside0 (PS w sh.length LL wr3 o) ∧ Aside0 (LR w wr3 v q)) (fun _ i _ => 1000001 - (intOf i).toNat)
      case atStart =>
       refine ⟨0, k, o2.set ii (ii : Int), [(ii : Int)], rfl, Nat.zero_le _, by simp, HG, HP3, ⟨?_⟩⟩
       have h := HL2.out
       rw [hs0] at h
       exact h
      case round =>
       obtain ⟨at_, kf, o, q, rfl, ha, hq, HG, HP, HL⟩ := hrel
       clear HL2 HP3 hs0 hcl hfr
       have hol := HP.out.len
       by_cases hat : at_ < q.length
       ·have hG := HG.out
        cases kf with
        | zero => cases hG
        | succ kf =>
        unfold impl_parts.bfs at hG
        rw [if_pos hat] at hG
        by_cases hb : 0 ≤ rd q at_ ∧ rd q at_ < (sh.length : Int)
        case neg => rw [if_neg hb] at hG; cases hG
        rw [if_pos hb] at hG
        obtain ⟨g1, cap1, e1, hg1, hg2⟩ := HL.out.form (by omega)
        subst e1
        have hcq := HL.out.cell at_ hat
        obtain ⟨ad, e, h0, h1⟩ := at_T66 (Kd.C_below HR.out HP.out.hb) (rd q at_) hb.1 hb.2
        subst e
        generalize rd q at_ = y at hb hcq h0 h1 hG
        generalize (rd_T66 sh y).f0 = y0 at h0 hG
        generalize (rd_T66 sh y).f1 = y1 at h1 hG
        have hby := hb.1
        have hby1 := hb.2
        obtain ⟨o', hG1, hG2⟩ := Option.bind_eq_some_iff.mp hG
        obtain ⟨ds, hds, hG3⟩ := Option.bind_eq_some_iff.mp hG1
        have HDS := Aside0.mk hds
        have HG3 := Aside0.mk hG3
        have HG2 := Aside0.mk hG2
        clear hG hG1 hG2 hG3 hds HG hb
        go_wp2_with (go_at_call 67; (with_reducible refine (impl_around.calls y0 y1 ds _ HDS.out).mono ?_); rintro e w5 ⟨v5, rfl, ho5, hb5⟩; obtain ⟨A5, c5, e5⟩ := Kd.R_slice ho5; subst e5; have HD5 := Aside0.mk ho5; have HP5 := Aside0.mk (HP.out.below hb5); have HL5 := Aside0.mk (HL.out.below hb5); clear ho5 hb5)
        have hd4 : ds.length = 4 := by rw [← Option.some.inj HDS.out]; rfl
        obtain ⟨gd, capd, he, hgd1, hgd2, _⟩ := Kd.R_form HD5.out (by omega)
        cases he
        have HC5 := Aside0.mk (Kd.R_reads' HD5.out).2.2
        have HD4 := Aside0.mk hd4
        clear HD5 hd4
        go_loopw [10, 66] (fun v i wr4 => ∃ (jj : Nat) (o q : List Int), i = .int .i64 jj ∧ jj ≤ ds.length ∧ q.length ≤ 1000000 ∧ at_ < q.length ∧ Aside0 (((impl_parts.stp LL (ii : Int) (ds.drop jj) o q).bind fun p => impl_parts.bfs sh LL (ii : Int) kf p.1 p.2 (at_ + 1)) = some o') ∧ Aside0 (PS w sh.length LL wr4 o) ∧ Aside0 (LR w wr4 v q) ∧ Aside0 (∀ b, v.ownBlock = some b → b ≠ gd) ∧ Aside0 (wr4.heap[gd]? = w5.heap[gd]?) ∧ gd < wr4.heap.size) (fun _ i _ => ds.length - (intOf i).toNat)
        case atStart => exact ⟨0, o, q, rfl, Nat.zero_le _, hq, hat, HG3, HP5, HL5, ⟨fun b hb => by have h8 : g1 = b := Option.some.inj hb; omega⟩, ⟨rfl⟩, hgd2⟩
        case round =>
         obtain ⟨jj, o, q, rfl, hj, hq, hat, HG3, HP, HL, HNE, HGD, hgs⟩ := hrel
         clear HP5 HL5
         have hol := HP.out.len
         by_cases hlt4 : jj < ds.length
         ·have HJ1 := Aside0.mk hlt4
          have hj4 : jj < 4 := by have := HD4.out; omega
          obtain ⟨hc0, hc1⟩ := ds_cells HC5.out HGD.out jj hlt4
          have hdd2 : ds.drop jj = rd_T66 ds jj :: ds.drop (jj + 1) := by
           rw [List.drop_eq_getElem_cons hlt4]
           simp [rd_T66, List.getD_eq_getElem?_getD, List.getElem?_eq_getElem hlt4]
          have hG := HG3.out
          rw [hdd2] at hG
          obtain ⟨p, hp, hG2⟩ := Option.bind_eq_some_iff.mp hG
          obtain ⟨hkey, hcase⟩ := stp_cons hp
          generalize (rd_T66 ds jj).f0 = d0 at hc0 hkey hcase
          generalize (rd_T66 ds jj).f1 = d1 at hc1 hkey hcase
          have hbb := below_alloc (Below.refl wr.heap.size wr) (.cells #[.int .i64 d0, .int .i64 d1] 66)
          have HP1 := Aside0.mk (HP.out.below hbb)
          have HL1 := Aside0.mk (HL.out.below hbb)
          have HGD1 := Aside0.mk ((hbb.block gd hgs).trans HGD.out)
          have hgs1 : gd < (wr.alloc (.cells #[.int .i64 d0, .int .i64 d1] 66)).heap.size := by simp; omega
          have hlo := HP1.out.hv.look_ok lawPC pcV_inj Tryz.underlying124 (z := .int .i64 0) (by first | kernel_rfl | rfl) (x := (d0, d1)) (pc_key (p := (d0, d1)) (Bool.and_eq_true_iff.mp hkey).1 (Bool.and_eq_true_iff.mp hkey).2)
          dsimp only [pcV] at hlo
          have HG4 := Aside0.mk hG2
          clear hG hG2 hp hdd2 HG3 hkey hbb
          rcases hcase with ⟨hm, hs⟩ | ⟨kx, hm, ⟨hk0, hk1, hk2⟩, hs⟩
          ·rw [hm] at hlo
           simp only [Option.map_none, Option.getD_none, Option.isSome_none] at hlo
           have HS := Aside0.mk hs
           clear hs hm
           go_wp2
           go_roundw
           case rel => exact ⟨jj + 1, o, q, by go_num, HJ1.out, hq, hat, ⟨by rw [HS.out]; exact HG4.out⟩, HP1, HL1, HNE, HGD1, hgs1⟩
           case measure => have := HJ1.out; simp [intOf]; omega
          ·rw [hm] at hlo
           simp only [Option.map_some, Option.getD_some, Option.isSome_some, pvV] at hlo
           rw [hol] at hk1
           have hcl := (HP1.out.cellI kx hk0 hk1).1
           have hfr := (HP1.out.cellI kx hk0 hk1).2
           clear hm
           by_cases hneg : rd o kx < 0
           ·rw [if_pos hneg] at hs
            have HS := Aside0.mk hs
            clear hs
            generalize rd o kx = z at hneg hcl
            have HP2 := Aside0.mk (HP1.out.set kx (ii : Int))
            have HL2 := Aside0.mk (HL1.out.set kx.toNat (.int .i64 (ii : Int)))
            have hz2 : ((wr.alloc (.cells #[.int .i64 d0, .int .i64 d1] 66)).setCell ⟨w.heap.size + 1, kx.toNat, none⟩ (.int .i64 (ii : Int))).heap.size = (wr.alloc (.cells #[.int .i64 d0, .int .i64 d1] 66)).heap.size := by simp [World.setCell]
            have hz3 : ((wr.alloc (.cells #[.int .i64 d0, .int .i64 d1] 66)).setCell ⟨w.heap.size + 1, kx.toNat, none⟩ (.int .i64 (ii : Int))).heap.size = wr.heap.size + 1 := by rw [hz2]; simp
            have HGD2 := Aside0.mk ((Below.heap_setCell (wr.alloc (.cells #[.int .i64 d0, .int .i64 d1] 66)) ⟨w.heap.size + 1, kx.toNat, none⟩ (.int .i64 (ii : Int)) gd (by show gd ≠ w.heap.size + 1; omega)).trans HGD1.out)
            have HLO := Aside0.mk (HP2.out.top)
            go_wp2_with (at_builtin; refine print_append_num (w.heap.size + 2) rfl (.tmp 88) _ 125 3 .i64 8 rfl Tryz.underlying125 (by kernel_rfl) (by omega) _ q kx rfl (by rw [hz3]; rfl) HL2.out (Below.refl _ _) HLO.out (by omega) ?_; intro v1 w7 ho7 hb7 hg7 hat7; have HP7 := Aside0.mk (HP2.out.grown hg7 HL2.out.lo); have HL7 : Aside0 (LR w w7 v1 (q ++ [kx])) := Aside0.mk ho7; have HGD7 := Aside0.mk ((hg7.block gd (by rw [hz2]; exact hgs1) (fun e => HNE.out gd e.symm rfl)).trans HGD2.out); have hgs7 : gd < w7.heap.size := Nat.lt_of_lt_of_le (by rw [hz2]; exact hgs1) hg7.size; have HNE7 : Aside0 (∀ b, v1.ownBlock = some b → b ≠ gd) := Aside0.mk (hat_ne hat7 HNE.out (by rw [hz2]; exact hgs1)); clear ho7 hb7 hg7 hat7)
            go_roundw
            case rel => exact ⟨jj + 1, _, q ++ [kx], by go_num, HJ1.out, by rw [List.length_append, List.length_singleton]; omega, by rw [List.length_append]; omega, ⟨by rw [HS.out]; exact HG4.out⟩, HP7, HL7, HNE7, HGD7, hgs7⟩
            case measure => have := HJ1.out; simp [intOf]; omega
           ·rw [if_neg hneg] at hs
            have HS := Aside0.mk hs
            clear hs
            generalize rd o kx = z at hneg hcl
            go_wp2
            go_roundw
            case rel => exact ⟨jj + 1, o, q, by go_num, HJ1.out, hq, hat, ⟨by rw [HS.out]; exact HG4.out⟩, HP1, HL1, HNE, HGD1, hgs1⟩
            case measure => have := HJ1.out; simp [intOf]; omega
         ·have hjl : jj = ds.length := by omega
          have hG := HG3.out
          rw [hjl, List.drop_length, stp_nil] at hG
          have HG5 := Aside0.mk hG
          clear hG
          go_wp2
          go_roundw
          case rel => exact ⟨at_ + 1, kf, o, q, by go_num, by omega, hq, ⟨by
           have h1 : impl_parts.bfs sh LL (ii : Int) kf o q (at_ + 1) = some o' := HG5.out
           rw [h1]; exact HG2.out⟩, HP, HL⟩
          case measure => simp [intOf]; omega
       ·have hG := HG.out
        cases kf with
        | zero => cases hG
        | succ kf =>
        unfold impl_parts.bfs at hG
        rw [if_neg hat] at hG
        have HG4 := Aside0.mk hG
        clear hG HG
        obtain ⟨ao, cap1, e1⟩ : ∃ ao cap, _ = Value.slice ao q.length cap := LR.shape HL.out
        subst e1
        go_wp2
        go_roundw
        case rel =>
         first
          | exact ⟨ii + 1, o, by omega, by go_num, ⟨by rw [hdd]; exact HG4.out⟩, HP⟩
          | ((repeat apply Exists.intro); refine ⟨?_, rfl⟩; exact ⟨ii + 1, o, by omega, by go_num, ⟨by rw [hdd]; exact HG4.out⟩, HP⟩)
        case measure => simp [intOf]; omega
    ·have hil : ii = sh.length := by omega
     subst hil
     have hG := HG.out
     rw [Nat.sub_self] at hG
     obtain rfl : o2 = r := Option.some.inj hG
     go_wp2
     go_ret
     have ho := HP.out.ho
     rw [← hol] at ho
     exact ⟨_, rfl, by rw [← hol]; exact Kd.R_of_own (enc := Value.int .i64) (h1 := fun _ => rfl) ho (fun _ _ => trivial), HP.out.hb⟩
end Go.Proofs.YtbphiipcnjelbaaGreat.Q

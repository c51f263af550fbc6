/- Written by a program of this session (wip/tools/pp.py) out of the translation, with the kit's printer. -/
import Derived.Test.YtjgnlakgojookaaQ0
import Derived.Test.YtjgnlakgojookaaQ2
import Derived.Test.YtjgnlakgojookaaQ8
import Derived.Test.YtjgnlakgojookaaQ9
import Derived.Test.YtjgnlakgojookaaQ17
import Derived.Test.YtjgnlakgojookaaQ18
import Derived.Test.YtjgnlakgojookaaQ22
import Derived.Test.YtjgnlakgojookaaQGimplAreClear
namespace Go.Proofs.Ytjgnlakgojookaa.Q
open Go.RowKit Go.Proofs.YtjgnlakgojookaaW.PrintWords Go.Proofs.YtjgnlakgojookaaW.PrintLast Go.Proofs.YtjgnlakgojookaaW.PrintMore
attribute [local go_sem] max2_int min2_int max_two min_two max_three min_three max_four min_four
set_option linter.unusedVariables false
set_option linter.unusedSimpArgs false

/-! ### laws_FnExactAreClear: function 4 -/
def laws_FnExactAreClear.f (k : Nat) (l0_0 : List (List (S79))) (l1 : List (S79)) : Option (Bool) := (laws_szAssembly.f k l0_0 1048576).bind fun t279 => (if t279 < 0 then (some true) else ((laws_szCubeS.f l1 t279).bind fun t280 => (if t280 < 0 then (some true) else ((laws_toAssembly.f k l0_0).bind fun t281 => ((laws_toCubeS.f k l1).bind fun t284 => ((spec_AreClear.f k t281 t284).bind fun t287 => ((laws_toAssembly.f k l0_0).bind fun t288 => ((laws_toCubeS.f k l1).bind fun t292 => ((impl_AreClear.f k t288 t292).bind fun t295 => (if (t295 != t287) = true then (some false) else ((laws_toAssembly.f k l0_0).bind fun t296 => ((laws_eqAssembly.f k t288 t296).bind fun t299 => (if t299 = true then ((laws_toCubeS.f k l1).bind fun t300 => ((laws_eqCubeS.f k t292 t300).bind fun t303 => (if t303 = true then (some true) else (some false)))) else (some false))))))))))))))
theorem laws_FnExactAreClear.mono : ∀ a0 a1 k, LeO (laws_FnExactAreClear.f k a0 a1) (laws_FnExactAreClear.f (k + 1) a0 a1) := by
 intro a0 a1 k
 unfold laws_FnExactAreClear.f
 repeat' first
   | (with_reducible exact impl_AreClear.mono _ _ _)
   | (with_reducible exact laws_eqAssembly.mono _ _ _)
   | (with_reducible exact laws_eqCubeS.mono _ _ _)
   | (with_reducible exact laws_szAssembly.mono _ _ _)
   | (with_reducible exact laws_toAssembly.mono _ _)
   | (with_reducible exact laws_toCubeS.mono _ _)
   | (with_reducible exact spec_AreClear.mono _ _ _)
   | (with_reducible exact LeO.refl _)
   | (with_reducible exact LeO.none _)
   | (with_reducible refine LeO.ite ?_ ?_)
   | (with_reducible refine LeO.bind ?_ (fun _ => ?_))
   | exact impl_AreClear.mono _ _ _
   | exact laws_eqAssembly.mono _ _ _
   | exact laws_eqCubeS.mono _ _ _
   | exact laws_szAssembly.mono _ _ _
   | exact laws_toAssembly.mono _ _
   | exact laws_toCubeS.mono _ _
   | exact spec_AreClear.mono _ _ _
   | exact LeO.none _
   | refine LeO.ite ?_ ?_
   | refine LeO.bind ?_ (fun _ => ?_)
set_option maxHeartbeats 8000000 in
set_option maxRecDepth 100000 in
theorem laws_FnExactAreClear.calls (k : Nat) (A0_0 : Option Addr) (c0_0 : Nat) (l0_0 : List (List (S79))) (A1 : Option Addr) (c1 : Nat) (l1 : List (S79)) (w : World) (hr0_0 : Kd.C (Kd.slice 79 k79) w A0_0 l0_0.length l0_0) (hc0_0 : l0_0.length ≤ c0_0) (hr1 : Kd.C k79 w A1 l1.length l1) (hc1 : l1.length ≤ c1) (h : laws_FnExactAreClear.f k l0_0 l1 = some true) :
  Calls Try.prog 4 #[.agg #[.slice A0_0 l0_0.length c0_0], .slice A1 l1.length c1] w fun e w' => e = .returned (.bool true) ∧ Below w.heap.size w w' := by
 have hu24 := Try.underlying24
 have hu29 := Try.underlying29
 have HR0_0 := am hr0_0
 have HC0_0 := am hc0_0
 clear hr0_0 hc0_0
 have HR1 := am hr1
 have HC1 := am hc1
 clear hr1 hc1
 have HB := am (Below.refl w.heap.size w)
 have H : ((laws_szAssembly.f k l0_0 1048576).bind fun t279 => (if t279 < 0 then (some true) else ((laws_szCubeS.f l1 t279).bind fun t280 => (if t280 < 0 then (some true) else ((laws_toAssembly.f k l0_0).bind fun t281 => ((laws_toCubeS.f k l1).bind fun t284 => ((spec_AreClear.f k t281 t284).bind fun t287 => ((laws_toAssembly.f k l0_0).bind fun t288 => ((laws_toCubeS.f k l1).bind fun t292 => ((impl_AreClear.f k t288 t292).bind fun t295 => (if (t295 != t287) = true then (some false) else ((laws_toAssembly.f k l0_0).bind fun t296 => ((laws_eqAssembly.f k t288 t296).bind fun t299 => (if t299 = true then ((laws_toCubeS.f k l1).bind fun t300 => ((laws_eqCubeS.f k t292 t300).bind fun t303 => (if t303 = true then (some true) else (some false)))) else (some false))))))))))))))) = some true := h
 clear h
 replace H := ob H
 obtain ⟨t279, A30, H⟩ := H
 replace H : (if t279 < 0 then (some true) else ((laws_szCubeS.f l1 t279).bind fun t280 => (if t280 < 0 then (some true) else ((laws_toAssembly.f k l0_0).bind fun t281 => ((laws_toCubeS.f k l1).bind fun t284 => ((spec_AreClear.f k t281 t284).bind fun t287 => ((laws_toAssembly.f k l0_0).bind fun t288 => ((laws_toCubeS.f k l1).bind fun t292 => ((impl_AreClear.f k t288 t292).bind fun t295 => (if (t295 != t287) = true then (some false) else ((laws_toAssembly.f k l0_0).bind fun t296 => ((laws_eqAssembly.f k t288 t296).bind fun t299 => (if t299 = true then ((laws_toCubeS.f k l1).bind fun t300 => ((laws_eqCubeS.f k t292 t300).bind fun t303 => (if t303 = true then (some true) else (some false)))) else (some false)))))))))))))) = some true := H
 have A3 := am A30
 clear A30
 by_cases c4 : t279 < 0
 ·rw [if_pos c4] at H
  have c4b0 : decide (t279 < 0) = true := decide_eq_true c4
  clear c4
  clear H
  go_enter Try.func4, Try.ntmps4
  go_wp2_with (first | ((with_reducible refine gate_dst (N := 2) rfl ?_); refine box_event ?hg (N := 2) ?hd (cs := #[.slice A0_0 l0_0.length c0_0]) (t := 24) ?hr ?_; (case hd => rfl); (case hg => rfl); (case hr => first | (go_simp; done) | (go_simp; rfl)); intro gb278 hg w5 hbox hb; have n0_ := am (Bb6 (by repeat (first | (with_reducible first | exact HB.out | apply Bb1 | apply Bb2 | apply Bb3) | exact HB.out)) hb); have n1_ := am (hbox); have n2_ := am ((by rw [hg]; exact (Bb5 (by repeat (first | (with_reducible first | exact HB.out | apply Bb1 | apply Bb2 | apply Bb3) | exact HB.out))) : w.heap.size ≤ gb278)); have n3_ := n2_; clear HB; have HB := n0_; have BK278 := n1_; have GW278 := n2_; have GE278 := n3_; clear n0_ n1_ n2_ n3_; clear hb hbox hg; have hcz6_0 : w5.cell? ⟨gb278, 0, none⟩ = some (.slice A0_0 l0_0.length c0_0) := (kc BK278.out 0).trans rfl; have hfz6_0 := kf BK278.out 0) | ((with_reducible refine gate_callee (f := 13) rfl ?_); refine goesL_ (some 12) rfl rfl Try.func13 (by kernel_rfl) rfl #[.agg #[.slice A0_0 l0_0.length c0_0], .int .i64 1048576] rfl (by (try simp only [List.map_toArray, List.map_cons, List.map_nil]); first | done | rfl | (simp only [List.length_drop, List.length_take]; rfl)) ?_; (with_reducible refine (laws_szAssembly.calls k _ _ l0_0 1048576 t279 _ ?side1 ?side2 A3.out).mono ?_); (case side1 => repeat (first | exact (Kd.C_below HR0_0.out HB.out) | (with_reducible refine Kd.C_alloc ?_ _) | (with_reducible refine Kd.C_drewN ?_ _) | (with_reducible refine Kd.C_drew ?_))); (case side2 => exact HC0_0.out); rintro e w7 ⟨rfl, hb⟩; refine ⟨_, rfl, ?_⟩; have n0_ := am (Bk4 (g := gb278) (o := .cells #[.slice A0_0 l0_0.length c0_0] 24 (0, 0)) (by (with_reducible repeat (first | refine Bk2 ?_ _ | refine Bk3 ?_ | refine Bk1 ?_ _)); exact BK278.out) hb); have n1_ := am (Bb6 (by repeat (first | (with_reducible first | exact HB.out | apply Bb1 | apply Bb2 | apply Bb3 | refine Bb4 ?_ GE278.out) | exact HB.out)) hb); clear BK278; clear HB; have BK278 := n0_; have HB := n1_; clear n0_ n1_; (try clear hb); (try clear hb2); (try clear hk); (try clear hi)))
  go_ret
  exact ⟨by first | rfl | (simp [errW_none, errW_some] <;> rfl) | (simp [*, errW_none, errW_some] <;> rfl), by repeat (first | (with_reducible first | exact HB.out | apply Bb1 | apply Bb2 | apply Bb3 | refine Bb4 ?_ GE278.out) | exact HB.out)⟩
 ·rw [if_neg c4] at H
  have c4b0 : decide (t279 < 0) = false := decide_eq_false c4
  clear c4
  replace H := ob H
  obtain ⟨t280, A80, H⟩ := H
  replace H : (if t280 < 0 then (some true) else ((laws_toAssembly.f k l0_0).bind fun t281 => ((laws_toCubeS.f k l1).bind fun t284 => ((spec_AreClear.f k t281 t284).bind fun t287 => ((laws_toAssembly.f k l0_0).bind fun t288 => ((laws_toCubeS.f k l1).bind fun t292 => ((impl_AreClear.f k t288 t292).bind fun t295 => (if (t295 != t287) = true then (some false) else ((laws_toAssembly.f k l0_0).bind fun t296 => ((laws_eqAssembly.f k t288 t296).bind fun t299 => (if t299 = true then ((laws_toCubeS.f k l1).bind fun t300 => ((laws_eqCubeS.f k t292 t300).bind fun t303 => (if t303 = true then (some true) else (some false)))) else (some false)))))))))))) = some true := H
  have A8 := am A80
  clear A80
  by_cases c9 : t280 < 0
  ·rw [if_pos c9] at H
   have c9b0 : decide (t280 < 0) = true := decide_eq_true c9
   clear c9
   clear H
   go_enter Try.func4, Try.ntmps4
   go_wp2_with (first | ((with_reducible refine gate_dst (N := 2) rfl ?_); refine box_event ?hg (N := 2) ?hd (cs := #[.slice A0_0 l0_0.length c0_0]) (t := 24) ?hr ?_; (case hd => rfl); (case hg => rfl); (case hr => first | (go_simp; done) | (go_simp; rfl)); intro gb278 hg w10 hbox hb; have n0_ := am (Bb6 (by repeat (first | (with_reducible first | exact HB.out | apply Bb1 | apply Bb2 | apply Bb3) | exact HB.out)) hb); have n1_ := am (hbox); have n2_ := am ((by rw [hg]; exact (Bb5 (by repeat (first | (with_reducible first | exact HB.out | apply Bb1 | apply Bb2 | apply Bb3) | exact HB.out))) : w.heap.size ≤ gb278)); have n3_ := n2_; clear HB; have HB := n0_; have BK278 := n1_; have GW278 := n2_; have GE278 := n3_; clear n0_ n1_ n2_ n3_; clear hb hbox hg; have hcz11_0 : w10.cell? ⟨gb278, 0, none⟩ = some (.slice A0_0 l0_0.length c0_0) := (kc BK278.out 0).trans rfl; have hfz11_0 := kf BK278.out 0) | ((with_reducible refine gate_callee (f := 13) rfl ?_); refine goesL_ (some 12) rfl rfl Try.func13 (by kernel_rfl) rfl #[.agg #[.slice A0_0 l0_0.length c0_0], .int .i64 1048576] rfl (by (try simp only [List.map_toArray, List.map_cons, List.map_nil]); first | done | rfl | (simp only [List.length_drop, List.length_take]; rfl)) ?_; (with_reducible refine (laws_szAssembly.calls k _ _ l0_0 1048576 t279 _ ?side1 ?side2 A3.out).mono ?_); (case side1 => repeat (first | exact (Kd.C_below HR0_0.out HB.out) | (with_reducible refine Kd.C_alloc ?_ _) | (with_reducible refine Kd.C_drewN ?_ _) | (with_reducible refine Kd.C_drew ?_))); (case side2 => exact HC0_0.out); rintro e w12 ⟨rfl, hb⟩; refine ⟨_, rfl, ?_⟩; have n0_ := am (Bk4 (g := gb278) (o := .cells #[.slice A0_0 l0_0.length c0_0] 24 (0, 0)) (by (with_reducible repeat (first | refine Bk2 ?_ _ | refine Bk3 ?_ | refine Bk1 ?_ _)); exact BK278.out) hb); have n1_ := am (Bb6 (by repeat (first | (with_reducible first | exact HB.out | apply Bb1 | apply Bb2 | apply Bb3 | refine Bb4 ?_ GE278.out) | exact HB.out)) hb); clear BK278; clear HB; have BK278 := n0_; have HB := n1_; clear n0_ n1_; (try clear hb); (try clear hb2); (try clear hk); (try clear hi)) | ((with_reducible refine gate_callee (f := 18) rfl ?_); refine goesL_ (some 17) rfl rfl Try.func18 (by kernel_rfl) rfl #[.slice A1 l1.length c1, .int .i64 t279] rfl (by (try simp only [List.map_toArray, List.map_cons, List.map_nil]); first | done | rfl | (simp only [List.length_drop, List.length_take]; rfl)) ?_; (with_reducible refine (laws_szCubeS.calls _ _ l1 t279 t280 _ ?side1 ?side2 A8.out).mono ?_); (case side1 => repeat (first | exact (Kd.C_below HR1.out HB.out) | (with_reducible refine Kd.C_alloc ?_ _) | (with_reducible refine Kd.C_drewN ?_ _) | (with_reducible refine Kd.C_drew ?_))); (case side2 => exact HC1.out); rintro e w' ⟨rfl, ⟨nd, rfl⟩⟩; refine ⟨_, rfl, ?_⟩))
   go_ret
   exact ⟨by first | rfl | (simp [errW_none, errW_some] <;> rfl) | (simp [*, errW_none, errW_some] <;> rfl), by repeat (first | (with_reducible first | exact HB.out | apply Bb1 | apply Bb2 | apply Bb3 | refine Bb4 ?_ GE278.out) | exact HB.out)⟩
  ·rw [if_neg c9] at H
   have c9b0 : decide (t280 < 0) = false := decide_eq_false c9
   clear c9
   replace H := ob H
   obtain ⟨t281, A130, H⟩ := H
   replace H : ((laws_toCubeS.f k l1).bind fun t284 => ((spec_AreClear.f k t281 t284).bind fun t287 => ((laws_toAssembly.f k l0_0).bind fun t288 => ((laws_toCubeS.f k l1).bind fun t292 => ((impl_AreClear.f k t288 t292).bind fun t295 => (if (t295 != t287) = true then (some false) else ((laws_toAssembly.f k l0_0).bind fun t296 => ((laws_eqAssembly.f k t288 t296).bind fun t299 => (if t299 = true then ((laws_toCubeS.f k l1).bind fun t300 => ((laws_eqCubeS.f k t292 t300).bind fun t303 => (if t303 = true then (some true) else (some false)))) else (some false)))))))))) = some true := H
   have A13 := am A130
   clear A130
   replace H := ob H
   obtain ⟨t284, A140, H⟩ := H
   replace H : ((spec_AreClear.f k t281 t284).bind fun t287 => ((laws_toAssembly.f k l0_0).bind fun t288 => ((laws_toCubeS.f k l1).bind fun t292 => ((impl_AreClear.f k t288 t292).bind fun t295 => (if (t295 != t287) = true then (some false) else ((laws_toAssembly.f k l0_0).bind fun t296 => ((laws_eqAssembly.f k t288 t296).bind fun t299 => (if t299 = true then ((laws_toCubeS.f k l1).bind fun t300 => ((laws_eqCubeS.f k t292 t300).bind fun t303 => (if t303 = true then (some true) else (some false)))) else (some false))))))))) = some true := H
   have A14 := am A140
   clear A140
   replace H := ob H
   obtain ⟨t287, A150, H⟩ := H
   replace H : ((laws_toAssembly.f k l0_0).bind fun t288 => ((laws_toCubeS.f k l1).bind fun t292 => ((impl_AreClear.f k t288 t292).bind fun t295 => (if (t295 != t287) = true then (some false) else ((laws_toAssembly.f k l0_0).bind fun t296 => ((laws_eqAssembly.f k t288 t296).bind fun t299 => (if t299 = true then ((laws_toCubeS.f k l1).bind fun t300 => ((laws_eqCubeS.f k t292 t300).bind fun t303 => (if t303 = true then (some true) else (some false)))) else (some false)))))))) = some true := H
   have A15 := am A150
   clear A150
   replace H := ob H
   obtain ⟨t288, A160, H⟩ := H
   replace H : ((laws_toCubeS.f k l1).bind fun t292 => ((impl_AreClear.f k t288 t292).bind fun t295 => (if (t295 != t287) = true then (some false) else ((laws_toAssembly.f k l0_0).bind fun t296 => ((laws_eqAssembly.f k t288 t296).bind fun t299 => (if t299 = true then ((laws_toCubeS.f k l1).bind fun t300 => ((laws_eqCubeS.f k t292 t300).bind fun t303 => (if t303 = true then (some true) else (some false)))) else (some false))))))) = some true := H
   have A16 := am A160
   clear A160
   replace H := ob H
   obtain ⟨t292, A170, H⟩ := H
   replace H : ((impl_AreClear.f k t288 t292).bind fun t295 => (if (t295 != t287) = true then (some false) else ((laws_toAssembly.f k l0_0).bind fun t296 => ((laws_eqAssembly.f k t288 t296).bind fun t299 => (if t299 = true then ((laws_toCubeS.f k l1).bind fun t300 => ((laws_eqCubeS.f k t292 t300).bind fun t303 => (if t303 = true then (some true) else (some false)))) else (some false)))))) = some true := H
   have A17 := am A170
   clear A170
   replace H := ob H
   obtain ⟨t295, A180, H⟩ := H
   replace H : (if (t295 != t287) = true then (some false) else ((laws_toAssembly.f k l0_0).bind fun t296 => ((laws_eqAssembly.f k t288 t296).bind fun t299 => (if t299 = true then ((laws_toCubeS.f k l1).bind fun t300 => ((laws_eqCubeS.f k t292 t300).bind fun t303 => (if t303 = true then (some true) else (some false)))) else (some false))))) = some true := H
   have A18 := am A180
   clear A180
   by_cases c19 : (t295 != t287) = true
   ·rw [if_pos c19] at H
    have c19b0 : (t295 != t287) = true := c19
    (try (have c19b1 : decide (t295 = t287) = false := by simpa using c19))
    (try (have c19b2 : (t295 == t287) = false := by simpa using c19))
    (try (have c19b3 : ¬ (t295 = t287) := by simpa using c19))
    clear c19
    exact absurd H (by simp)
   ·rw [if_neg c19] at H
    have c19b0 : (t295 != t287) = false := by simpa using c19
    (try (have c19b1 : decide (t295 = t287) = true := by simpa using c19))
    (try (have c19b2 : (t295 == t287) = true := by simpa using c19))
    clear c19
    replace H := ob H
    obtain ⟨t296, A200, H⟩ := H
    replace H : ((laws_eqAssembly.f k t288 t296).bind fun t299 => (if t299 = true then ((laws_toCubeS.f k l1).bind fun t300 => ((laws_eqCubeS.f k t292 t300).bind fun t303 => (if t303 = true then (some true) else (some false)))) else (some false))) = some true := H
    have A20 := am A200
    clear A200
    replace H := ob H
    obtain ⟨t299, A210, H⟩ := H
    replace H : (if t299 = true then ((laws_toCubeS.f k l1).bind fun t300 => ((laws_eqCubeS.f k t292 t300).bind fun t303 => (if t303 = true then (some true) else (some false)))) else (some false)) = some true := H
    have A21 := am A210
    clear A210
    by_cases c22 : t299 = true
    ·subst c22
     have H1 : ((laws_toCubeS.f k l1).bind fun t300 => ((laws_eqCubeS.f k t292 t300).bind fun t303 => (if t303 = true then (some true) else (some false)))) = some true := by first | (rw [if_pos rfl] at H; exact H) | rfl
     clear H
     have H := H1
     clear H1
     replace H := ob H
     obtain ⟨t300, A230, H⟩ := H
     replace H : ((laws_eqCubeS.f k t292 t300).bind fun t303 => (if t303 = true then (some true) else (some false))) = some true := H
     have A23 := am A230
     clear A230
     replace H := ob H
     obtain ⟨t303, A240, H⟩ := H
     replace H : (if t303 = true then (some true) else (some false)) = some true := H
     have A24 := am A240
     clear A240
     by_cases c25 : t303 = true
     ·subst c25
      have H1 : (some true) = some true := by first | (rw [if_pos rfl] at H; exact H) | rfl
      clear H
      have H := H1
      clear H1
      clear H
      go_enter Try.func4, Try.ntmps4
      try go_wp2_with (first | ((with_reducible refine gate_dst (N := 2) rfl ?_); refine box_event ?hg (N := 2) ?hd (cs := #[.slice A0_0 l0_0.length c0_0]) (t := 24) ?hr ?_; (case hd => rfl); (case hg => rfl); (case hr => first | (go_simp; done) | (go_simp; rfl)); intro gb278 hg w26 hbox hb; have n0_ := am (Bb6 (by repeat (first | (with_reducible first | exact HB.out | apply Bb1 | apply Bb2 | apply Bb3) | exact HB.out)) hb); have n1_ := am (hbox); have n2_ := am ((by rw [hg]; exact (Bb5 (by repeat (first | (with_reducible first | exact HB.out | apply Bb1 | apply Bb2 | apply Bb3) | exact HB.out))) : w.heap.size ≤ gb278)); have n3_ := n2_; clear HB; have HB := n0_; have BK278 := n1_; have GW278 := n2_; have GE278 := n3_; clear n0_ n1_ n2_ n3_; clear hb hbox hg; have hcz27_0 : w26.cell? ⟨gb278, 0, none⟩ = some (.slice A0_0 l0_0.length c0_0) := (kc BK278.out 0).trans rfl; have hfz27_0 := kf BK278.out 0) | ((with_reducible refine gate_callee (f := 13) rfl ?_); refine goesL_ (some 12) rfl rfl Try.func13 (by kernel_rfl) rfl #[.agg #[.slice A0_0 l0_0.length c0_0], .int .i64 1048576] rfl (by (try simp only [List.map_toArray, List.map_cons, List.map_nil]); first | done | rfl | (simp only [List.length_drop, List.length_take]; rfl)) ?_; (with_reducible refine (laws_szAssembly.calls k _ _ l0_0 1048576 t279 _ ?side1 ?side2 A3.out).mono ?_); (case side1 => repeat (first | exact (Kd.C_below HR0_0.out HB.out) | (with_reducible refine Kd.C_alloc ?_ _) | (with_reducible refine Kd.C_drewN ?_ _) | (with_reducible refine Kd.C_drew ?_))); (case side2 => exact HC0_0.out); rintro e w28 ⟨rfl, hb⟩; refine ⟨_, rfl, ?_⟩; have n0_ := am (Bk4 (g := gb278) (o := .cells #[.slice A0_0 l0_0.length c0_0] 24 (0, 0)) (by (with_reducible repeat (first | refine Bk2 ?_ _ | refine Bk3 ?_ | refine Bk1 ?_ _)); exact BK278.out) hb); have n1_ := am (Bb6 (by repeat (first | (with_reducible first | exact HB.out | apply Bb1 | apply Bb2 | apply Bb3 | refine Bb4 ?_ GE278.out) | exact HB.out)) hb); clear BK278; clear HB; have BK278 := n0_; have HB := n1_; clear n0_ n1_; (try clear hb); (try clear hb2); (try clear hk); (try clear hi)) | ((with_reducible refine gate_callee (f := 18) rfl ?_); refine goesL_ (some 17) rfl rfl Try.func18 (by kernel_rfl) rfl #[.slice A1 l1.length c1, .int .i64 t279] rfl (by (try simp only [List.map_toArray, List.map_cons, List.map_nil]); first | done | rfl | (simp only [List.length_drop, List.length_take]; rfl)) ?_; (with_reducible refine (laws_szCubeS.calls _ _ l1 t279 t280 _ ?side1 ?side2 A8.out).mono ?_); (case side1 => repeat (first | exact (Kd.C_below HR1.out HB.out) | (with_reducible refine Kd.C_alloc ?_ _) | (with_reducible refine Kd.C_drewN ?_ _) | (with_reducible refine Kd.C_drew ?_))); (case side2 => exact HC1.out); rintro e w' ⟨rfl, ⟨nd, rfl⟩⟩; refine ⟨_, rfl, ?_⟩; (try (rw [drewN_self w28]; generalize hq_ : World.drewN w28 _ = w28; have n0_ : Aside0 (w28.heap[gb278]? = some (.cells #[.slice A0_0 l0_0.length c0_0] 24 (0, 0))) := ⟨by rw [← hq_]; exact (by (with_reducible repeat (first | refine Bk2 ?_ _ | refine Bk3 ?_ | refine Bk1 ?_ _)); exact BK278.out)⟩; have n1_ : Aside0 (Below w.heap.size w w28) := ⟨by rw [← hq_]; exact (by repeat (first | (with_reducible first | exact HB.out | apply Bb1 | apply Bb2 | apply Bb3 | refine Bb4 ?_ GE278.out) | exact HB.out))⟩; clear BK278 HB hq_; have BK278 := n0_; have HB := n1_; clear n0_ n1_)); have hcz29_0 : w28.cell? ⟨gb278, 0, none⟩ = some (.slice A0_0 l0_0.length c0_0) := (kc BK278.out 0).trans rfl; have hfz29_0 := kf BK278.out 0) | ((with_reducible refine gate_callee (f := 15) rfl ?_); refine goesL_ (some 21) rfl rfl Try.func15 (by kernel_rfl) rfl #[.agg #[.slice A0_0 l0_0.length c0_0]] rfl (by (try simp only [List.map_toArray, List.map_cons, List.map_nil]); first | done | rfl | (simp only [List.length_drop, List.length_take]; rfl)) ?_; (with_reducible refine (laws_toAssembly.calls k _ _ l0_0 t281 _ ?side1 ?side2 A13.out).mono ?_); (case side1 => repeat (first | exact (Kd.C_below HR0_0.out HB.out) | (with_reducible refine Kd.C_alloc ?_ _) | (with_reducible refine Kd.C_drewN ?_ _) | (with_reducible refine Kd.C_drew ?_))); (case side2 => exact HC0_0.out); rintro e w30 ⟨v282, rfl, ho0, hb⟩; refine ⟨_, rfl, ?_⟩; have n0_ := am (Kd.S_lower ho0 (Bb5 (by repeat (first | (with_reducible first | exact HB.out | apply Bb1 | apply Bb2 | apply Bb3 | refine Bb4 ?_ GE278.out) | exact HB.out)))); have n1_ := am (Bk4 (g := gb278) (o := .cells #[.slice A0_0 l0_0.length c0_0] 24 (0, 0)) (by (with_reducible repeat (first | refine Bk2 ?_ _ | refine Bk3 ?_ | refine Bk1 ?_ _)); exact BK278.out) hb); have n2_ := am (Bb6 (by repeat (first | (with_reducible first | exact HB.out | apply Bb1 | apply Bb2 | apply Bb3 | refine Bb4 ?_ GE278.out) | exact HB.out)) hb); clear BK278; clear HB; have HO283 := n0_; have BK278 := n1_; have HB := n2_; clear n0_ n1_ n2_; (try clear hb); (try clear hb2); (try clear hk); (try clear hi); (try clear ho0)) | ((with_reducible refine gate_callee (f := 20) rfl ?_); refine goesL_ (some 23) rfl rfl Try.func20 (by kernel_rfl) rfl #[.slice A1 l1.length c1] rfl (by (try simp only [List.map_toArray, List.map_cons, List.map_nil]); first | done | rfl | (simp only [List.length_drop, List.length_take]; rfl)) ?_; (with_reducible refine (laws_toCubeS.calls k _ _ l1 t284 _ ?side1 ?side2 A14.out).mono ?_); (case side1 => repeat (first | exact (Kd.C_below HR1.out HB.out) | (with_reducible refine Kd.C_alloc ?_ _) | (with_reducible refine Kd.C_drewN ?_ _) | (with_reducible refine Kd.C_drew ?_))); (case side2 => exact HC1.out); rintro e w31 ⟨v285, rfl, ho0, hb⟩; refine ⟨_, rfl, ?_⟩; have n0_ := am (Kd.S_elder' (by (with_reducible repeat (first | apply Kd.S_alloc | apply Kd.S_drewN | apply Kd.S_drew)); exact HO283.out) (Kd.R_base ho0) hb); have n1_ := am (Kd.R_lower ho0 (Bb5 (by repeat (first | (with_reducible first | exact HB.out | apply Bb1 | apply Bb2 | apply Bb3 | refine Bb4 ?_ GE278.out) | exact HB.out)))); have n2_ := am (Bk4 (g := gb278) (o := .cells #[.slice A0_0 l0_0.length c0_0] 24 (0, 0)) (by (with_reducible repeat (first | refine Bk2 ?_ _ | refine Bk3 ?_ | refine Bk1 ?_ _)); exact BK278.out) hb); have n3_ := am (Bb6 (by repeat (first | (with_reducible first | exact HB.out | apply Bb1 | apply Bb2 | apply Bb3 | refine Bb4 ?_ GE278.out) | exact HB.out)) hb); clear HO283; clear BK278; clear HB; have HO283 := n0_; have HO286 := n1_; have BK278 := n2_; have HB := n3_; clear n0_ n1_ n2_ n3_; (try clear hb); (try clear hb2); (try clear hk); (try clear hi); (try clear ho0); obtain ⟨Ao32, co32, eo32⟩ := Kd.S_slice HO283.out; subst eo32; obtain ⟨Ao33, co33, eo33⟩ := Kd.R_slice HO286.out; subst eo33) | ((with_reducible refine gate_callee (f := 19) rfl ?_); refine goesL_ (some 24) rfl rfl Try.func19 (by kernel_rfl) rfl #[.agg #[.slice Ao32 t281.length co32], .slice Ao33 t284.length co33] rfl (by (try simp only [List.map_toArray, List.map_cons, List.map_nil]); first | done | rfl | (simp only [List.length_drop, List.length_take]; rfl)) ?_; (with_reducible refine (spec_AreClear.calls k _ _ t281 _ _ t284 t287 _ ?side1 ?side2 ?side3 ?side4 A15.out).mono ?_); (case side1 => repeat (first | exact (Kd.S_reads' HO283.out).2.2 | (with_reducible refine Kd.C_alloc ?_ _) | (with_reducible refine Kd.C_drewN ?_ _) | (with_reducible refine Kd.C_drew ?_))); (case side2 => exact (Kd.S_reads' HO283.out).2.1); (case side3 => repeat (first | exact (Kd.R_reads' HO286.out).2.2 | (with_reducible refine Kd.C_alloc ?_ _) | (with_reducible refine Kd.C_drewN ?_ _) | (with_reducible refine Kd.C_drew ?_))); (case side4 => exact (Kd.R_reads' HO286.out).2.1); rintro e w34 ⟨rfl, hb⟩; refine ⟨_, rfl, ?_⟩; have n0_ := am (Kd.S_below (by (with_reducible repeat (first | apply Kd.S_alloc | apply Kd.S_drewN | apply Kd.S_drew)); exact HO283.out) hb); have n1_ := am (Kd.R_below (by (with_reducible repeat (first | apply Kd.R_alloc | apply Kd.R_drewN | apply Kd.R_drew)); exact HO286.out) hb); have n2_ := am (Bk4 (g := gb278) (o := .cells #[.slice A0_0 l0_0.length c0_0] 24 (0, 0)) (by (with_reducible repeat (first | refine Bk2 ?_ _ | refine Bk3 ?_ | refine Bk1 ?_ _)); exact BK278.out) hb); have n3_ := am (Bb6 (by repeat (first | (with_reducible first | exact HB.out | apply Bb1 | apply Bb2 | apply Bb3 | refine Bb4 ?_ GE278.out) | exact HB.out)) hb); clear HO283; clear HO286; clear BK278; clear HB; have HO283 := n0_; have HO286 := n1_; have BK278 := n2_; have HB := n3_; clear n0_ n1_ n2_ n3_; (try clear hb); (try clear hb2); (try clear hk); (try clear hi); have hcz35_0 : w34.cell? ⟨gb278, 0, none⟩ = some (.slice A0_0 l0_0.length c0_0) := (kc BK278.out 0).trans rfl; have hfz35_0 := kf BK278.out 0) | ((with_reducible refine gate_callee (f := 15) rfl ?_); refine goesL_ (some 26) rfl rfl Try.func15 (by kernel_rfl) rfl #[.agg #[.slice A0_0 l0_0.length c0_0]] rfl (by (try simp only [List.map_toArray, List.map_cons, List.map_nil]); first | done | rfl | (simp only [List.length_drop, List.length_take]; rfl)) ?_; (with_reducible refine (laws_toAssembly.calls k _ _ l0_0 t288 _ ?side1 ?side2 A16.out).mono ?_); (case side1 => repeat (first | exact (Kd.C_below HR0_0.out HB.out) | (with_reducible refine Kd.C_alloc ?_ _) | (with_reducible refine Kd.C_drewN ?_ _) | (with_reducible refine Kd.C_drew ?_))); (case side2 => exact HC0_0.out); rintro e w36 ⟨v289, rfl, ho0, hb⟩; refine ⟨_, rfl, ?_⟩; have n0_ := am (Kd.S_elder' (by (with_reducible repeat (first | apply Kd.S_alloc | apply Kd.S_drewN | apply Kd.S_drew)); exact HO283.out) (Kd.S_base ho0) hb); have n1_ := am (Kd.R_below (by (with_reducible repeat (first | apply Kd.R_alloc | apply Kd.R_drewN | apply Kd.R_drew)); exact HO286.out) hb); have n2_ := am (Kd.S_lower (Kd.S_new' (Kd.S_new' ho0 (Kd.S_lt (by (with_reducible repeat (first | apply Kd.S_alloc | apply Kd.S_drewN | apply Kd.S_drew)); exact HO283.out))) (Kd.R_lt (by (with_reducible repeat (first | apply Kd.R_alloc | apply Kd.R_drewN | apply Kd.R_drew)); exact HO286.out))) (Bb5 (by repeat (first | (with_reducible first | exact HB.out | apply Bb1 | apply Bb2 | apply Bb3 | refine Bb4 ?_ GE278.out) | exact HB.out)))); have n3_ := am (Bk4 (g := gb278) (o := .cells #[.slice A0_0 l0_0.length c0_0] 24 (0, 0)) (by (with_reducible repeat (first | refine Bk2 ?_ _ | refine Bk3 ?_ | refine Bk1 ?_ _)); exact BK278.out) hb); have n4_ := am (Bb6 (by repeat (first | (with_reducible first | exact HB.out | apply Bb1 | apply Bb2 | apply Bb3 | refine Bb4 ?_ GE278.out) | exact HB.out)) hb); clear HO283; clear HO286; clear BK278; clear HB; have HO283 := n0_; have HO286 := n1_; have HO290 := n2_; have BK278 := n3_; have HB := n4_; clear n0_ n1_ n2_ n3_ n4_; (try clear hb); (try clear hb2); (try clear hk); (try clear hi); (try clear ho0)) | ((with_reducible refine gate_dst (N := 7) rfl ?_); refine box_event ?hg (N := 7) ?hd (cs := #[.slice none 0 0]) (t := 29) ?hr ?_; (case hd => rfl); (case hg => rfl); (case hr => first | (go_simp; done) | (go_simp; rfl)); intro gb291 hg w37 hbox hb; have n0_ := am (Kd.S_below (by (with_reducible repeat (first | apply Kd.S_alloc | apply Kd.S_drewN | apply Kd.S_drew)); exact HO283.out) hb); have n1_ := am (Kd.R_below (by (with_reducible repeat (first | apply Kd.R_alloc | apply Kd.R_drewN | apply Kd.R_drew)); exact HO286.out) hb); have n2_ := am (Kd.S_below (by (with_reducible repeat (first | apply Kd.S_alloc | apply Kd.S_drewN | apply Kd.S_drew)); exact HO290.out) hb); have n3_ := am (Bk4 (g := gb278) (o := .cells #[.slice A0_0 l0_0.length c0_0] 24 (0, 0)) (by (with_reducible repeat (first | refine Bk2 ?_ _ | refine Bk3 ?_ | refine Bk1 ?_ _)); exact BK278.out) hb); have n4_ := am (Bb6 (by repeat (first | (with_reducible first | exact HB.out | apply Bb1 | apply Bb2 | apply Bb3 | refine Bb4 ?_ GE278.out) | exact HB.out)) hb); have n5_ := am (hbox); have n6_ := am ((by rw [hg]; exact (Bb5 (by repeat (first | (with_reducible first | exact HB.out | apply Bb1 | apply Bb2 | apply Bb3 | refine Bb4 ?_ GE278.out) | exact HB.out))) : w.heap.size ≤ gb291)); have n7_ := n6_; have n8_ := am ((by rw [hg]; exact nl (Bk5 (g := gb278) (o := .cells #[.slice A0_0 l0_0.length c0_0] 24 (0, 0)) (by (with_reducible repeat (first | refine Bk2 ?_ _ | refine Bk3 ?_ | refine Bk1 ?_ _)); exact BK278.out)) : gb278 ≠ gb291)); have n9_ := am ((by rw [hg]; exact ng (Bk5 (g := gb278) (o := .cells #[.slice A0_0 l0_0.length c0_0] 24 (0, 0)) (by (with_reducible repeat (first | refine Bk2 ?_ _ | refine Bk3 ?_ | refine Bk1 ?_ _)); exact BK278.out)) : gb291 ≠ gb278)); clear HO283; clear HO286; clear HO290; clear BK278; clear HB; have HO283 := n0_; have HO286 := n1_; have HO290 := n2_; have BK278 := n3_; have HB := n4_; have BK291 := n5_; have GW291 := n6_; have GE291 := n7_; have NB278_291 := n8_; have NB291_278 := n9_; clear n0_ n1_ n2_ n3_ n4_ n5_ n6_ n7_ n8_ n9_; clear hb hbox hg; obtain ⟨Ao38, co38, eo38⟩ := Kd.S_slice HO290.out; subst eo38; have hnb39 := NB291_278.out; have hnc39 := NB278_291.out; have hcz40_0 : w37.cell? ⟨gb291, 0, none⟩ = some (.slice none 0 0) := (kc BK291.out 0).trans rfl; have hfz40_0 := kf BK291.out 0) | ((with_reducible refine gate_callee (f := 20) rfl ?_); refine goesL_ (some 28) rfl rfl Try.func20 (by kernel_rfl) rfl #[.slice A1 l1.length c1] rfl (by (try simp only [List.map_toArray, List.map_cons, List.map_nil]); first | done | rfl | (simp only [List.length_drop, List.length_take]; rfl)) ?_; (with_reducible refine (laws_toCubeS.calls k _ _ l1 t292 _ ?side1 ?side2 A17.out).mono ?_); (case side1 => exact Kd.C_below HR1.out (by repeat (first | (with_reducible first | exact HB.out | apply Bb1 | apply Bb2 | apply Bb3 | refine Bb4 ?_ GE278.out | refine Bb4 ?_ GE291.out) | exact HB.out))); (case side2 => exact HC1.out); rintro e w41 ⟨v293, rfl, ho0, hb⟩; refine ⟨_, rfl, ?_⟩; have n0_ := am (Kd.S_elder' (by (with_reducible repeat (first | apply Kd.S_alloc | apply Kd.S_drewN | apply Kd.S_drew)); exact (Kd.S_mono (Kd.S_far (p := ⟨gb291, 0, none⟩) (Kd.S_types HO283.out BK291.out (by decide)) (fun _ hk => hk.2) (.slice Ao38 t288.length co38)) (fun _ h_ => h_.1))) (Kd.R_base ho0) hb); have n1_ := am (Kd.R_elder' (by (with_reducible repeat (first | apply Kd.R_alloc | apply Kd.R_drewN | apply Kd.R_drew)); exact (Kd.R_mono (Kd.R_far (p := ⟨gb291, 0, none⟩) (Kd.R_types HO286.out BK291.out (by decide)) (fun _ hk => hk.2) (.slice Ao38 t288.length co38)) (fun _ h_ => h_.1))) (Kd.R_base ho0) hb); have n2_ := am (Kd.S_elder' (by (with_reducible repeat (first | apply Kd.S_alloc | apply Kd.S_drewN | apply Kd.S_drew)); exact (Kd.S_mono (Kd.S_far (p := ⟨gb291, 0, none⟩) (Kd.S_types HO290.out BK291.out (by decide)) (fun _ hk => hk.2) (.slice Ao38 t288.length co38)) (fun _ h_ => h_.1))) (Kd.R_base ho0) hb); have n3_ := am (Kd.R_lower (Kd.R_new' ho0 (Kd.R_lt (by (with_reducible repeat (first | apply Kd.R_alloc | apply Kd.R_drewN | apply Kd.R_drew)); exact (Kd.R_mono (Kd.R_far (p := ⟨gb291, 0, none⟩) (Kd.R_types HO286.out BK291.out (by decide)) (fun _ hk => hk.2) (.slice Ao38 t288.length co38)) (fun _ h_ => h_.1))))) (Bb5 (by repeat (first | (with_reducible first | exact HB.out | apply Bb1 | apply Bb2 | apply Bb3 | refine Bb4 ?_ GE278.out | refine Bb4 ?_ GE291.out) | exact HB.out)))); have n4_ := am (Bk4 (g := gb278) (o := .cells #[.slice A0_0 l0_0.length c0_0] 24 (0, 0)) (by (with_reducible repeat (first | refine Bk2 ?_ _ | refine Bk3 ?_ | refine Bk1 ?_ _)); refine blk_far ?_ NB278_291.out _; (with_reducible repeat (first | refine Bk2 ?_ _ | refine Bk3 ?_ | refine Bk1 ?_ _)); exact BK278.out) hb); have n5_ := am (Bk4 (g := gb291) (o := .cells #[.slice Ao38 t288.length co38] 29 (0, 0)) (by (with_reducible repeat (first | refine Bk2 ?_ _ | refine Bk3 ?_ | refine Bk1 ?_ _)); refine blk_put (cs := #[.slice none 0 0]) ?_ 0 _ rfl; (with_reducible repeat (first | refine Bk2 ?_ _ | refine Bk3 ?_ | refine Bk1 ?_ _)); exact BK291.out) hb); have n6_ := am (Bb6 (by repeat (first | (with_reducible first | exact HB.out | apply Bb1 | apply Bb2 | apply Bb3 | refine Bb4 ?_ GE278.out | refine Bb4 ?_ GE291.out) | exact HB.out)) hb); clear HO283; clear HO286; clear HO290; clear BK278; clear BK291; clear HB; have HO283 := n0_; have HO286 := n1_; have HO290 := n2_; have HO294 := n3_; have BK278 := n4_; have BK291 := n5_; have HB := n6_; clear n0_ n1_ n2_ n3_ n4_ n5_ n6_; (try clear hb); (try clear hb2); (try clear hk); (try clear hi); (try clear ho0); have hcz42_0 : w41.cell? ⟨gb291, 0, none⟩ = some (.slice Ao38 t288.length co38) := (kc BK291.out 0).trans rfl; have hfz42_0 := kf BK291.out 0; obtain ⟨Ao43, co43, eo43⟩ := Kd.R_slice HO294.out; subst eo43) | ((with_reducible refine gate_callee (f := 21) rfl ?_); refine goesL_ (some 31) rfl rfl Try.func21 (by kernel_rfl) rfl #[.agg #[.slice Ao38 t288.length co38], .slice Ao43 t292.length co43] rfl (by (try simp only [List.map_toArray, List.map_cons, List.map_nil]); first | done | rfl | (simp only [List.length_drop, List.length_take]; rfl)) ?_; (with_reducible refine (impl_AreClear.calls k _ _ t288 _ _ t292 t295 _ ?side1 ?side2 ?side3 ?side4 A18.out).mono ?_); (case side1 => repeat (first | exact (Kd.S_reads' HO290.out).2.2 | (with_reducible refine Kd.C_alloc ?_ _) | (with_reducible refine Kd.C_drewN ?_ _) | (with_reducible refine Kd.C_drew ?_))); (case side2 => exact (Kd.S_reads' HO290.out).2.1); (case side3 => repeat (first | exact (Kd.R_reads' HO294.out).2.2 | (with_reducible refine Kd.C_alloc ?_ _) | (with_reducible refine Kd.C_drewN ?_ _) | (with_reducible refine Kd.C_drew ?_))); (case side4 => exact (Kd.R_reads' HO294.out).2.1); rintro e w44 ⟨rfl, hb⟩; refine ⟨_, rfl, ?_⟩; have n0_ := am (Kd.S_below (by (with_reducible repeat (first | apply Kd.S_alloc | apply Kd.S_drewN | apply Kd.S_drew)); exact HO283.out) hb); have n1_ := am (Kd.R_below (by (with_reducible repeat (first | apply Kd.R_alloc | apply Kd.R_drewN | apply Kd.R_drew)); exact HO286.out) hb); have n2_ := am (Kd.S_below (by (with_reducible repeat (first | apply Kd.S_alloc | apply Kd.S_drewN | apply Kd.S_drew)); exact HO290.out) hb); have n3_ := am (Kd.R_below (by (with_reducible repeat (first | apply Kd.R_alloc | apply Kd.R_drewN | apply Kd.R_drew)); exact HO294.out) hb); have n4_ := am (Bk4 (g := gb278) (o := .cells #[.slice A0_0 l0_0.length c0_0] 24 (0, 0)) (by (with_reducible repeat (first | refine Bk2 ?_ _ | refine Bk3 ?_ | refine Bk1 ?_ _)); exact BK278.out) hb); have n5_ := am (Bk4 (g := gb291) (o := .cells #[.slice Ao38 t288.length co38] 29 (0, 0)) (by (with_reducible repeat (first | refine Bk2 ?_ _ | refine Bk3 ?_ | refine Bk1 ?_ _)); exact BK291.out) hb); have n6_ := am (Bb6 (by repeat (first | (with_reducible first | exact HB.out | apply Bb1 | apply Bb2 | apply Bb3 | refine Bb4 ?_ GE278.out | refine Bb4 ?_ GE291.out) | exact HB.out)) hb); clear HO283; clear HO286; clear HO290; clear HO294; clear BK278; clear BK291; clear HB; have HO283 := n0_; have HO286 := n1_; have HO290 := n2_; have HO294 := n3_; have BK278 := n4_; have BK291 := n5_; have HB := n6_; clear n0_ n1_ n2_ n3_ n4_ n5_ n6_; (try clear hb); (try clear hb2); (try clear hk); (try clear hi)))
      have n0_ := am (Kd.S_drew HO283.out)
      have n1_ := am (Kd.R_drew HO286.out)
      have n2_ := am (Kd.S_drew HO290.out)
      have n3_ := am (Kd.R_drew HO294.out)
      have n4_ := am (Bk3 BK278.out)
      have n5_ := am (Bk3 BK291.out)
      have n6_ := am (Bb3 HB.out)
      clear HO283
      clear HO286
      clear HO290
      clear HO294
      clear BK278
      clear BK291
      clear HB
      have HO283 := n0_
      have HO286 := n1_
      have HO290 := n2_
      have HO294 := n3_
      have BK278 := n4_
      have BK291 := n5_
      have HB := n6_
      clear n0_ n1_ n2_ n3_ n4_ n5_ n6_
      refine start_ (n := 5) (S := fun w' => w'.cell? ⟨gb291, 0, none⟩ = some (.slice Ao38 t288.length co38) ∧ w'.cell? ⟨gb278, 0, none⟩ = some (.slice A0_0 l0_0.length c0_0)) (ds := []) #[false, false, false, false, false] (by kernel_rfl) rfl rfl ⟨(kc BK291.out 0).trans rfl, (kc BK278.out 0).trans rfl⟩ (fun hHeld => ?_)
      generalize w44.drew = w45 at HO283 HO286 HO290 HO294 BK278 BK291 HB hHeld ⊢
      refine take_ (i := 0) (N := some 35) (v := ?_) (a' := ?_) #[true, false, false, false, false] rfl rfl (by kernel_rfl) (fun _ _ _ h => h) (Or.inl ⟨by rfl, ?_⟩) hHeld ?_ ?_
      rotate_left
      ·rintro w' ⟨s0, s1⟩
       go_simp
       with_reducible rfl
      rotate_left
      ·simp only [Act.put, sa, i64_w, i32_w]
       rfl
      refine take_ (i := 1) (N := some 36) (v := ?_) (a' := ?_) #[true, true, false, false, false] rfl rfl (by kernel_rfl) (fun _ _ _ h => h) (Or.inl ⟨by rfl, ?_⟩) hHeld ?_ ?_
      rotate_left
      ·rintro w' ⟨s0, s1⟩
       go_simp
       with_reducible rfl
      rotate_left
      ·simp only [Act.put, sa, i64_w, i32_w]
       rfl
      refine one_ (i := 2) (N := some 37) #[true, true, true, false, false] rfl rfl (by kernel_rfl) (by decide) (fun K hK => ?_)
      refine goes_ Try.func15 (by kernel_rfl) rfl #[.agg #[.slice A0_0 l0_0.length c0_0]] (by rfl) rfl rfl (by (try simp only [List.map_toArray, List.map_cons, List.map_nil]); first | done | rfl | (simp only [List.length_drop, List.length_take]; rfl)) ?_
      with_reducible refine (laws_toAssembly.calls k _ _ l0_0 t296 _ ?side1 ?side2 A20.out).mono ?_
      (case side1 => repeat (first | exact (Kd.C_below HR0_0.out HB.out) | (with_reducible refine Kd.C_alloc ?_ _) | (with_reducible refine Kd.C_drewN ?_ _) | (with_reducible refine Kd.C_drew ?_)))
      (case side2 => exact HC0_0.out)
      rintro e w46 ⟨v297, rfl, ho0, hb⟩
      refine ⟨_, rfl, ?_⟩
      have n0_ := am (Kd.S_elder' (by (with_reducible repeat (first | apply Kd.S_alloc | apply Kd.S_drewN | apply Kd.S_drew)); exact HO283.out) (Kd.S_base ho0) hb)
      have n1_ := am (Kd.R_below (by (with_reducible repeat (first | apply Kd.R_alloc | apply Kd.R_drewN | apply Kd.R_drew)); exact HO286.out) hb)
      have n2_ := am (Kd.S_elder' (by (with_reducible repeat (first | apply Kd.S_alloc | apply Kd.S_drewN | apply Kd.S_drew)); exact HO290.out) (Kd.S_base ho0) hb)
      have n3_ := am (Kd.R_below (by (with_reducible repeat (first | apply Kd.R_alloc | apply Kd.R_drewN | apply Kd.R_drew)); exact HO294.out) hb)
      have n4_ := am (Kd.S_lower (Kd.S_new' (Kd.S_new' (Kd.S_new' (Kd.S_new' ho0 (Kd.S_lt (by (with_reducible repeat (first | apply Kd.S_alloc | apply Kd.S_drewN | apply Kd.S_drew)); exact HO283.out))) (Kd.R_lt (by (with_reducible repeat (first | apply Kd.R_alloc | apply Kd.R_drewN | apply Kd.R_drew)); exact HO286.out))) (Kd.S_lt (by (with_reducible repeat (first | apply Kd.S_alloc | apply Kd.S_drewN | apply Kd.S_drew)); exact HO290.out))) (Kd.R_lt (by (with_reducible repeat (first | apply Kd.R_alloc | apply Kd.R_drewN | apply Kd.R_drew)); exact HO294.out))) (Bb5 (by repeat (first | (with_reducible first | exact HB.out | apply Bb1 | apply Bb2 | apply Bb3 | refine Bb4 ?_ GE278.out | refine Bb4 ?_ GE291.out) | exact HB.out))))
      have n5_ := am (Bk4 (g := gb278) (o := .cells #[.slice A0_0 l0_0.length c0_0] 24 (0, 0)) (by (with_reducible repeat (first | refine Bk2 ?_ _ | refine Bk3 ?_ | refine Bk1 ?_ _)); exact BK278.out) hb)
      have n6_ := am (Bk4 (g := gb291) (o := .cells #[.slice Ao38 t288.length co38] 29 (0, 0)) (by (with_reducible repeat (first | refine Bk2 ?_ _ | refine Bk3 ?_ | refine Bk1 ?_ _)); exact BK291.out) hb)
      have n7_ := am (Bb6 (by repeat (first | (with_reducible first | exact HB.out | apply Bb1 | apply Bb2 | apply Bb3 | refine Bb4 ?_ GE278.out | refine Bb4 ?_ GE291.out) | exact HB.out)) hb)
      clear HO283
      clear HO286
      clear HO290
      clear HO294
      clear BK278
      clear BK291
      clear HB
      have HO283 := n0_
      have HO286 := n1_
      have HO290 := n2_
      have HO294 := n3_
      have HO298 := n4_
      have BK278 := n5_
      have BK291 := n6_
      have HB := n7_
      clear n0_ n1_ n2_ n3_ n4_ n5_ n6_ n7_
      (try clear hb)
      (try clear hb2)
      (try clear hk)
      (try clear hi)
      (try clear ho0)
      obtain ⟨Ao47, co47, eo47⟩ := Kd.S_slice HO298.out
      (first | subst eo47 | (injection eo47 with f1_ f2_ f3_; have f4_ := f1_.symm; have f5_ := f3_.symm; clear f1_ f2_ f3_; subst f4_; subst f5_))
      refine hK.out _ _ ⟨(kc BK291.out 0).trans rfl, (kc BK278.out 0).trans rfl⟩ (fun hHeld => ?_)
      clear hK K
      refine norm_ (a' := ?_) ?_ ?_
      rotate_left
      ·show Act.put _ (some 37) _ = _
       simp only [Act.put, sa, i64_w, i32_w]
       rfl
      refine one_ (i := 3) (N := some 38) #[true, true, true, true, false] rfl rfl (by kernel_rfl) (by decide) (fun K hK => ?_)
      refine goes_ Try.func17 (by kernel_rfl) rfl #[.agg #[.slice Ao38 t288.length co38], .agg #[.slice Ao47 t296.length co47]] (by rfl) rfl rfl (by (try simp only [List.map_toArray, List.map_cons, List.map_nil]); first | done | rfl | (simp only [List.length_drop, List.length_take]; rfl)) ?_
      with_reducible refine (laws_eqAssembly.calls k _ _ t288 _ _ t296 true _ ?side1 ?side2 ?side3 ?side4 A21.out).mono ?_
      (case side1 => repeat (first | exact (Kd.S_reads' HO290.out).2.2 | (with_reducible refine Kd.C_alloc ?_ _) | (with_reducible refine Kd.C_drewN ?_ _) | (with_reducible refine Kd.C_drew ?_)))
      (case side2 => exact (Kd.S_reads' HO290.out).2.1)
      (case side3 => repeat (first | exact (Kd.S_reads' HO298.out).2.2 | (with_reducible refine Kd.C_alloc ?_ _) | (with_reducible refine Kd.C_drewN ?_ _) | (with_reducible refine Kd.C_drew ?_)))
      (case side4 => exact (Kd.S_reads' HO298.out).2.1)
      rintro e w48 ⟨rfl, hb⟩
      refine ⟨_, rfl, ?_⟩
      have n0_ := am (Kd.S_below (by (with_reducible repeat (first | apply Kd.S_alloc | apply Kd.S_drewN | apply Kd.S_drew)); exact HO283.out) hb)
      have n1_ := am (Kd.R_below (by (with_reducible repeat (first | apply Kd.R_alloc | apply Kd.R_drewN | apply Kd.R_drew)); exact HO286.out) hb)
      have n2_ := am (Kd.S_below (by (with_reducible repeat (first | apply Kd.S_alloc | apply Kd.S_drewN | apply Kd.S_drew)); exact HO290.out) hb)
      have n3_ := am (Kd.R_below (by (with_reducible repeat (first | apply Kd.R_alloc | apply Kd.R_drewN | apply Kd.R_drew)); exact HO294.out) hb)
      have n4_ := am (Kd.S_below (by (with_reducible repeat (first | apply Kd.S_alloc | apply Kd.S_drewN | apply Kd.S_drew)); exact HO298.out) hb)
      have n5_ := am (Bk4 (g := gb278) (o := .cells #[.slice A0_0 l0_0.length c0_0] 24 (0, 0)) (by (with_reducible repeat (first | refine Bk2 ?_ _ | refine Bk3 ?_ | refine Bk1 ?_ _)); exact BK278.out) hb)
      have n6_ := am (Bk4 (g := gb291) (o := .cells #[.slice Ao38 t288.length co38] 29 (0, 0)) (by (with_reducible repeat (first | refine Bk2 ?_ _ | refine Bk3 ?_ | refine Bk1 ?_ _)); exact BK291.out) hb)
      have n7_ := am (Bb6 (by repeat (first | (with_reducible first | exact HB.out | apply Bb1 | apply Bb2 | apply Bb3 | refine Bb4 ?_ GE278.out | refine Bb4 ?_ GE291.out) | exact HB.out)) hb)
      clear HO283
      clear HO286
      clear HO290
      clear HO294
      clear HO298
      clear BK278
      clear BK291
      clear HB
      have HO283 := n0_
      have HO286 := n1_
      have HO290 := n2_
      have HO294 := n3_
      have HO298 := n4_
      have BK278 := n5_
      have BK291 := n6_
      have HB := n7_
      clear n0_ n1_ n2_ n3_ n4_ n5_ n6_ n7_
      (try clear hb)
      (try clear hb2)
      (try clear hk)
      (try clear hi)
      refine hK.out _ _ ⟨(kc BK291.out 0).trans rfl, (kc BK278.out 0).trans rfl⟩ (fun hHeld => ?_)
      clear hK K
      refine norm_ (a' := ?_) ?_ ?_
      rotate_left
      ·show Act.put _ (some 38) _ = _
       simp only [Act.put, sa, i64_w, i32_w]
       rfl
      refine pure_ (i := 4) (N := some 39) (v := ?_) (a' := ?_) #[true, true, true, true, true] rfl rfl (by kernel_rfl) (fun _ _ _ h => h) (Or.inl ⟨by rfl, ?_⟩) ?_ ?_
      rotate_left
      ·intro w'
       go_simp
       with_reducible rfl
      rotate_left
      ·simp only [Act.put, sa, i64_w, i32_w]
       rfl
      refine done_ (by kernel_rfl) ?_
      try go_wp2_with (first | ((with_reducible refine gate_callee (f := 20) rfl ?_); refine goesL_ (some 42) rfl rfl Try.func20 (by kernel_rfl) rfl #[.slice A1 l1.length c1] rfl (by (try simp only [List.map_toArray, List.map_cons, List.map_nil]); first | done | rfl | (simp only [List.length_drop, List.length_take]; rfl)) ?_; (with_reducible refine (laws_toCubeS.calls k _ _ l1 t300 _ ?side1 ?side2 A23.out).mono ?_); (case side1 => repeat (first | exact (Kd.C_below HR1.out HB.out) | (with_reducible refine Kd.C_alloc ?_ _) | (with_reducible refine Kd.C_drewN ?_ _) | (with_reducible refine Kd.C_drew ?_))); (case side2 => exact HC1.out); rintro e w49 ⟨v301, rfl, ho0, hb⟩; refine ⟨_, rfl, ?_⟩; have n0_ := am (Kd.S_elder' (by (with_reducible repeat (first | apply Kd.S_alloc | apply Kd.S_drewN | apply Kd.S_drew)); exact HO283.out) (Kd.R_base ho0) hb); have n1_ := am (Kd.R_elder' (by (with_reducible repeat (first | apply Kd.R_alloc | apply Kd.R_drewN | apply Kd.R_drew)); exact HO286.out) (Kd.R_base ho0) hb); have n2_ := am (Kd.S_elder' (by (with_reducible repeat (first | apply Kd.S_alloc | apply Kd.S_drewN | apply Kd.S_drew)); exact HO290.out) (Kd.R_base ho0) hb); have n3_ := am (Kd.R_elder' (by (with_reducible repeat (first | apply Kd.R_alloc | apply Kd.R_drewN | apply Kd.R_drew)); exact HO294.out) (Kd.R_base ho0) hb); have n4_ := am (Kd.S_elder' (by (with_reducible repeat (first | apply Kd.S_alloc | apply Kd.S_drewN | apply Kd.S_drew)); exact HO298.out) (Kd.R_base ho0) hb); have n5_ := am (Kd.R_lower (Kd.R_new' (Kd.R_new' ho0 (Kd.R_lt (by (with_reducible repeat (first | apply Kd.R_alloc | apply Kd.R_drewN | apply Kd.R_drew)); exact HO286.out))) (Kd.R_lt (by (with_reducible repeat (first | apply Kd.R_alloc | apply Kd.R_drewN | apply Kd.R_drew)); exact HO294.out))) (Bb5 (by repeat (first | (with_reducible first | exact HB.out | apply Bb1 | apply Bb2 | apply Bb3 | refine Bb4 ?_ GE278.out | refine Bb4 ?_ GE291.out) | exact HB.out)))); have n6_ := am (Bk4 (g := gb278) (o := .cells #[.slice A0_0 l0_0.length c0_0] 24 (0, 0)) (by (with_reducible repeat (first | refine Bk2 ?_ _ | refine Bk3 ?_ | refine Bk1 ?_ _)); exact BK278.out) hb); have n7_ := am (Bk4 (g := gb291) (o := .cells #[.slice Ao38 t288.length co38] 29 (0, 0)) (by (with_reducible repeat (first | refine Bk2 ?_ _ | refine Bk3 ?_ | refine Bk1 ?_ _)); exact BK291.out) hb); have n8_ := am (Bb6 (by repeat (first | (with_reducible first | exact HB.out | apply Bb1 | apply Bb2 | apply Bb3 | refine Bb4 ?_ GE278.out | refine Bb4 ?_ GE291.out) | exact HB.out)) hb); clear HO283; clear HO286; clear HO290; clear HO294; clear HO298; clear BK278; clear BK291; clear HB; have HO283 := n0_; have HO286 := n1_; have HO290 := n2_; have HO294 := n3_; have HO298 := n4_; have HO302 := n5_; have BK278 := n6_; have BK291 := n7_; have HB := n8_; clear n0_ n1_ n2_ n3_ n4_ n5_ n6_ n7_ n8_; (try clear hb); (try clear hb2); (try clear hk); (try clear hi); (try clear ho0); obtain ⟨Ao50, co50, eo50⟩ := Kd.R_slice HO302.out; subst eo50) | ((with_reducible refine gate_callee (f := 22) rfl ?_); refine goesL_ (some 43) rfl rfl Try.func22 (by kernel_rfl) rfl #[.slice Ao43 t292.length co43, .slice Ao50 t300.length co50] rfl (by (try simp only [List.map_toArray, List.map_cons, List.map_nil]); first | done | rfl | (simp only [List.length_drop, List.length_take]; rfl)) ?_; (with_reducible refine (laws_eqCubeS.calls k _ _ t292 _ _ t300 true _ ?side1 ?side2 ?side3 ?side4 A24.out).mono ?_); (case side1 => repeat (first | exact (Kd.R_reads' HO294.out).2.2 | (with_reducible refine Kd.C_alloc ?_ _) | (with_reducible refine Kd.C_drewN ?_ _) | (with_reducible refine Kd.C_drew ?_))); (case side2 => exact (Kd.R_reads' HO294.out).2.1); (case side3 => repeat (first | exact (Kd.R_reads' HO302.out).2.2 | (with_reducible refine Kd.C_alloc ?_ _) | (with_reducible refine Kd.C_drewN ?_ _) | (with_reducible refine Kd.C_drew ?_))); (case side4 => exact (Kd.R_reads' HO302.out).2.1); rintro e w51 ⟨rfl, hb⟩; refine ⟨_, rfl, ?_⟩; have n0_ := am (Kd.S_below (by (with_reducible repeat (first | apply Kd.S_alloc | apply Kd.S_drewN | apply Kd.S_drew)); exact HO283.out) hb); have n1_ := am (Kd.R_below (by (with_reducible repeat (first | apply Kd.R_alloc | apply Kd.R_drewN | apply Kd.R_drew)); exact HO286.out) hb); have n2_ := am (Kd.S_below (by (with_reducible repeat (first | apply Kd.S_alloc | apply Kd.S_drewN | apply Kd.S_drew)); exact HO290.out) hb); have n3_ := am (Kd.R_below (by (with_reducible repeat (first | apply Kd.R_alloc | apply Kd.R_drewN | apply Kd.R_drew)); exact HO294.out) hb); have n4_ := am (Kd.S_below (by (with_reducible repeat (first | apply Kd.S_alloc | apply Kd.S_drewN | apply Kd.S_drew)); exact HO298.out) hb); have n5_ := am (Kd.R_below (by (with_reducible repeat (first | apply Kd.R_alloc | apply Kd.R_drewN | apply Kd.R_drew)); exact HO302.out) hb); have n6_ := am (Bk4 (g := gb278) (o := .cells #[.slice A0_0 l0_0.length c0_0] 24 (0, 0)) (by (with_reducible repeat (first | refine Bk2 ?_ _ | refine Bk3 ?_ | refine Bk1 ?_ _)); exact BK278.out) hb); have n7_ := am (Bk4 (g := gb291) (o := .cells #[.slice Ao38 t288.length co38] 29 (0, 0)) (by (with_reducible repeat (first | refine Bk2 ?_ _ | refine Bk3 ?_ | refine Bk1 ?_ _)); exact BK291.out) hb); have n8_ := am (Bb6 (by repeat (first | (with_reducible first | exact HB.out | apply Bb1 | apply Bb2 | apply Bb3 | refine Bb4 ?_ GE278.out | refine Bb4 ?_ GE291.out) | exact HB.out)) hb); clear HO283; clear HO286; clear HO290; clear HO294; clear HO298; clear HO302; clear BK278; clear BK291; clear HB; have HO283 := n0_; have HO286 := n1_; have HO290 := n2_; have HO294 := n3_; have HO298 := n4_; have HO302 := n5_; have BK278 := n6_; have BK291 := n7_; have HB := n8_; clear n0_ n1_ n2_ n3_ n4_ n5_ n6_ n7_ n8_; (try clear hb); (try clear hb2); (try clear hk); (try clear hi)))
      go_ret
      exact ⟨by first | rfl | (simp [errW_none, errW_some] <;> rfl) | (simp [*, errW_none, errW_some] <;> rfl), by repeat (first | (with_reducible first | exact HB.out | apply Bb1 | apply Bb2 | apply Bb3 | refine Bb4 ?_ GE278.out | refine Bb4 ?_ GE291.out) | exact HB.out)⟩
     ·replace c25 := ef c25
      subst c25
      have H1 : (some false) = some true := by first | (rw [if_neg (show ¬ (false = true) by decide)] at H; exact H) | rfl
      clear H
      have H := H1
      clear H1
      exact absurd H (by simp)
    ·replace c22 := ef c22
     subst c22
     have H1 : (some false) = some true := by first | (rw [if_neg (show ¬ (false = true) by decide)] at H; exact H) | rfl
     clear H
     have H := H1
     clear H1
     exact absurd H (by simp)

end Go.Proofs.Ytjgnlakgojookaa.Q

/- Written by a program of this session (wip/tools/pp.py) out of the translation, with the kit's printer. -/
import Derived.Test.YtcgnnfaemjjljaaDoorQ0
import Derived.Test.YtcgnnfaemjjljaaDoorQ26
import Derived.Test.YtcgnnfaemjjljaaDoorQGspecl01From
import Derived.Test.YtcgnnfaemjjljaaDoorQGspecl01Next
import Derived.Test.YtcgnnfaemjjljaaDoorQ41
namespace Go.Proofs.YtcgnnfaemjjljaaDoor.Q
open Go.RowKit Go.Proofs.YtcgnnfaemjjljaaDoorW.PrintWords Go.Proofs.YtcgnnfaemjjljaaDoorW.PrintLast Go.Proofs.YtcgnnfaemjjljaaDoorW.PrintMore
attribute [local go_sem] max2_int min2_int max_two min_two max_three min_three max_four min_four
set_option linter.unusedVariables false
set_option linter.unusedSimpArgs false

/-! ### spec_DrawTurnWord: function 24 -/
def spec_DrawTurnWord.f (k : Nat) (l0 : List Int) : Option (ByteArray × Int) := (spec_l01From.f l0).bind fun bt439 => ((spec_l23Draw.f k bt439.1 bt439.2.1 bt439.2.2).bind fun bt443 => ((spec_l01Next.f bt439.1 bt443.2.1 bt443.2.2 5).bind fun bt446 => ((spec_l01Next.f bt439.1 bt446.2.1 bt446.2.2 20).bind fun bt449 => (some (bt443.1, wrap64 (bt446.1 - (wrap64 (Int.tdiv bt449.1 19))))))))
theorem spec_DrawTurnWord.mono : ∀ a0 k, LeO (spec_DrawTurnWord.f k a0) (spec_DrawTurnWord.f (k + 1) a0) := by
 intro a0 k
 unfold spec_DrawTurnWord.f
 repeat' first
   | (with_reducible exact spec_l23Draw.mono _ _ _ _)
   | (with_reducible exact LeO.refl _)
   | (with_reducible exact LeO.none _)
   | (with_reducible refine LeO.ite ?_ ?_)
   | (with_reducible refine LeO.bind ?_ (fun _ => ?_))
   | exact spec_l23Draw.mono _ _ _ _
   | exact LeO.none _
   | refine LeO.ite ?_ ?_
   | refine LeO.bind ?_ (fun _ => ?_)
set_option maxHeartbeats 8000000 in
set_option maxRecDepth 100000 in
theorem spec_DrawTurnWord.calls (k : Nat) (A0 : Option Addr) (c0 : Nat) (l0 : List Int) (r1 : ByteArray) (r2 : Int) (w : World) (hr0 : Kd.C (Kd.int .u8) w A0 l0.length l0) (hc0 : l0.length ≤ c0) (h : spec_DrawTurnWord.f k l0 = some (r1, r2)) :
  Calls Tryd.prog 24 #[.slice A0 l0.length c0] w fun e w' => e = .returned (.tuple #[.string r1, .int .i64 r2]) ∧ Below w.heap.size w w' := by
 have HR0 := am hr0
 have HC0 := am hc0
 clear hr0 hc0
 have HB := am (Below.refl w.heap.size w)
 have H : ((spec_l01From.f l0).bind fun bt439 => ((spec_l23Draw.f k bt439.1 bt439.2.1 bt439.2.2).bind fun bt443 => ((spec_l01Next.f bt439.1 bt443.2.1 bt443.2.2 5).bind fun bt446 => ((spec_l01Next.f bt439.1 bt446.2.1 bt446.2.2 20).bind fun bt449 => (some (bt443.1, wrap64 (bt446.1 - (wrap64 (Int.tdiv bt449.1 19))))))))) = some (r1, r2) := h
 clear h
 replace H := ob H
 obtain ⟨⟨t439, t440, t441⟩, A20, H⟩ := H
 replace H : ((spec_l23Draw.f k t439 t440 t441).bind fun bt443 => ((spec_l01Next.f t439 bt443.2.1 bt443.2.2 5).bind fun bt446 => ((spec_l01Next.f t439 bt446.2.1 bt446.2.2 20).bind fun bt449 => (some (bt443.1, wrap64 (bt446.1 - (wrap64 (Int.tdiv bt449.1 19)))))))) = some (r1, r2) := H
 have A2 := am A20
 clear A20
 replace H := ob H
 obtain ⟨⟨t443, t444, t445⟩, A30, H⟩ := H
 replace H : ((spec_l01Next.f t439 t444 t445 5).bind fun bt446 => ((spec_l01Next.f t439 bt446.2.1 bt446.2.2 20).bind fun bt449 => (some (t443, wrap64 (bt446.1 - (wrap64 (Int.tdiv bt449.1 19))))))) = some (r1, r2) := H
 have A3 := am A30
 clear A30
 replace H := ob H
 obtain ⟨⟨t446, t447, t448⟩, A40, H⟩ := H
 replace H : ((spec_l01Next.f t439 t447 t448 20).bind fun bt449 => (some (t443, wrap64 (t446 - (wrap64 (Int.tdiv bt449.1 19)))))) = some (r1, r2) := H
 have A4 := am A40
 clear A40
 replace H := ob H
 obtain ⟨⟨t449, t450, t451⟩, A50, H⟩ := H
 replace H : (some (t443, wrap64 (t446 - (wrap64 (Int.tdiv t449 19))))) = some (r1, r2) := H
 have A5 := am A50
 clear A50
 simp only [Option.some.injEq, Prod.mk.injEq] at H
 obtain ⟨rfl, rfl⟩ := H
 go_enter Tryd.func24, Tryd.ntmps24
 go_wp2_with (first | ((with_reducible refine gate_callee (f := 42) rfl ?_); refine goesL_ (some 7) rfl rfl Tryd.func42 (by kernel_rfl) rfl #[.slice A0 l0.length c0] rfl (by (try simp only [List.map_toArray, List.map_cons, List.map_nil]); first | done | rfl | (simp only [List.length_drop, List.length_take]; rfl)) ?_; (with_reducible refine (spec_l01From.calls _ _ l0 t439 t440 t441 w _ ?side1 ?side2 ?side3 A2.out).mono ?_); (case side1 => repeat (first | (with_reducible first | exact HB.out | apply b1 | apply b2 | apply b3) | exact HB.out)); (case side2 => exact HR0.out); (case side3 => exact HC0.out); rintro e w6 ⟨g442, rfl, hi, hb, hb2⟩; refine ⟨_, rfl, ?_⟩; have n0_ := am (hb); have n1_ := am (hi); clear HB; have HB := n0_; have HI442 := n1_; clear n0_ n1_; (try clear hb); (try clear hb2); (try clear hk); (try clear hi)) | ((with_reducible refine gate_callee (f := 43) rfl ?_); refine goesL_ (some 9) rfl rfl Tryd.func43 (by kernel_rfl) rfl #[.pointer (some ⟨g442, 0, none⟩)] rfl (by (try simp only [List.map_toArray, List.map_cons, List.map_nil]); first | done | rfl | (simp only [List.length_drop, List.length_take]; rfl)) ?_; (with_reducible refine (spec_l23Draw.calls k g442 t439 t440 t441 t443 t444 t445 w _ ?side1 ?side2 A3.out).mono ?_); (case side1 => repeat (first | (with_reducible first | exact HI442.out | apply IsS60.alloc | apply IsS60.drewN | apply IsS60.drew | apply IsS60.set_1 | apply IsS60.set_2) | exact HI442.out)); (case side2 => repeat (first | (with_reducible first | exact HB.out | apply b1 | apply b2 | apply b3 | refine b4 ?_ (IsS60.ge HI442.out)) | exact HB.out)); rintro e w7 ⟨rfl, hi, hb, hk⟩; refine ⟨_, rfl, ?_⟩; have n0_ := am (hb); have n1_ := am (hi); clear HB; clear HI442; have HB := n0_; have HI442 := n1_; clear n0_ n1_; (try clear hb); (try clear hb2); (try clear hk); (try clear hi)) | ((with_reducible refine gate_callee (f := 44) rfl ?_); refine goesL_ (some 12) rfl rfl Tryd.func44 (by kernel_rfl) rfl #[.pointer (some ⟨g442, 0, none⟩), .int .i64 5] rfl (by (try simp only [List.map_toArray, List.map_cons, List.map_nil]); first | done | rfl | (simp only [List.length_drop, List.length_take]; rfl)) ?_; (with_reducible refine (spec_l01Next.calls g442 t439 t444 t445 5 t446 t447 t448 w _ ?side1 ?side2 A4.out).mono ?_); (case side1 => repeat (first | (with_reducible first | exact HI442.out | apply IsS60.alloc | apply IsS60.drewN | apply IsS60.drew | apply IsS60.set_1 | apply IsS60.set_2) | exact HI442.out)); (case side2 => repeat (first | (with_reducible first | exact HB.out | apply b1 | apply b2 | apply b3 | refine b4 ?_ (IsS60.ge HI442.out)) | exact HB.out)); rintro e w8 ⟨rfl, hi, hb, hk⟩; refine ⟨_, rfl, ?_⟩; have n0_ := am (hb); have n1_ := am (hi); clear HB; clear HI442; have HB := n0_; have HI442 := n1_; clear n0_ n1_; (try clear hb); (try clear hb2); (try clear hk); (try clear hi)) | ((with_reducible refine gate_callee (f := 44) rfl ?_); refine goesL_ (some 14) rfl rfl Tryd.func44 (by kernel_rfl) rfl #[.pointer (some ⟨g442, 0, none⟩), .int .i64 20] rfl (by (try simp only [List.map_toArray, List.map_cons, List.map_nil]); first | done | rfl | (simp only [List.length_drop, List.length_take]; rfl)) ?_; (with_reducible refine (spec_l01Next.calls g442 t439 t447 t448 20 t449 t450 t451 w _ ?side1 ?side2 A5.out).mono ?_); (case side1 => repeat (first | (with_reducible first | exact HI442.out | apply IsS60.alloc | apply IsS60.drewN | apply IsS60.drew | apply IsS60.set_1 | apply IsS60.set_2) | exact HI442.out)); (case side2 => repeat (first | (with_reducible first | exact HB.out | apply b1 | apply b2 | apply b3 | refine b4 ?_ (IsS60.ge HI442.out)) | exact HB.out)); rintro e w9 ⟨rfl, hi, hb, hk⟩; refine ⟨_, rfl, ?_⟩; have n0_ := am (hb); have n1_ := am (hi); clear HB; clear HI442; have HB := n0_; have HI442 := n1_; clear n0_ n1_; (try clear hb); (try clear hb2); (try clear hk); (try clear hi)))
 go_ret2
 exact ⟨by first | rfl | (simp [errW_none, errW_some] <;> rfl) | (simp [*, errW_none, errW_some] <;> rfl), by repeat (first | (with_reducible first | exact HB.out | apply b1 | apply b2 | apply b3 | refine b4 ?_ (IsS60.ge HI442.out)) | exact HB.out)⟩

/-! ### spec_DrawBackWord: function 25 -/
def spec_DrawBackWord.f (k : Nat) (l0 : List Int) : Option (ByteArray) := (spec_l01From.f l0).bind fun bt452 => ((spec_l23Draw.f k bt452.1 bt452.2.1 bt452.2.2).bind fun bt456 => (some bt456.1))
theorem spec_DrawBackWord.mono : ∀ a0 k, LeO (spec_DrawBackWord.f k a0) (spec_DrawBackWord.f (k + 1) a0) := by
 intro a0 k
 unfold spec_DrawBackWord.f
 repeat' first
   | (with_reducible exact spec_l23Draw.mono _ _ _ _)
   | (with_reducible exact LeO.refl _)
   | (with_reducible exact LeO.none _)
   | (with_reducible refine LeO.ite ?_ ?_)
   | (with_reducible refine LeO.bind ?_ (fun _ => ?_))
   | exact spec_l23Draw.mono _ _ _ _
   | exact LeO.none _
   | refine LeO.ite ?_ ?_
   | refine LeO.bind ?_ (fun _ => ?_)
set_option maxHeartbeats 8000000 in
set_option maxRecDepth 100000 in
theorem spec_DrawBackWord.calls (k : Nat) (A0 : Option Addr) (c0 : Nat) (l0 : List Int) (r : ByteArray) (w : World) (hr0 : Kd.C (Kd.int .u8) w A0 l0.length l0) (hc0 : l0.length ≤ c0) (h : spec_DrawBackWord.f k l0 = some r) :
  Calls Tryd.prog 25 #[.slice A0 l0.length c0] w fun e w' => e = .returned (.string r) ∧ Below w.heap.size w w' := by
 have HR0 := am hr0
 have HC0 := am hc0
 clear hr0 hc0
 have HB := am (Below.refl w.heap.size w)
 have H : ((spec_l01From.f l0).bind fun bt452 => ((spec_l23Draw.f k bt452.1 bt452.2.1 bt452.2.2).bind fun bt456 => (some bt456.1))) = some r := h
 clear h
 replace H := ob H
 obtain ⟨⟨t452, t453, t454⟩, A20, H⟩ := H
 replace H : ((spec_l23Draw.f k t452 t453 t454).bind fun bt456 => (some bt456.1)) = some r := H
 have A2 := am A20
 clear A20
 replace H := ob H
 obtain ⟨⟨t456, t457, t458⟩, A30, H⟩ := H
 replace H : (some t456) = some r := H
 have A3 := am A30
 clear A30
 obtain rfl := oi H
 go_enter Tryd.func25, Tryd.ntmps25
 go_wp2_with (first | ((with_reducible refine gate_callee (f := 42) rfl ?_); refine goesL_ (some 4) rfl rfl Tryd.func42 (by kernel_rfl) rfl #[.slice A0 l0.length c0] rfl (by (try simp only [List.map_toArray, List.map_cons, List.map_nil]); first | done | rfl | (simp only [List.length_drop, List.length_take]; rfl)) ?_; (with_reducible refine (spec_l01From.calls _ _ l0 t452 t453 t454 w _ ?side1 ?side2 ?side3 A2.out).mono ?_); (case side1 => repeat (first | (with_reducible first | exact HB.out | apply b1 | apply b2 | apply b3) | exact HB.out)); (case side2 => exact HR0.out); (case side3 => exact HC0.out); rintro e w4 ⟨g455, rfl, hi, hb, hb2⟩; refine ⟨_, rfl, ?_⟩; have n0_ := am (hb); have n1_ := am (hi); clear HB; have HB := n0_; have HI455 := n1_; clear n0_ n1_; (try clear hb); (try clear hb2); (try clear hk); (try clear hi)) | ((with_reducible refine gate_callee (f := 43) rfl ?_); refine goesL_ (some 5) rfl rfl Tryd.func43 (by kernel_rfl) rfl #[.pointer (some ⟨g455, 0, none⟩)] rfl (by (try simp only [List.map_toArray, List.map_cons, List.map_nil]); first | done | rfl | (simp only [List.length_drop, List.length_take]; rfl)) ?_; (with_reducible refine (spec_l23Draw.calls k g455 t452 t453 t454 t456 t457 t458 w _ ?side1 ?side2 A3.out).mono ?_); (case side1 => repeat (first | (with_reducible first | exact HI455.out | apply IsS60.alloc | apply IsS60.drewN | apply IsS60.drew | apply IsS60.set_1 | apply IsS60.set_2) | exact HI455.out)); (case side2 => repeat (first | (with_reducible first | exact HB.out | apply b1 | apply b2 | apply b3 | refine b4 ?_ (IsS60.ge HI455.out)) | exact HB.out)); rintro e w5 ⟨rfl, hi, hb, hk⟩; refine ⟨_, rfl, ?_⟩; have n0_ := am (hb); have n1_ := am (hi); clear HB; clear HI455; have HB := n0_; have HI455 := n1_; clear n0_ n1_; (try clear hb); (try clear hb2); (try clear hk); (try clear hi)))
 go_ret
 exact ⟨by first | rfl | (simp [errW_none, errW_some] <;> rfl) | (simp [*, errW_none, errW_some] <;> rfl), by repeat (first | (with_reducible first | exact HB.out | apply b1 | apply b2 | apply b3 | refine b4 ?_ (IsS60.ge HI455.out)) | exact HB.out)⟩

end Go.Proofs.YtcgnnfaemjjljaaDoor.Q

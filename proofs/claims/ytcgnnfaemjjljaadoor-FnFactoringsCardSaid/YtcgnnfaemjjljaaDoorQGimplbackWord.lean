/- Written by a program of this session (wip/tools/pp.py) out of the translation, with the kit's printer. -/
import Derived.Test.YtcgnnfaemjjljaaDoorQ0
import Derived.Test.YtcgnnfaemjjljaaDoorQGimplturnWord
import Derived.Test.YtcgnnfaemjjljaaDoorShl
import Derived.Shelf.SlicesE.Reverse
import Derived.Lib.OwnBridge
namespace Go.Proofs.YtcgnnfaemjjljaaDoor.Q
open Go.RowKit Go.Proofs.YtcgnnfaemjjljaaDoorW.PrintWords Go.Proofs.YtcgnnfaemjjljaaDoorW.PrintLast Go.Proofs.YtcgnnfaemjjljaaDoorW.PrintMore
attribute [local go_sem] max2_int min2_int max_two min_two max_three min_three max_four min_four
set_option linter.unusedVariables false
set_option linter.unusedSimpArgs false

/-! ### impl_backWord: walked by hand -/
open Go.Sort
def impl_backWord.f (a0 : ByteArray) : Option ByteArray :=
  if a0.size ≤ 1000000000 ∧ a0.data.toList.all isL = true then some ⟨(a0.data.toList.map (turnU 2)).reverse.toArray⟩ else none
instance : Inhabited UInt8 := ⟨0⟩
theorem rev_conv (w : World) (s : ByteArray) (hs : s.size ≤ 1000000000) : Calls Tryd.prog 46 #[.slice (some ⟨w.heap.size, 0, none⟩) s.size (grownCap w s.size 0 5)] (Lib.bytesWorld w 5 s) fun e w' =>
    e = .returned (.tuple #[]) ∧ Holds enc8 w' w.heap.size 0 s.data.toList.reverse.toArray ∧ Below w.heap.size w w' := by
  have h0 := holds_conv w s 0
  rw [show mixL 0 s.data.toList 0 = s.data.toList by simp [mixL]] at h0
  have hl : s.data.toList.length = s.size := by rw [Array.length_toList]; rfl
  have h1 := AnyE.slices_Reverse Tryd.rev enc8 (fun _ => rfl) w.heap.size 0 (grownCap w s.size 0 5) s.data.toList (Lib.bytesWorld w 5 s) h0 (by omega)
  rw [hl] at h1
  refine Calls.mono h1 fun e w' h => ?_
  obtain ⟨he, n, rfl⟩ := h
  exact ⟨he, holds_putRow enc8 _ _ 0 s.data.toList.toArray _ h0 (by simp), Lib.below_putRow (below_conv w s _) (Nat.le_refl _)⟩
set_option maxHeartbeats 1000000 in
theorem impl_backWord.calls (a0 : ByteArray) (r : ByteArray) (w : World) (h : impl_backWord.f a0 = some r) :
    Calls Tryd.prog 34 #[.string a0] w fun e w' => e = .returned (.string r) ∧ Below w.heap.size w w' := by
  unfold impl_backWord.f at h
  split at h
  case isFalse => exact absurd h (by simp)
  rename_i hh
  obtain ⟨hsz, hall⟩ := hh
  obtain rfl := Option.some.inj h
  clear h
  have hlen : a0.data.toList.length = a0.size := by rw [Array.length_toList]; rfl
  generalize hs : (⟨(a0.data.toList.map (turnU 2)).toArray⟩ : ByteArray) = s
  have hsl : s.data.toList = a0.data.toList.map (turnU 2) := by rw [← hs]
  have hss : s.size = a0.size := by
    have h1 : s.data.toList.length = s.size := by rw [Array.length_toList]; rfl
    rw [← h1, hsl, List.length_map, hlen]
  have ht : impl_turnWord.f a0 2 = some s := by
    unfold impl_turnWord.f
    rw [if_pos ⟨hsz, by omega, by omega, hall⟩, ← hs]
    rfl
  rw [← hsl]
  have HT := Aside0.mk ht
  have HSS := Aside0.mk hss
  clear ht hs hsl hall hlen hss
  have hcv := fun w : World => Lib.run_convert_string_bytes (P := Tryd.prog) w 9 32 5 s Tryd.underlying9 Tryd.underlying32 Tryd.underlying5
  go_enter Tryd.func34, Tryd.ntmps34
  go_wp2_with (first
    | (go_at_call 32; (with_reducible refine (impl_turnWord.calls _ _ _ _ HT.out).mono ?_); rintro e w1 ⟨rfl, hb1⟩; have HB1 := Aside0.mk hb1; clear hb1; have HREV := Aside0.mk (rev_conv w1 s (by have := HSS.out; omega)); skip)
    | (go_at_call 46; refine HREV.out.mono ?_; rintro e w2 ⟨rfl, hw2⟩; have HH := Aside0.mk hw2.1; have HB3 := Aside0.mk (HB1.out.trans (hw2.2.mono HB1.out.size)); have hback := conv_back w2 w1.heap.size (grownCap w1 s.size 0 5) s.data.toList.reverse hw2.1; rw [List.length_reverse, show s.data.toList.length = s.size by rw [Array.length_toList]; rfl] at hback; clear hw2))
  go_ret
  exact ⟨rfl, HB3.out⟩

end Go.Proofs.YtcgnnfaemjjljaaDoor.Q

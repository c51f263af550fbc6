/- Written by a program of this session (wip/tools/pp.py) out of the translation, with the kit's printer. -/
import Derived.Test.YtcgnnfaemjjljaaDoorQ0
import Derived.Test.YtcgnnfaemjjljaaDoorQGstringsIndexByte
import Derived.Lib.ConvBytes
import Derived.Lib.OwnBridge
import Derived.Laws.IdiomStrings
import Derived.Lib.Strings
namespace Go.Proofs.YtcgnnfaemjjljaaDoor.Q
open Go.RowKit Go.Proofs.YtcgnnfaemjjljaaDoorW.PrintWords Go.Proofs.YtcgnnfaemjjljaaDoorW.PrintLast Go.Proofs.YtcgnnfaemjjljaaDoorW.PrintMore
attribute [local go_sem] max2_int min2_int max_two min_two max_three min_three max_four min_four
set_option linter.unusedVariables false
set_option linter.unusedSimpArgs false

/-! ### impl_turnWord: walked by hand -/
open Go.Sort
def enc8 (b : UInt8) : Value := .int .u8 (b.toNat : Int)
def idxL (b : UInt8) : Nat := if b = 114 then 0 else if b = 100 then 1 else if b = 108 then 2 else 3
def isL (b : UInt8) : Bool := b == 114 || b == 100 || b == 108 || b == 117
def letL (i : Nat) : UInt8 := ([114, 100, 108, 117] : List UInt8).getD (i % 4) 0
def turnU (t : Nat) (b : UInt8) : UInt8 := letL (idxL b + t)
def impl_turnWord.f (a0 : ByteArray) (a1 : Int) : Option ByteArray :=
  if a0.size ≤ 1000000000 ∧ 0 ≤ a1 ∧ a1 ≤ 3 ∧ a0.data.toList.all isL = true then some ⟨(a0.data.toList.map (turnU a1.toNat)).toArray⟩ else none
theorem holds_set {w : World} {B j : Nat} {l : List UInt8} (x : UInt8) (h : Holds enc8 w B 0 l.toArray) (hj : j < l.length) : Holds enc8 (w.setCell ⟨B, j, none⟩ (enc8 x)) B 0 (l.set j x).toArray := by
  have h1 := putRow_set enc8 w B 0 l.toArray j x (by simpa using hj)
  rw [putRow_self enc8 w B 0 l.toArray h] at h1
  rw [Nat.zero_add] at h1
  rw [h1]
  have h2 := holds_putRow enc8 w B 0 l.toArray (l.set j x).toArray h (by simp)
  simpa using h2
def mixL (t : Nat) (l : List UInt8) (k : Nat) : List UInt8 := (l.take k).map (turnU t) ++ l.drop k
theorem mixL_len (t : Nat) (l : List UInt8) (k : Nat) : (mixL t l k).length = l.length := by
  unfold mixL
  simp
  omega
theorem mixL_get (t : Nat) (l : List UInt8) (k i : Nat) : (mixL t l k)[i]? = if i < k then (l[i]?).map (turnU t) else l[i]? := by
  unfold mixL
  by_cases hi : i < (l.take k).length
  · have h2 : i < k ∧ i < l.length := by rw [List.length_take] at hi; omega
    rw [List.getElem?_append_left (by rw [List.length_map]; exact hi), List.getElem?_map, List.getElem?_take, if_pos h2.1, if_pos h2.1]
  · have h2 : ¬ (i < k ∧ i < l.length) := by rw [List.length_take] at hi; omega
    rw [List.getElem?_append_right (by rw [List.length_map]; omega), List.getElem?_drop, List.length_map, List.length_take]
    by_cases hk : i < k
    · rw [if_pos hk, List.getElem?_eq_none (by omega : l.length ≤ i), List.getElem?_eq_none (by omega)]
      rfl
    · rw [if_neg hk]
      by_cases hl : k ≤ l.length
      · congr 1
        omega
      · rw [List.getElem?_eq_none (by omega : l.length ≤ i), List.getElem?_eq_none (by omega)]
theorem mixL_set (t : Nat) (l : List UInt8) (k : Nat) (h : k < l.length) : (mixL t l k).set k (turnU t l[k]) = mixL t l (k + 1) := by
  apply List.ext_getElem?
  intro i
  rw [mixL_get]
  by_cases e : k = i
  · subst e
    rw [List.getElem?_set_self (by rw [mixL_len]; exact h), if_pos (by omega), List.getElem?_eq_getElem h]
    rfl
  · rw [List.getElem?_set_ne e, mixL_get]
    by_cases h2 : i < k
    · rw [if_pos h2, if_pos (by omega)]
    · rw [if_neg h2, if_neg (by omega)]
theorem mixL_end (t : Nat) (l : List UInt8) : mixL t l l.length = l.map (turnU t) := by simp [mixL]
theorem mixL_at (t : Nat) (l : List UInt8) (k : Nat) (h : k < l.length) : (mixL t l k).toArray[k]! = l[k] := by
  have h2 : k < (mixL t l k).length := by rw [mixL_len]; exact h
  rw [getElem!_pos _ k (by simpa using h2)]
  simp only [List.getElem_toArray]
  have h3 := mixL_get t l k k
  rw [if_neg (by omega), List.getElem?_eq_getElem h, List.getElem?_eq_getElem h2] at h3
  exact Option.some.inj h3
theorem run_circ (w : World) (r : Nat) (h : r < 4) : (Instr.index 9 (.string ⟨#[114, 100, 108, 117]⟩) (.int .i64 (r : Int))).run Tryd.prog w = .ok (enc8 (letL r)) w := by
  match r, h with
  | 0, _ => show Sem.run _ _ _ = _; kernel_rfl
  | 1, _ => show Sem.run _ _ _ = _; kernel_rfl
  | 2, _ => show Sem.run _ _ _ = _; kernel_rfl
  | 3, _ => show Sem.run _ _ _ = _; kernel_rfl
theorem idx_circ (b : UInt8) (h : isL b = true) : Lib.indexByte [114, 100, 108, 117] (Int.toNat (b.toNat : Int)).toUInt8 = (idxL b : Int) := by
  unfold isL at h
  simp at h
  rcases h with ((rfl | rfl) | rfl) | rfl <;> decide
theorem idxL_lt (b : UInt8) : idxL b < 4 := by
  unfold idxL
  split
  · omega
  · split
    · omega
    · split <;> omega
theorem letL_mod (i : Nat) : letL (i % 4) = letL i := by unfold letL; rw [Nat.mod_mod]
theorem holds_conv (w : World) (s : ByteArray) (t : Nat) : Holds enc8 (Lib.bytesWorld w 5 s) w.heap.size 0 (mixL t s.data.toList 0).toArray := by
  have e : mixL t s.data.toList 0 = s.data.toList := by simp [mixL]
  rw [e]
  intro j hj
  have hj2 : j < s.data.toList.length := by simpa using hj
  have hsz : s.data.toList.length = s.size := by rw [Array.length_toList]; rfl
  rw [Nat.zero_add]
  constructor
  · rw [Lib.bytesWorld_cell w _ s j (by omega)]
    simp only [enc8]
    rw [getElem!_pos _ j (by simpa using hj), List.getD_eq_getElem?_getD, List.getElem?_eq_getElem hj2]
    simp
  · have h1 := Lib.bytesWorld_at_new w 5 s
    have hc : (Lib.bytesCells w 5 s).size ≥ s.size := by simp [Lib.bytesCells]
    unfold World.frozen?
    rw [h1]
    simp
    omega
theorem conv_back (w : World) (B cap : Nat) (l : List UInt8) (h : Holds enc8 w B 0 l.toArray) : (convert 32 9 (.slice (some ⟨B, 0, none⟩) l.length cap)).run Tryd.prog w = .ok (.string ⟨l.toArray⟩) w := by
  refine run_convert_bytes_back w 32 9 5 ⟨B, 0, none⟩ cap l Tryd.underlying32 Tryd.underlying5 Tryd.underlying9 (fun j hj => ?_)
  have h1 := (h j (by simpa using hj)).1
  rw [getElem!_pos _ j (by simpa using hj)] at h1
  by_cases e : j = 0
  · subst e
    simpa [Addr.add, enc8] using h1
  · simpa [Addr.add, enc8, e] using h1
theorem below_conv (w : World) (s : ByteArray) (e : TypeId) : Below w.heap.size w (Lib.bytesWorld w e s) := by
  refine ⟨rfl, rfl, rfl, by rw [Lib.bytesWorld_size]; omega, fun k hk => Lib.bytesWorld_at_old w e s k hk⟩
set_option maxHeartbeats 1000000 in
theorem impl_turnWord.calls (a0 : ByteArray) (a1 : Int) (r : ByteArray) (w : World) (h : impl_turnWord.f a0 a1 = some r) :
    Calls Tryd.prog 32 #[.string a0, .int .i64 a1] w fun e w' => e = .returned (.string r) ∧ Below w.heap.size w w' := by
  unfold impl_turnWord.f at h
  split at h
  case isFalse => exact absurd h (by simp)
  rename_i hh
  obtain ⟨hsz, h0, h3, hall⟩ := hh
  obtain rfl := Option.some.inj h
  clear h
  obtain ⟨t, rfl⟩ : ∃ m : Nat, a1 = (m : Int) := ⟨a1.toNat, by omega⟩
  rw [Int.toNat_natCast]
  have hlen : a0.data.toList.length = a0.size := by rw [Array.length_toList]; rfl
  have HALL := Aside0.mk hall
  have HLEN := Aside0.mk hlen
  clear hall hlen
  have hcv := fun w : World => Lib.run_convert_string_bytes (P := Tryd.prog) w 9 32 5 a0 Tryd.underlying9 Tryd.underlying32 Tryd.underlying5
  generalize hcap : (fun w : World => grownCap w a0.size 0 5) = cap at hcv
  have HCAP := Aside0.mk hcap
  clear hcap
  go_enter Tryd.func32, Tryd.ntmps32
  go_wp2
  go_loopw [12] (fun i wr => ∃ kk : Nat, kk ≤ a0.size ∧ i = .int .i64 kk ∧ Aside0 (Holds enc8 wr w.heap.size 0 (mixL t a0.data.toList kk).toArray) ∧ Aside0 (Below w.heap.size w wr)) (fun i _ => a0.size - (intOf i).toNat)
  case atStart => exact ⟨0, Nat.zero_le _, rfl, ⟨holds_conv w a0 _⟩, ⟨below_conv w a0 _⟩⟩
  case round =>
    obtain ⟨kk, hk, rfl, HH, HB⟩ := hrel
    by_cases hlt : kk < a0.size
    · have hl : kk < a0.data.toList.length := by rw [HLEN.out]; exact hlt
      have hc := (HH.out kk (by simp [mixL_len, HLEN.out, hlt])).1
      have hf := (HH.out kk (by simp [mixL_len, HLEN.out, hlt])).2
      rw [mixL_at t _ kk hl, Nat.zero_add] at hc
      rw [Nat.zero_add] at hf
      have hb : isL (a0.data.toList[kk]) = true := List.all_eq_true.1 HALL.out _ (List.getElem_mem hl)
      have hi := idx_circ _ hb
      have hset := holds_set (turnU t (a0.data.toList[kk])) HH.out (by rw [mixL_len]; exact hl)
      rw [mixL_set t _ kk hl] at hset
      have HS := Aside0.mk hset
      clear hset hb
      unfold turnU at HS
      have hx : idxL (a0.data.toList[kk]) < 4 := idxL_lt _
      generalize hbb : a0.data.toList[kk] = b at hc hi HS hx
      have HBB := Aside0.mk hbb
      clear hbb
      generalize hxx : idxL b = x at hi HS hx
      have HXX := Aside0.mk hxx
      clear hxx
      have hcall := fun w : World => strings_IndexByte.same ⟨#[114, 100, 108, 117]⟩ (b.toNat : Int) w
      rw [show (⟨#[114, 100, 108, 117]⟩ : ByteArray).data.toList = [114, 100, 108, 117] from rfl, hi] at hcall
      clear hi
      have hr := fun w : World => run_circ w ((x + t) % 4) (by omega)
      have e1 : (((x + t) % 4 : Nat) : Int) = ((x : Int) + (t : Int)) % 4 := by omega
      rw [e1] at hr
      rw [letL_mod] at hr
      unfold enc8 at hc hr HS
      clear e1
      go_wp2_with (go_at_call 39; refine (hcall _).mono ?_; rintro e w' ⟨rfl, rfl⟩)
      refine ⟨⟨kk + 1, by omega, by go_num, HS, ⟨below_set HB.out (Nat.le_refl _)⟩⟩, ?_⟩
      simp [intOf]
      omega
    · have e : kk = a0.data.toList.length := by rw [HLEN.out]; omega
      have hh := HH.out
      rw [e, mixL_end] at hh
      have hback := conv_back wr w.heap.size (grownCap w a0.size 0 5) (a0.data.toList.map (turnU t)) hh
      rw [List.length_map, HLEN.out] at hback
      clear hh e
      go_wp2
      go_ret
      exact ⟨rfl, HB.out⟩

end Go.Proofs.YtcgnnfaemjjljaaDoor.Q

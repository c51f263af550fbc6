/- A map that the call makes, told by the list of what was stored into it, the newest first: its look-ups, its stores, its length; keys and elements of whatever kind; no condition but that a key reads as one. -/
import Derived.Maps.OwnSet
import Derived.Maps.Views
import Derived.DeepKeys4
import Derived.WalkKit
import Derived.Deep.Draws
namespace Go.Proofs.YtbphiipcnjelbaaGreat
open Go.RowKit Go.Maps Go.WideMaps
set_option linter.unusedVariables false

section
variable {κ ε : Type} [DecidableEq κ]
/-- What the map holds at a key. -/
def mget : List (κ × ε) → κ → Option ε
  | [], _ => none
  | p :: r, x => if p.1 = x then some p.2 else mget r x
/-- How many keys it holds. -/
def mlen : List (κ × ε) → Nat
  | [] => 0
  | p :: r => if (mget r p.1).isSome then mlen r else mlen r + 1
theorem mlen_le : ∀ L : List (κ × ε), mlen L ≤ L.length
  | [] => Nat.le_refl _
  | p :: r => by have := mlen_le r; unfold mlen; split <;> simp <;> omega
end

abbrev RV : Value → Option (DataW Value × List MemPlace) := fun v => some (.held v, [])
noncomputable def klit {κ : Type} (P : Program) (k : TypeId) (kv : κ → Value) (x : κ) : Lit := (keyOf P k (kv x)).getD (.bool false)
noncomputable def DM {κ ε : Type} (kl : κ → Lit) (ev : ε → Value) : List (κ × ε) → DataW Value
  | [] => .map []
  | p :: r => (DM kl ev r).put (kl p.1) (.held (ev p.2))
def KOk {κ : Type} (P : Program) (k : TypeId) (kv : κ → Value) (x : κ) : Prop := (keyOf P k (kv x)).isSome = true
/-- Block b of w is a map that holds L. -/
def VM {κ ε : Type} (P : Program) (k : TypeId) (kv : κ → Value) (ev : ε → Value) (w : World) (b : Nat) (L : List (κ × ε)) : Prop :=
  w.ownsMap P k RV b L.length (DM (klit P k kv) ev L) ∧ ∀ p ∈ L, KOk P k kv p.1

section
variable {κ ε : Type} {P : Program} {k : TypeId} {kv : κ → Value} {ev : ε → Value} {w : World} {b : Nat} {L : List (κ × ε)}
theorem klit_of {x : κ} (h : KOk P k kv x) : keyOf P k (kv x) = some (klit P k kv x) := by
  unfold KOk at h
  unfold klit
  cases e : keyOf P k (kv x) with
  | none => rw [e] at h; cases h
  | some l => rfl
theorem klit_ne (K : Keyed P k) (hi : ∀ x y, kv x = kv y → x = y) {x y : κ} (hx : KOk P k kv x) (hy : KOk P k kv y) (hne : x ≠ y) : klit P k kv x ≠ klit P k kv y := by
  intro e
  have h1 := klit_of hx
  have h2 := klit_of hy
  rw [← e] at h2
  exact hne (hi _ _ (K.inj h1 h2))
theorem DM_isMap : ∀ L : List (κ × ε), IsMap (DM (klit P k kv) ev L)
  | [] => ⟨[], rfl⟩
  | p :: r => (DM_isMap r).put _ _
theorem DM_tidy (K : Keyed P k) : ∀ L : List (κ × ε), (∀ p ∈ L, KOk P k kv p.1) → Tidy (DM (klit P k kv) ev L)
  | [], _ => ⟨[], rfl, List.Pairwise.nil⟩
  | p :: r, h => (DM_tidy K r (fun q hq => h q (List.mem_cons_of_mem _ hq))).put (K.key (klit_of (h p List.mem_cons_self))) _
theorem VM.made (w : World) : VM P k kv ev (w.alloc (.map #[] 0)) w.heap.size ([] : List (κ × ε)) := ⟨World.ownsMap_made _ _ _ _, fun p hp => by cases hp⟩
theorem VM.lt (h : VM P k kv ev w b L) : b < w.heap.size := h.1.lt
theorem VM.kept {w' : World} {row : Option Nat} (h : VM P k kv ev w b L) (hg : w.grownBy w' row) (hne : some b ≠ row) : VM P k kv ev w' b L := ⟨h.1.kept hg hne, h.2⟩
theorem VM.alloc (h : VM P k kv ev w b L) (o : Obj) : VM P k kv ev (w.alloc o) b L := ⟨h.1.alloc o, h.2⟩
theorem VM.drew (h : VM P k kv ev w b L) : VM P k kv ev w.drew b L := h
theorem VM.drewN (h : VM P k kv ev w b L) (n : Nat) : VM P k kv ev (w.drewN n) b L := h
theorem VM.below {w' : World} (h : VM P k kv ev w b L) (hb : Below w.heap.size w w') : VM P k kv ev w' b L := h.kept (row := none) ⟨hb.os, hb.tape, hb.output, hb.size, fun i hi _ => hb.block i hi⟩ (by simp)
theorem VM.put (K : Keyed P k) (h : VM P k kv ev w b L) {t e : TypeId} (ht : P.underlying t = some (.map k e)) (hn : L.length < maxLen) {x : κ} (hx : KOk P k kv x) (y : ε) :
    ∃ w', (Instr.mapUpdate t (.map (some b)) (kv x) (ev y)).run P w = .ok () w' ∧ VM P k kv ev w' b ((x, y) :: L) ∧ w.grownBy w' (some b) := by
  obtain ⟨w', hr, ho, hg⟩ := h.1.update K ht hn (klit_of hx) (val := ev y) (d := .held (ev y)) (ps := []) rfl
  refine ⟨w', hr, ⟨ho, fun p hp => ?_⟩, hg⟩
  rcases List.mem_cons.1 hp with rfl | hp
  · exact hx
  · exact h.2 p hp

end
section
variable {κ ε : Type} [DecidableEq κ] {P : Program} {k : TypeId} {kv : κ → Value} {ev : ε → Value} {w : World} {b : Nat} {L : List (κ × ε)}
theorem DM_at (K : Keyed P k) (hi : ∀ x y, kv x = kv y → x = y) {x : κ} (hx : KOk P k kv x) (z : Value) : ∀ L : List (κ × ε), (∀ p ∈ L, KOk P k kv p.1) →
    (DM (klit P k kv) ev L).atKey (klit P k kv x) (.held z) = .held (((mget L x).map ev).getD z)
  | [], _ => rfl
  | p :: r, h => by
    have hp := h p List.mem_cons_self
    unfold DM mget
    by_cases e : p.1 = x
    · rw [if_pos e, e, atKey_put_same (DM_isMap r) (K.key (klit_of hx))]; rfl
    · rw [if_neg e, atKey_put_other (klit_ne K hi hx hp (fun e2 => e e2.symm)), DM_at K hi hx z r (fun q hq => h q (List.mem_cons_of_mem _ hq))]
theorem DM_has (K : Keyed P k) (hi : ∀ x y, kv x = kv y → x = y) {x : κ} (hx : KOk P k kv x) : ∀ L : List (κ × ε), (∀ p ∈ L, KOk P k kv p.1) →
    Maps.has (DM (klit P k kv) ev L) (klit P k kv x) = (mget L x).isSome
  | [], _ => rfl
  | p :: r, h => by
    have hp := h p List.mem_cons_self
    unfold DM mget
    by_cases e : p.1 = x
    · rw [if_pos e, e, has_put_same (DM_isMap r) (K.key (klit_of hx))]; rfl
    · rw [if_neg e, has_put_other (klit_ne K hi hx hp (fun e2 => e e2.symm)), DM_has K hi hx r (fun q hq => h q (List.mem_cons_of_mem _ hq))]
theorem DM_size (K : Keyed P k) (hi : ∀ x y, kv x = kv y → x = y) : ∀ L : List (κ × ε), (∀ p ∈ L, KOk P k kv p.1) → Maps.size (DM (klit P k kv) ev L) = mlen L
  | [], _ => rfl
  | p :: r, h => by
    have hr : ∀ q ∈ r, KOk P k kv q.1 := fun q hq => h q (List.mem_cons_of_mem _ hq)
    unfold DM mlen
    rw [size_put (DM_tidy K r hr), DM_has K hi (h p List.mem_cons_self) r hr, DM_size K hi r hr]

theorem VM.len (K : Keyed P k) (hi : ∀ x y, kv x = kv y → x = y) (h : VM P k kv ev w b L) {t e : TypeId} (ht : P.underlying t = some (.map k e)) (ty : TypeId) :
    (Builtin.len_ #[t] ty #[.map (some b)]).run P w = .ok (.int .i64 (mlen L)) w := by
  rw [h.1.len ht ty, DM_size K hi L h.2]
theorem VM.look (K : Keyed P k) (hi : ∀ x y, kv x = kv y → x = y) (h : VM P k kv ev w b L) {t e : TypeId} (ht : P.underlying t = some (.map k e)) {z : Value} (hz : (zeroValue e).run P w = .ok z w) {x : κ} (hx : KOk P k kv x) :
    (Instr.lookup t (.map (some b)) (kv x) false).run P w = .ok (((mget L x).map ev).getD z) w := by
  obtain ⟨v, ps, hr, hv⟩ := h.1.lookup K ht hz (zd := .held z) (zp := []) rfl (klit_of hx)
  rw [DM_at K hi hx z L h.2] at hv
  injection hv with hv
  injection hv with hv _
  injection hv with hv
  rw [hr, hv]
theorem VM.look_ok (K : Keyed P k) (hi : ∀ x y, kv x = kv y → x = y) (h : VM P k kv ev w b L) {t e : TypeId} (ht : P.underlying t = some (.map k e)) {z : Value} (hz : (zeroValue e).run P w = .ok z w) {x : κ} (hx : KOk P k kv x) :
    (Instr.lookup t (.map (some b)) (kv x) true).run P w = .ok (.tuple #[((mget L x).map ev).getD z, .bool (mget L x).isSome]) w := by
  obtain ⟨v, ps, hr, hv⟩ := h.1.look_ok K ht hz (zd := .held z) (zp := []) rfl (klit_of hx)
  rw [DM_at K hi hx z L h.2] at hv
  injection hv with hv
  injection hv with hv _
  injection hv with hv
  rw [hr, hv, DM_has K hi hx L h.2]
end

/-- A key that is a struct of two whole numbers. -/
theorem key_pair {P : Program} {k i : TypeId} {f0 f1 : Field} (hu : P.underlying k = some (.struct #[f0, f1])) (hi : P.underlying i = some (.int .i64)) (t0 : f0.type = i) (t1 : f1.type = i) (o0 : f0.offset = 0) (o1 : f1.offset = 1)
    (n0 : (f0.name != "_") = true) (n1 : (f1.name != "_") = true) (hc : P.cellsOf k = 2) (hc2 : P.cellsOf i = 1) (hk : P.keyType k = true) (hs : 0 < P.types.size) {x y : Int} (hx : (Lit.int .i64 x).wf = true) (hy : (Lit.int .i64 y).wf = true) :
    (keyOf P k (.agg #[.int .i64 x, .int .i64 y])).isSome = true := by
  obtain ⟨m, hm⟩ : ∃ m, P.types.size = m + 1 := ⟨P.types.size - 1, by omega⟩
  unfold keyOf
  rw [hu]
  simp [hk, Value.formed, hu, hc, hm, Program.keyLits, hi, hc2, hx, hy, Value.cells, t0, t1, o0, o1, n0, n1]
theorem key_triple {P : Program} {k i : TypeId} {f0 f1 f2 : Field} (hu : P.underlying k = some (.struct #[f0, f1, f2])) (hi : P.underlying i = some (.int .i64)) (t0 : f0.type = i) (t1 : f1.type = i) (t2 : f2.type = i) (o0 : f0.offset = 0) (o1 : f1.offset = 1) (o2 : f2.offset = 2)
    (n0 : (f0.name != "_") = true) (n1 : (f1.name != "_") = true) (n2 : (f2.name != "_") = true) (hc : P.cellsOf k = 3) (hc2 : P.cellsOf i = 1) (hk : P.keyType k = true) (hs : 0 < P.types.size) {x y z : Int} (hx : (Lit.int .i64 x).wf = true) (hy : (Lit.int .i64 y).wf = true) (hz : (Lit.int .i64 z).wf = true) :
    (keyOf P k (.agg #[.int .i64 x, .int .i64 y, .int .i64 z])).isSome = true := by
  obtain ⟨m, hm⟩ : ∃ m, P.types.size = m + 1 := ⟨P.types.size - 1, by omega⟩
  unfold keyOf
  rw [hu]
  simp [hk, Value.formed, hu, hc, hm, Program.keyLits, hi, hc2, hx, hy, hz, Value.cells, t0, t1, t2, o0, o1, o2, n0, n1, n2]
/-! ### at the operation, for the walk -/
section
variable {κ ε : Type} {P : Program} {k : TypeId} {kv : κ → Value} {ev : ε → Value} {w : World} {b : Nat} {L : List (κ × ε)} {ops : Array Oper} {rest : List Oper} {o : Oper} {a : Act} {Q : Exit → Act → World → Prop}
theorem wpList_vm_put (hg : o.guard = none) (m x v : Operand) (t : TypeId) (hop : o.op = Op.mapUpdate t m x v) (e : TypeId) (K : Keyed P k) (ht : P.underlying t = some (.map k e)) (h : VM P k kv ev w b L)
    (hm : a.eval m = .map (some b)) (hn : L.length < maxLen) (q : κ) (y : ε) (hx : a.eval x = kv q) (hv : a.eval v = ev y) (hkey : KOk P k kv q)
    (hK : ∀ w', VM P k kv ev w' b ((q, y) :: L) → w.grownBy w' (some b) → wpList P ops Q rest (a.put o.dst undef) w') : wpList P ops Q (o :: rest) a w := by
  refine wpList_plain hg fun K' hK' => ?_
  obtain ⟨w', hrun, r1, r2⟩ := h.put K ht hn hkey y
  unfold Oper.wp
  simp [execOp, hop, hm, hx, hv, hrun, Result.andThen]
  exact hK' _ _ (hK w' r1 r2)
theorem wpList_vm_look [DecidableEq κ] (hg : o.guard = none) (m x : Operand) (t : TypeId) (hop : o.op = Op.lookup t m x false) (e : TypeId) (K : Keyed P k) (hi : ∀ x y, kv x = kv y → x = y) (ht : P.underlying t = some (.map k e)) (h : VM P k kv ev w b L) {z : Value} (hz : (zeroValue e).run P w = .ok z w)
    (hm : a.eval m = .map (some b)) (q : κ) (hx : a.eval x = kv q) (hkey : KOk P k kv q)
    (hK : wpList P ops Q rest (a.put o.dst (((mget L q).map ev).getD z)) w) : wpList P ops Q (o :: rest) a w := by
  refine wpList_plain hg fun K' hK' => ?_
  have hrun := h.look K hi ht hz hkey
  unfold Oper.wp
  simp [execOp, hop, hm, hx, hrun, Result.andThen]
  exact hK' _ _ hK
theorem wpList_vm_look_ok [DecidableEq κ] (hg : o.guard = none) (m x : Operand) (t : TypeId) (hop : o.op = Op.lookup t m x true) (e : TypeId) (K : Keyed P k) (hi : ∀ x y, kv x = kv y → x = y) (ht : P.underlying t = some (.map k e)) (h : VM P k kv ev w b L) {z : Value} (hz : (zeroValue e).run P w = .ok z w)
    (hm : a.eval m = .map (some b)) (q : κ) (hx : a.eval x = kv q) (hkey : KOk P k kv q)
    (hK : wpList P ops Q rest (a.put o.dst (.tuple #[((mget L q).map ev).getD z, .bool (mget L q).isSome])) w) : wpList P ops Q (o :: rest) a w := by
  refine wpList_plain hg fun K' hK' => ?_
  have hrun := h.look_ok K hi ht hz hkey
  unfold Oper.wp
  simp [execOp, hop, hm, hx, hrun, Result.andThen]
  exact hK' _ _ hK
theorem wpList_vm_len [DecidableEq κ] (hg : o.guard = none) (m : Operand) (t : TypeId) (hop : o.op = Op.call { callee := Callee.builtin Builtin.len, args := #[m], argTypes := #[t] }) (e : TypeId) (K : Keyed P k) (hi : ∀ x y, kv x = kv y → x = y) (ht : P.underlying t = some (.map k e)) (h : VM P k kv ev w b L)
    (hm : a.eval m = .map (some b)) (hK : wpList P ops Q rest (a.put o.dst (.int .i64 (mlen L))) w) : wpList P ops Q (o :: rest) a w := by
  refine wpList_plain hg fun K' hK' => ?_
  unfold Oper.wp
  simp [execOp, hop, resolve, invoke, builtin, hm, h.len K hi ht o.type, Result.andThen]
  exact hK' _ _ hK
end
end Go.Proofs.YtbphiipcnjelbaaGreat

/- The abstract machine: each operation that it reckons comes to the same in the model, in whatever world stands for its heap. -/
import Derived.Test.YtlpnbbonbclddaaQifhochhalo
namespace Go.Proofs.Ytlpnbbonbclddaa.A
open Go Go.RowKit
set_option linter.unusedVariables false
set_option linter.unusedSimpArgs false
variable {P : Program} {ρ : Names} {W w : World} {h : Heap}
theorem isAggT_row {t : TypeId} (hq : isAggT P t = some true) : ∃ d, P.underlying t = some d ∧ d.isRow = true := by
  unfold isAggT at hq
  split at hq <;> simp at hq
  · exact ⟨_, by assumption, rfl⟩
  · exact ⟨_, by assumption, rfl⟩
theorem isAggT_flat {t : TypeId} (hq : isAggT P t = some false) : ∃ d, P.underlying t = some d ∧ d.isRow = false := by
  unfold isAggT at hq
  split at hq <;> simp at hq
  rename_i d h1 h2 h3
  refine ⟨d, h3, ?_⟩
  unfold TypeDesc.isRow
  split
  · exact (h1 _ rfl).elim
  · exact (h2 _ _ rfl).elim
  · rfl
theorem run_isAgg_row {t : TypeId} (hq : isAggT P t = some true) (w : World) : (isAgg t).run P w = .ok true w := by
  obtain ⟨d, h1, h2⟩ := isAggT_row hq
  unfold isAgg
  rw [Sem.run_bind, run_underlying h1 w]
  cases d <;> simp_all
theorem run_isAgg_flat {t : TypeId} (hq : isAggT P t = some false) (w : World) : (isAgg t).run P w = .ok false w := by
  obtain ⟨d, h1, h2⟩ := isAggT_flat hq
  unfold isAgg
  rw [Sem.run_bind, run_underlying h1 w]
  cases d <;> simp_all
theorem run_size {t : TypeId} {n : Nat} (hq : sizeT P t = some n) (w : World) : (sizeOf t).run P w = .ok n w := by
  unfold sizeT at hq
  cases hi : P.info? t with
  | none => simp [hi] at hq
  | some i => simp [hi] at hq; simp [sizeOf, typeInfo, hi, hq]
theorem run_zero {t : TypeId} {z : AV} (hq : zeroT P t = some z) (ρ : Names) (W w : World) : ∃ V, (zeroValue t).run P w = .ok V w ∧ RV ρ W z V := by
  unfold zeroT at hq
  split at hq
  · rename_i i hi
    split at hq
    · rename_i v hv
      exact ⟨v, by simp [zeroValue, typeInfo, hi, hv], ofV_ok ρ W 3 v z hq⟩
    · cases hq
  · cases hq
theorem run_loadVar_flat {t : TypeId} (hq : isAggT P t = some false) {a : Addr} {V : Value} (hc : w.cell? a = some V) : (loadVar t a).run P w = .ok V w := by
  simp [loadVar, run_isAgg_flat hq, hc]
theorem run_loadVar_agg {t : TypeId} (hq : isAggT P t = some true) {b o : Nat} {cs : List Value} (hs : sizeT P t = some cs.length) (hc : w.rangeAt b o cs) : (loadVar t ⟨b, o, none⟩).run P w = .ok (.agg cs.toArray) w := by
  obtain ⟨d, h1, h2⟩ := isAggT_row hq
  exact run_loadVar_mid w b o t cs d hc h1 h2 hs
theorem evAll_ok {e : Operand → Option AV} {a : Act} (he : ∀ x v, e x = some v → RV ρ W v (a.eval x)) : ∀ (l : List Operand) (vs : List AV), evAll e l = some vs → RL ρ W vs (l.map a.eval)
  | [], vs, hq => by simp [evAll] at hq; subst hq; exact .nil
  | x :: l, vs, hq => by
    simp only [evAll] at hq
    split at hq
    · rename_i v us h1 h2
      simp at hq; subst hq
      exact .cons (he _ _ h1) (evAll_ok he l us h2)
    · cases hq
/-- Parts of a struct, each for its own. -/
inductive RP (ρ : Names) (W : World) : List (Nat × AV) → List (Nat × Value) → Prop
  | nil : RP ρ W [] []
  | cons {i : Nat} {v : AV} {V : Value} {l : List (Nat × AV)} {L : List (Nat × Value)} (h : RV ρ W v V) (t : RP ρ W l L) : RP ρ W ((i, v) :: l) ((i, V) :: L)
theorem evParts_ok {e : Operand → Option AV} {a : Act} (he : ∀ x v, e x = some v → RV ρ W v (a.eval x)) : ∀ (l : List (Nat × Operand)) (vs : List (Nat × AV)), evParts e l = some vs → RP ρ W vs (l.map fun (i, x) => (i, a.eval x))
  | [], vs, hq => by simp [evParts] at hq; subst hq; exact .nil
  | (i, x) :: l, vs, hq => by
    simp only [evParts] at hq
    split at hq
    · rename_i v us h1 h2
      simp at hq; subst hq
      exact .cons (he _ _ h1) (evParts_ok he l us h2)
    · cases hq
theorem cellsAt_ok {l c : List AV} {L : List Value} {j n : Nat} (hl : RL ρ W l L) (hq : cellsAt l j n = some c) : RL ρ W c ((L.drop j).take n) ∧ ((L.drop j).take n).length = n := by
  unfold cellsAt at hq
  split at hq
  · rename_i hlt
    simp at hq; subst hq
    have := hl.length
    exact ⟨(hl.drop j).take n, by simp; omega⟩
  · cases hq
theorem rangeAt_part {b o j n : Nat} {L : List Value} (hc : ∀ x v, L[x]? = some v → w.cell? ⟨b, o + x, none⟩ = some v) : w.rangeAt b (o + j) ((L.drop j).take n) := by
  intro x v hx
  rw [List.getElem?_take] at hx
  split at hx
  · rw [List.getElem?_drop] at hx
    have := hc _ _ hx
    rwa [← Nat.add_assoc] at this
  · cases hx
theorem upTo_length : ∀ (n a : Nat), (upTo a n).length = n
  | 0, _ => rfl
  | n + 1, a => by simp [upTo, upTo_length n (a + 1)]
theorem upTo_get : ∀ (n a k : Nat), (upTo a n)[k]? = if k < n then some (a + k) else none
  | 0, a, k => by simp [upTo]
  | n + 1, a, 0 => by simp [upTo]
  | n + 1, a, k + 1 => by
    simp only [upTo, List.getElem?_cons_succ, upTo_get n (a + 1) k, Nat.add_lt_add_iff_right]
    split
    · congr 1; omega
    · rfl
theorem upTo_mem {n a k : Nat} : k ∈ upTo a n ↔ a ≤ k ∧ k < a + n := by
  rw [List.mem_iff_getElem?]
  constructor
  · rintro ⟨i, hi⟩
    rw [upTo_get] at hi
    split at hi
    · simp at hi; omega
    · cases hi
  · rintro ⟨h1, h2⟩
    exact ⟨k - a, by rw [upTo_get, if_pos (by omega)]; congr 1; omega⟩
theorem loadA_ok (hR : Rel ρ W h w) {rd : Nat → Option Ob} (hrd : ∀ n x, rd n = some x → h[n]? = some (some x)) {t : TypeId} {x v : AV} {X : Value} (hx : RV ρ W x X)
    (hq : loadA P rd t x = some (true, v)) : ∃ V, (Instr.loadAt t X).run P w = .ok V w ∧ RV ρ W v V := by
  unfold loadA at hq
  split at hq
  case h_2 => cases hq
  rename_i ag n hag hsz
  split at hq
  case h_4 => cases hq
  case h_3 m i s j =>
    cases hx with
    | gp i s j hp =>
    rename_i b cap
    split at hq
    case h_2 => cases hq
    rename_i z e s' l hl
    obtain ⟨b', o', h1, h2⟩ := hR.ob m _ (hrd _ _ hl)
    rw [hp] at h1; cases h1
    obtain ⟨_, _, L, fz, h4, _, _, _, hle, h5⟩ := h2
    have hc : ∀ x v, (L.take l.length)[x]? = some v → w.cell? ⟨b, 0 + x, none⟩ = some v := fun x v hv => by
      rw [List.getElem?_take] at hv
      split at hv
      · simp [World.cell?, h4, hv]
      · cases hv
    cases ag with
    | true =>
      simp only [if_true, Option.map_eq_some_iff, Prod.mk.injEq, true_and] at hq
      obtain ⟨c, hc1, rfl⟩ := hq
      obtain ⟨g1, g2⟩ := cellsAt_ok h5 hc1
      refine ⟨_, ?_, .agg g1⟩
      simp only [Instr.loadAt, Instr.sureAddr, Sem.run_bind, Sem.run_pure, Result.andThen_ok]
      have := rangeAt_part (n := n) (j := i * s + j) hc
      rw [Nat.zero_add] at this
      exact run_loadVar_agg hag (by rw [g2]; exact hsz) this
    | false =>
      simp only [Bool.false_eq_true, if_false, Option.map_eq_some_iff, Prod.mk.injEq, true_and] at hq
      obtain ⟨c, hc1, rfl⟩ := hq
      obtain ⟨V, g1, g2⟩ := h5.get _ _ hc1
      refine ⟨V, ?_, g2⟩
      simp only [Instr.loadAt, Instr.sureAddr, Sem.run_bind, Sem.run_pure, Result.andThen_ok]
      have := hc _ _ g1
      rw [Nat.zero_add] at this
      exact run_loadVar_flat hag this
  case h_1 m i s j =>
    cases hx with
    | ptr i s j hp =>
    rename_i b o
    split at hq
    case h_3 => cases hq
    case h_1 l hl =>
      obtain ⟨b', o', h1, h2⟩ := hR.ob m _ (hrd _ _ hl)
      rw [hp] at h1; cases h1
      obtain ⟨_, h3, L, tt, h4, h5⟩ := h2
      subst h3
      have hc : ∀ x v, L[x]? = some v → w.cell? ⟨b, 0 + x, none⟩ = some v := fun x v hv => by simp [World.cell?, h4, hv]
      cases ag with
      | true =>
        simp only [if_true, Option.map_eq_some_iff, Prod.mk.injEq, true_and] at hq
        obtain ⟨c, hc1, rfl⟩ := hq
        obtain ⟨g1, g2⟩ := cellsAt_ok h5 hc1
        refine ⟨_, ?_, .agg g1⟩
        simp only [Instr.loadAt, Instr.sureAddr, Sem.run_bind, Sem.run_pure, Result.andThen_ok]
        exact run_loadVar_agg hag (by rw [g2]; exact hsz) (rangeAt_part hc)
      | false =>
        simp only [Bool.false_eq_true, if_false, Option.map_eq_some_iff, Prod.mk.injEq, true_and] at hq
        obtain ⟨c, hc1, rfl⟩ := hq
        obtain ⟨V, g1, g2⟩ := h5.get _ _ hc1
        refine ⟨V, ?_, g2⟩
        simp only [Instr.loadAt, Instr.sureAddr, Sem.run_bind, Sem.run_pure, Result.andThen_ok]
        exact run_loadVar_flat hag (hc _ _ g1)
    case h_2 s' len c hl =>
      obtain ⟨b', o', h1, h2⟩ := hR.ob m _ (hrd _ _ hl)
      rw [hp] at h1; cases h1
      obtain ⟨V, h3, h4⟩ := h2
      split at hq
      case isFalse => cases hq
      rename_i hs
      subst hs
      cases ag with
      | true =>
        simp only [if_true] at hq
        split at hq
        case isFalse => cases hq
        rename_i hjn
        simp only [Option.some.injEq, Prod.mk.injEq, decide_eq_true_eq] at hq
        obtain ⟨hi, rfl⟩ := hq
        refine ⟨.agg ((upTo j n).map (V i)).toArray, ?_, .agg (RL.map _ _ _ fun k hk => ?_)⟩
        · simp only [Instr.loadAt, Instr.sureAddr, Sem.run_bind, Sem.run_pure, Result.andThen_ok]
          refine run_loadVar_agg hag (by simpa [upTo_length] using hsz) fun k u hk => ?_
          rw [List.getElem?_map, upTo_get] at hk
          split at hk
          · simp at hk; subst hk
            have := h3 i (j + k) hi (by omega)
            rw [show o + (i * s + j) + k = o + (i * s + (j + k)) by omega]; exact this
          · simp at hk
        · rw [upTo_mem] at hk
          exact (h4 i k hi (by omega)).ext (Ext.none ρ)
      | false =>
        simp only [Bool.false_eq_true, if_false] at hq
        split at hq
        case isFalse => cases hq
        rename_i hj
        simp only [Option.some.injEq, Prod.mk.injEq, decide_eq_true_eq] at hq
        obtain ⟨hi, rfl⟩ := hq
        refine ⟨V i j, ?_, (h4 i j hi hj).ext (Ext.none ρ)⟩
        simp only [Instr.loadAt, Instr.sureAddr, Sem.run_bind, Sem.run_pure, Result.andThen_ok]
        exact run_loadVar_flat hag (h3 i j hi hj)
  case h_2 l j =>
    cases hx with
    | cp j hb hl hc0 =>
    rename_i b o L
    have hc : ∀ x v, L[x]? = some v → w.cell? ⟨b, o + x, none⟩ = some v := fun x v hv => ((Keeps.of_below hR.bel).cell hb).trans (hc0 x v hv)
    cases ag with
    | true =>
      simp only [if_true, Option.map_eq_some_iff, Prod.mk.injEq, true_and] at hq
      obtain ⟨c, hc1, rfl⟩ := hq
      obtain ⟨g1, g2⟩ := cellsAt_ok (hl.ext (Ext.none ρ)) hc1
      refine ⟨_, ?_, .agg g1⟩
      simp only [Instr.loadAt, Instr.sureAddr, Sem.run_bind, Sem.run_pure, Result.andThen_ok]
      exact run_loadVar_agg hag (by rw [g2]; exact hsz) (rangeAt_part hc)
    | false =>
      simp only [Bool.false_eq_true, if_false, Option.map_eq_some_iff, Prod.mk.injEq, true_and] at hq
      obtain ⟨c, hc1, rfl⟩ := hq
      obtain ⟨V, g1, g2⟩ := (hl.ext (Ext.none ρ)).get _ _ hc1
      refine ⟨V, ?_, g2⟩
      simp only [Instr.loadAt, Instr.sureAddr, Sem.run_bind, Sem.run_pure, Result.andThen_ok]
      exact run_loadVar_flat hag (hc _ _ g1)
theorem setAt_nil (l : List AV) (j : Nat) : setAt l j [] = l := by cases l <;> rfl
theorem setAtV_nil (l : List Value) (j : Nat) : setAtV l j [] = l := by cases l <;> rfl
theorem setAtV_cons (l : List Value) (j : Nat) (v : Value) (vs : List Value) : setAtV l j (v :: vs) = setAtV (l.set j v) (j + 1) vs := by cases l <;> rfl
theorem setAt_cons (l : List AV) (j : Nat) (v : AV) (vs : List AV) : setAt l j (v :: vs) = setAt (l.set j v) (j + 1) vs := by cases l <;> rfl
/-- Cells of one block, stored one behind the other. -/
theorem run_storeCellsF (b : Nat) (t : TypeId) (fz : Nat × Nat) : ∀ (vs : List Value) (k i : Nat) (L : List Value) (w : World), w.heap[b]? = some (.cells L.toArray t fz) → (∀ x, x < L.length → (decide (fz.1 ≤ x) && decide (x < fz.2)) = false) → k + i + vs.length ≤ L.length → (∀ v ∈ vs, v.oneCell' = true) →
    ∃ w', (storeCells ⟨b, k, none⟩ vs i).run P w = .ok () w' ∧ w'.heap[b]? = some (.cells (setAtV L (k + i) vs).toArray t fz) ∧ (∀ q, q ≠ b → w'.heap[q]? = w.heap[q]?) ∧ w'.heap.size = w.heap.size ∧ w'.os = w.os ∧ w'.tape = w.tape ∧ w'.output = w.output
  | [], k, i, L, w, hb, _, _, _ => ⟨w, by simp [storeCells], by rw [setAtV_nil]; exact hb, fun _ _ => rfl, rfl, rfl, rfl, rfl⟩
  | v :: vs, k, i, L, w, hb, hfz, hl, h1 => by
    have hadd : (⟨b, k, none⟩ : Addr).add i = ⟨b, k + i, none⟩ := Addr.add_mid b k i
    simp only [List.length_cons] at hl
    have hlt : k + i < L.length := by omega
    have hc : w.cell? ⟨b, k + i, none⟩ = some L[k + i] := by simp [World.cell?, hb, hlt]
    have hf : w.frozen? ⟨b, k + i, none⟩ = false := by
      have := hfz _ hlt
      obtain ⟨f1, f2⟩ := fz
      simp only [World.frozen?, hb]
      simpa using this
    have hs : (store ⟨b, k + i, none⟩ v).run P w = .ok () (w.setCell ⟨b, k + i, none⟩ v) := by
      rw [run_store P w _ v _ (h1 v (by simp)), hc]; simp [hf]
    have hb' : (w.setCell ⟨b, k + i, none⟩ v).heap[b]? = some (.cells (L.set (k + i) v).toArray t fz) := by
      simp only [World.setCell, Array.getElem?_modify]
      simp [hb]
    obtain ⟨w', g1, g2, g3, g4, g5, g6, g7⟩ := run_storeCellsF b t fz vs k (i + 1) (L.set (k + i) v) (w.setCell ⟨b, k + i, none⟩ v) hb' (fun x hx => hfz x (by simpa using hx)) (by simp; omega) (fun u hu => h1 u (by simp [hu]))
    refine ⟨w', ?_, ?_, fun q hq => ?_, ?_, g5, g6, g7⟩
    · simp only [storeCells, Sem.run_bind, hadd, hs, Result.andThen_ok]; exact g1
    · rw [setAtV_cons]; rw [show k + i + 1 = k + (i + 1) by omega]; exact g2
    · rw [g3 q hq]; exact Below.heap_setCell _ _ _ _ hq
    · rw [g4]; simp
theorem run_storeCells (b : Nat) (t : TypeId) (vs : List Value) (k i : Nat) (L : List Value) (w : World) (hb : w.heap[b]? = some (.cells L.toArray t (0, 0))) (hl : k + i + vs.length ≤ L.length) (h1 : ∀ v ∈ vs, v.oneCell' = true) :
    ∃ w', (storeCells ⟨b, k, none⟩ vs i).run P w = .ok () w' ∧ w'.heap[b]? = some (.cells (setAtV L (k + i) vs).toArray t (0, 0)) ∧ (∀ q, q ≠ b → w'.heap[q]? = w.heap[q]?) ∧ w'.heap.size = w.heap.size ∧ w'.os = w.os ∧ w'.tape = w.tape ∧ w'.output = w.output :=
  run_storeCellsF b t (0, 0) vs k i L w hb (fun x _ => by simp) hl h1
theorem setAtV_length : ∀ (vs : List Value) (L : List Value) (j : Nat), (setAtV L j vs).length = L.length
  | [], L, j => by rw [setAtV_nil]
  | v :: vs, L, j => by rw [setAtV_cons, setAtV_length]; simp
theorem setAtV_take : ∀ (vs : List Value) (L : List Value) (j n : Nat), (setAtV L j vs).take n = setAtV (L.take n) j vs
  | [], L, j, n => by rw [setAtV_nil, setAtV_nil]
  | v :: vs, L, j, n => by rw [setAtV_cons, setAtV_cons, setAtV_take vs, List.take_set]
theorem storeA_ok (hR : Rel ρ W h w) {rd : Nat → Option Ob} (hrd : ∀ n x, rd n = some x → h[n]? = some (some x)) {t : TypeId} {x y : AV} {X Y : Value} (hx : RV ρ W x X) (hy : RV ρ W y Y) {n : Nat} {ob : Ob}
    (hq : storeA P rd t x y = some (n, ob)) : ∃ w', (Instr.storeAt t X Y).run P w = .ok () w' ∧ Rel ρ W (effH h 0 (.set n ob)) w' := by
  unfold storeA at hq
  split at hq
  case h_3 => cases hq
  case h_2 =>
    rename_i k m i s j hsz
    cases hx with
    | gp i s j hp =>
    rename_i b cap
    split at hq
    case h_2 => cases hq
    rename_i z e s' l hl
    split at hq
    case isFalse => cases hq
    rename_i hcond
    obtain ⟨c1, c2, c3⟩ := hcond
    simp only [Option.some.injEq, Prod.mk.injEq] at hq
    obtain ⟨rfl, rfl⟩ := hq
    have hm := hrd _ _ hl
    obtain ⟨b', o', h1, h2⟩ := hR.ob m _ hm
    rw [hp] at h1; cases h1
    obtain ⟨hW, hcap, L, fz, h4, hsz2, hz, hfz, hle, h5⟩ := h2
    have hcl := hy.cells
    have e1 := hcl.length
    have hone := hcl.one c3
    obtain ⟨w', g1, g2, g3, g4, g5, g6, g7⟩ := run_storeCellsF (P := P) b e fz Y.cells.toList (i * s + j) 0 L w h4 hfz (by omega) hone
    have hsl : (setAt l (i * s + j) y.cells).length = l.length := by
      have : ∀ (vs l : List AV) (j : Nat), (setAt l j vs).length = l.length := by
        intro vs
        induction vs with
        | nil => intro l j; rw [setAt_nil]
        | cons v vs ih => intro l j; rw [setAt_cons, ih]; simp
      exact this _ _ _
    refine ⟨w', ?_, hR.put hm rfl hp g3 g4 g5 g6 g7 ⟨hW, hcap, _, fz, g2, ?_, hz, ?_, ?_, ?_⟩⟩
    · have hsize : Y.cells.size = k := by have : Y.cells.toList.length = k := by omega
                                          simpa using this
      simp only [Instr.storeAt, Instr.sureAddr, Sem.run_bind, Sem.run_pure, Result.andThen_ok, storeVar, run_size hsz]
      rw [if_neg (by simp [hsize])]
      exact g1
    · rw [setAtV_length]; exact hsz2
    · rw [setAtV_length]; exact hfz
    · rw [setAtV_length, hsl]; exact hle
    · rw [hsl, setAtV_take, Nat.add_zero]
      exact RL.setAt hcl (i * s + j) h5
  rename_i k m i s j hsz
  cases hx with
  | ptr i s j hp =>
  rename_i b o
  split at hq
  case h_2 => cases hq
  rename_i l hl
  split at hq
  case isFalse => cases hq
  rename_i hcond
  obtain ⟨c1, c2, c3⟩ := hcond
  simp only [Option.some.injEq, Prod.mk.injEq] at hq
  obtain ⟨rfl, rfl⟩ := hq
  have hm := hrd _ _ hl
  obtain ⟨b', o', h1, h2⟩ := hR.ob m _ hm
  rw [hp] at h1; cases h1
  obtain ⟨_, h3, L, tt, h4, h5⟩ := h2
  subst h3
  have hcl := hy.cells
  have e1 := hcl.length
  have e2 := h5.length
  have hone := hcl.one c3
  obtain ⟨w', g1, g2, g3, g4, g5, g6, g7⟩ := run_storeCells (P := P) b tt Y.cells.toList (0 + (i * s + j)) 0 L w h4 (by omega) hone
  refine ⟨w', ?_, hR.store hm hp g2 g3 g4 g5 g6 g7 ?_⟩
  · have hsize : Y.cells.size = k := by have : Y.cells.toList.length = k := by omega
                                        simpa using this
    simp only [Instr.storeAt, Instr.sureAddr, Sem.run_bind, Sem.run_pure, Result.andThen_ok, storeVar, run_size hsz]
    rw [if_neg (by simp [hsize])]
    exact g1
  · simpa using RL.setAt hcl (i * s + j) h5
end Go.Proofs.Ytlpnbbonbclddaa.A

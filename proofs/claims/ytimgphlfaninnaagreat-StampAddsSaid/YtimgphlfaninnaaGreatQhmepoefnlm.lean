import Derived.Test.YtimgphlfaninnaaGreatQkpickhhgnj
import Derived.WideLaws
import Derived.ChangeKeysEq
import Derived.Great.BuildSlice
import Derived.Laws.MakeOwn
import Derived.Laws.OwnMore
import Derived.MapKept
namespace Go.Proofs.YtimgphlfaninnaaGreat.A
open Go Go.RowKit
set_option linter.unusedVariables false
set_option linter.unusedSimpArgs false
variable {P : Program} {ρ : Names} {W w : World} {h : Heap}
theorem isAggT_row {t : TypeId} (hq : isAggT P t = some true) : ∃ d, P.underlying t = some d ∧ d.isRow = true := by
 unfold isAggT at hq
 split at hq <;> simp at hq
 · exact ⟨_, by assumption, rfl⟩
 · exact ⟨_, by assumption, rfl⟩
theorem isAggT_flat {t : TypeId} (hq : isAggT P t = some false) : ∃ d, P.underlying t = some d ∧ d.isRow = false := by
 unfold isAggT at hq
 split at hq <;> simp at hq
 rename_i d h1 h2 h3
 refine ⟨d, h3, ?_⟩
 unfold TypeDesc.isRow
 split
 · exact (h1 _ rfl).elim
 · exact (h2 _ _ rfl).elim
 · rfl
theorem run_isAgg_row {t : TypeId} (hq : isAggT P t = some true) (w : World) : (isAgg t).run P w = .ok true w := by
 obtain ⟨d, h1, h2⟩ := isAggT_row hq
 unfold isAgg
 rw [Sem.run_bind, run_underlying h1 w]
 cases d <;> simp_all
theorem run_isAgg_flat {t : TypeId} (hq : isAggT P t = some false) (w : World) : (isAgg t).run P w = .ok false w := by
 obtain ⟨d, h1, h2⟩ := isAggT_flat hq
 unfold isAgg
 rw [Sem.run_bind, run_underlying h1 w]
 cases d <;> simp_all
theorem run_size {t : TypeId} {n : Nat} (hq : sizeT P t = some n) (w : World) : (sizeOf t).run P w = .ok n w := by
 unfold sizeT at hq
 cases hi : P.info? t with
 | none => simp [hi] at hq
 | some i => simp [hi] at hq; simp [sizeOf, typeInfo, hi, hq]
theorem run_zero {t : TypeId} {z : AV} (hq : zeroT P t = some z) (ρ : Names) (W w : World) : ∃ V, (zeroValue t).run P w = .ok V w ∧ RV ρ W z V := by
 unfold zeroT at hq
 split at hq
 · rename_i i hi
   split at hq
   · rename_i v hv
     exact ⟨v, by simp [zeroValue, typeInfo, hi, hv], ofV_ok ρ W 3 v z hq⟩
   · cases hq
 · cases hq
theorem run_loadVar_flat {t : TypeId} (hq : isAggT P t = some false) {a : Addr} {V : Value} (hc : w.cell? a = some V) : (loadVar t a).run P w = .ok V w := by
 simp [loadVar, run_isAgg_flat hq, hc]
theorem run_loadVar_agg {t : TypeId} (hq : isAggT P t = some true) {b o : Nat} {cs : List Value} (hs : sizeT P t = some cs.length) (hc : w.rangeAt b o cs) : (loadVar t ⟨b, o, none⟩).run P w = .ok (.agg cs.toArray) w := by
 obtain ⟨d, h1, h2⟩ := isAggT_row hq
 exact run_loadVar_mid w b o t cs d hc h1 h2 hs
theorem evAll_ok {e : Operand → Option AV} {a : Act} (he : ∀ x v, e x = some v → RV ρ W v (a.eval x)) : ∀ (l : List Operand) (vs : List AV), evAll e l = some vs → RL ρ W vs (l.map a.eval)
 | [], vs, hq => by simp [evAll] at hq; subst hq; exact .nil
 | x :: l, vs, hq => by
  simp only [evAll] at hq
  split at hq
  · rename_i v us h1 h2
    simp at hq; subst hq
    exact .cons (he _ _ h1) (evAll_ok he l us h2)
  · cases hq
inductive RP (ρ : Names) (W : World) : List (Nat × AV) → List (Nat × Value) → Prop
 | nil : RP ρ W [] []
 | cons {i : Nat} {v : AV} {V : Value} {l : List (Nat × AV)} {L : List (Nat × Value)} (h : RV ρ W v V) (t : RP ρ W l L) : RP ρ W ((i, v) :: l) ((i, V) :: L)
theorem evParts_ok {e : Operand → Option AV} {a : Act} (he : ∀ x v, e x = some v → RV ρ W v (a.eval x)) : ∀ (l : List (Nat × Operand)) (vs : List (Nat × AV)), evParts e l = some vs → RP ρ W vs (l.map fun (i, x) => (i, a.eval x))
 | [], vs, hq => by simp [evParts] at hq; subst hq; exact .nil
 | (i, x) :: l, vs, hq => by
  simp only [evParts] at hq
  split at hq
  · rename_i v us h1 h2
    simp at hq; subst hq
    exact .cons (he _ _ h1) (evParts_ok he l us h2)
  · cases hq
theorem cellsAt_ok {l c : List AV} {L : List Value} {j n : Nat} (hl : RL ρ W l L) (hq : cellsAt l j n = some c) : RL ρ W c ((L.drop j).take n) ∧ ((L.drop j).take n).length = n := by
 unfold cellsAt at hq
 split at hq
 · rename_i hlt
   simp at hq; subst hq
   have := hl.length
   exact ⟨(hl.drop j).take n, by simp; omega⟩
 · cases hq
theorem rangeAt_part {b o j n : Nat} {L : List Value} (hc : ∀ x v, L[x]? = some v → w.cell? ⟨b, o + x, none⟩ = some v) : w.rangeAt b (o + j) ((L.drop j).take n) := by
 intro x v hx
 rw [List.getElem?_take] at hx
 split at hx
 · rw [List.getElem?_drop] at hx
   have := hc _ _ hx
   rwa [← Nat.add_assoc] at this
 · cases hx
theorem upTo_length : ∀ (n a : Nat), (upTo a n).length = n
 | 0, _ => rfl
 | n + 1, a => by simp [upTo, upTo_length n (a + 1)]
theorem upTo_get : ∀ (n a k : Nat), (upTo a n)[k]? = if k < n then some (a + k) else none
 | 0, a, k => by simp [upTo]
 | n + 1, a, 0 => by simp [upTo]
 | n + 1, a, k + 1 => by
  simp only [upTo, List.getElem?_cons_succ, upTo_get n (a + 1) k, Nat.add_lt_add_iff_right]
  split
  · congr 1; omega
  · rfl
theorem upTo_mem {n a k : Nat} : k ∈ upTo a n ↔ a ≤ k ∧ k < a + n := by
 rw [List.mem_iff_getElem?]
 constructor
 · rintro ⟨i, hi⟩
   rw [upTo_get] at hi
   split at hi
   · simp at hi; omega
   · cases hi
 · rintro ⟨h1, h2⟩
   exact ⟨k - a, by rw [upTo_get, if_pos (by omega)]; congr 1; omega⟩
theorem loadA_ok (hR : Rel ρ W h w) {rd : Nat → Option Ob} (hrd : ∀ n x, rd n = some x → h[n]? = some (some x)) {t : TypeId} {x v : AV} {X : Value} (hx : RV ρ W x X)
 (hq : loadA P rd t x = some (true, v)) : ∃ V, (Instr.loadAt t X).run P w = .ok V w ∧ RV ρ W v V := by
 unfold loadA at hq
 split at hq
 case h_2 => cases hq
 rename_i ag n hag hsz
 split at hq
 case h_4 => cases hq
 case h_3 m i s j =>
  cases hx with
  | gp i s j hp =>
  rename_i b cap
  split at hq
  case h_3 => cases hq
  case h_2 =>
   rename_i e s' len c hl
   obtain ⟨b', o', h1, h2⟩ := hR.ob m _ (hrd _ _ hl)
   rw [hp] at h1; cases h1
   obtain ⟨_, _, L, h4, _, _, h5⟩ := h2
   split at hq
   case isFalse => cases hq
   rename_i hs
   subst hs
   have hcell : ∀ k V, L[i * s + k]? = some V → w.cell? ⟨b, i * s + k, none⟩ = some V := fun k V hv => by simp [World.cell?, h4, hv]
   cases ag with
   | true =>
    simp only [if_true] at hq
    split at hq
    case isFalse => cases hq
    rename_i hjn
    simp only [Option.some.injEq, Prod.mk.injEq, decide_eq_true_eq] at hq
    obtain ⟨hi, rfl⟩ := hq
    have hV : ∀ k, k < s → ∃ V, L[i * s + k]? = some V ∧ RV noNames W (c i k) V := fun k hk => by
     obtain ⟨V, g1, g2, _⟩ := h5 i k hi hk; exact ⟨V, g1, g2⟩
    refine ⟨.agg ((upTo j n).map fun k => L.getD (i * s + k) undef).toArray, ?_, .agg (RL.map _ _ _ fun k hk => ?_)⟩
    · simp only [Instr.loadAt, Instr.sureAddr, Sem.run_bind, Sem.run_pure, Result.andThen_ok]
      refine run_loadVar_agg hag (by simpa [upTo_length] using hsz) fun k u hk => ?_
      rw [List.getElem?_map, upTo_get] at hk
      split at hk
      · simp at hk; subst hk
        obtain ⟨V, g1, _⟩ := hV (j + k) (by omega)
        rw [show i * s + j + k = i * s + (j + k) by omega, hcell _ _ g1, g1]; rfl
      · simp at hk
    · rw [upTo_mem] at hk
      obtain ⟨V, g1, g2⟩ := hV k (by omega)
      simp only [List.getD, g1, Option.getD_some]
      exact g2.ext (Ext.none ρ)
   | false =>
    simp only [Bool.false_eq_true, if_false] at hq
    split at hq
    case isFalse => cases hq
    rename_i hj
    simp only [Option.some.injEq, Prod.mk.injEq, decide_eq_true_eq] at hq
    obtain ⟨hi, rfl⟩ := hq
    obtain ⟨V, g1, g2, _⟩ := h5 i j hi hj
    refine ⟨V, ?_, g2.ext (Ext.none ρ)⟩
    simp only [Instr.loadAt, Instr.sureAddr, Sem.run_bind, Sem.run_pure, Result.andThen_ok]
    exact run_loadVar_flat hag (hcell _ _ g1)
  rename_i z e s' l hl
  obtain ⟨b', o', h1, h2⟩ := hR.ob m _ (hrd _ _ hl)
  rw [hp] at h1; cases h1
  obtain ⟨_, _, L, fz, h4, _, _, _, hle, h5⟩ := h2
  have hc : ∀ x v, (L.take l.length)[x]? = some v → w.cell? ⟨b, 0 + x, none⟩ = some v := fun x v hv => by
   rw [List.getElem?_take] at hv
   split at hv
   · simp [World.cell?, h4, hv]
   · cases hv
  cases ag with
  | true =>
   simp only [if_true, Option.map_eq_some_iff, Prod.mk.injEq, true_and] at hq
   obtain ⟨c, hc1, rfl⟩ := hq
   obtain ⟨g1, g2⟩ := cellsAt_ok h5 hc1
   refine ⟨_, ?_, .agg g1⟩
   simp only [Instr.loadAt, Instr.sureAddr, Sem.run_bind, Sem.run_pure, Result.andThen_ok]
   have := rangeAt_part (n := n) (j := i * s + j) hc
   rw [Nat.zero_add] at this
   exact run_loadVar_agg hag (by rw [g2]; exact hsz) this
  | false =>
   simp only [Bool.false_eq_true, if_false, Option.map_eq_some_iff, Prod.mk.injEq, true_and] at hq
   obtain ⟨c, hc1, rfl⟩ := hq
   obtain ⟨V, g1, g2⟩ := h5.get _ _ hc1
   refine ⟨V, ?_, g2⟩
   simp only [Instr.loadAt, Instr.sureAddr, Sem.run_bind, Sem.run_pure, Result.andThen_ok]
   have := hc _ _ g1
   rw [Nat.zero_add] at this
   exact run_loadVar_flat hag this
 case h_1 m i s j =>
  cases hx with
  | ptr i s j hp =>
  rename_i b o
  split at hq
  case h_3 => cases hq
  case h_1 l hl =>
   obtain ⟨b', o', h1, h2⟩ := hR.ob m _ (hrd _ _ hl)
   rw [hp] at h1; cases h1
   obtain ⟨_, h3, L, tt, h4, h5⟩ := h2
   subst h3
   have hc : ∀ x v, L[x]? = some v → w.cell? ⟨b, 0 + x, none⟩ = some v := fun x v hv => by simp [World.cell?, h4, hv]
   cases ag with
   | true =>
    simp only [if_true, Option.map_eq_some_iff, Prod.mk.injEq, true_and] at hq
    obtain ⟨c, hc1, rfl⟩ := hq
    obtain ⟨g1, g2⟩ := cellsAt_ok h5 hc1
    refine ⟨_, ?_, .agg g1⟩
    simp only [Instr.loadAt, Instr.sureAddr, Sem.run_bind, Sem.run_pure, Result.andThen_ok]
    exact run_loadVar_agg hag (by rw [g2]; exact hsz) (rangeAt_part hc)
   | false =>
    simp only [Bool.false_eq_true, if_false, Option.map_eq_some_iff, Prod.mk.injEq, true_and] at hq
    obtain ⟨c, hc1, rfl⟩ := hq
    obtain ⟨V, g1, g2⟩ := h5.get _ _ hc1
    refine ⟨V, ?_, g2⟩
    simp only [Instr.loadAt, Instr.sureAddr, Sem.run_bind, Sem.run_pure, Result.andThen_ok]
    exact run_loadVar_flat hag (hc _ _ g1)
  case h_2 s' len c hl =>
   split at hq
   case isFalse => cases hq
   rename_i hs
   subst hs
   have hlen : i < len := by
    cases ag
    · simp only [Bool.false_eq_true, if_false] at hq
      split at hq
      · simp at hq; exact hq.1
      · cases hq
    · simp only [if_true] at hq
      split at hq
      · simp at hq; exact hq.1
      · cases hq
   obtain ⟨b', o', h1, h2⟩ := hR.ob m _ (hrd _ _ hl) (by cases len; omega; rfl)
   rw [hp] at h1; cases h1
   obtain ⟨V, h3, h4⟩ := h2
   cases ag with
   | true =>
    simp only [if_true] at hq
    split at hq
    case isFalse => cases hq
    rename_i hjn
    simp only [Option.some.injEq, Prod.mk.injEq, decide_eq_true_eq] at hq
    obtain ⟨hi, rfl⟩ := hq
    refine ⟨.agg ((upTo j n).map (V i)).toArray, ?_, .agg (RL.map _ _ _ fun k hk => ?_)⟩
    · simp only [Instr.loadAt, Instr.sureAddr, Sem.run_bind, Sem.run_pure, Result.andThen_ok]
      refine run_loadVar_agg hag (by simpa [upTo_length] using hsz) fun k u hk => ?_
      rw [List.getElem?_map, upTo_get] at hk
      split at hk
      · simp at hk; subst hk
        have := h3 i (j + k) hi (by omega)
        rw [show o + (i * s + j) + k = o + (i * s + (j + k)) by omega]; exact this
      · simp at hk
    · rw [upTo_mem] at hk
      exact (h4 i k hi (by omega)).ext (Ext.none ρ)
   | false =>
    simp only [Bool.false_eq_true, if_false] at hq
    split at hq
    case isFalse => cases hq
    rename_i hj
    simp only [Option.some.injEq, Prod.mk.injEq, decide_eq_true_eq] at hq
    obtain ⟨hi, rfl⟩ := hq
    refine ⟨V i j, ?_, (h4 i j hi hj).ext (Ext.none ρ)⟩
    simp only [Instr.loadAt, Instr.sureAddr, Sem.run_bind, Sem.run_pure, Result.andThen_ok]
    exact run_loadVar_flat hag (h3 i j hi hj)
 case h_2 l j =>
  cases hx with
  | cp j hb hl hc0 =>
  rename_i b o L
  have hc : ∀ x v, L[x]? = some v → w.cell? ⟨b, o + x, none⟩ = some v := fun x v hv => ((Keeps.of_below hR.bel).cell hb).trans (hc0 x v hv)
  cases ag with
  | true =>
   simp only [if_true, Option.map_eq_some_iff, Prod.mk.injEq, true_and] at hq
   obtain ⟨c, hc1, rfl⟩ := hq
   obtain ⟨g1, g2⟩ := cellsAt_ok (hl.ext (Ext.none ρ)) hc1
   refine ⟨_, ?_, .agg g1⟩
   simp only [Instr.loadAt, Instr.sureAddr, Sem.run_bind, Sem.run_pure, Result.andThen_ok]
   exact run_loadVar_agg hag (by rw [g2]; exact hsz) (rangeAt_part hc)
  | false =>
   simp only [Bool.false_eq_true, if_false, Option.map_eq_some_iff, Prod.mk.injEq, true_and] at hq
   obtain ⟨c, hc1, rfl⟩ := hq
   obtain ⟨V, g1, g2⟩ := (hl.ext (Ext.none ρ)).get _ _ hc1
   refine ⟨V, ?_, g2⟩
   simp only [Instr.loadAt, Instr.sureAddr, Sem.run_bind, Sem.run_pure, Result.andThen_ok]
   exact run_loadVar_flat hag (hc _ _ g1)
theorem setAt_nil (l : List AV) (j : Nat) : setAt l j [] = l := by cases l <;> rfl
theorem setAtV_nil (l : List Value) (j : Nat) : setAtV l j [] = l := by cases l <;> rfl
theorem setAtV_cons (l : List Value) (j : Nat) (v : Value) (vs : List Value) : setAtV l j (v :: vs) = setAtV (l.set j v) (j + 1) vs := by cases l <;> rfl
theorem setAt_cons (l : List AV) (j : Nat) (v : AV) (vs : List AV) : setAt l j (v :: vs) = setAt (l.set j v) (j + 1) vs := by cases l <;> rfl
theorem run_storeCellsF (b : Nat) (t : TypeId) (fz : Nat × Nat) : ∀ (vs : List Value) (k i : Nat) (L : List Value) (w : World), w.heap[b]? = some (.cells L.toArray t fz) → (∀ x, x < L.length → (decide (fz.1 ≤ x) && decide (x < fz.2)) = false) → k + i + vs.length ≤ L.length → (∀ v ∈ vs, v.oneCell' = true) →
 ∃ w', (storeCells ⟨b, k, none⟩ vs i).run P w = .ok () w' ∧ w'.heap[b]? = some (.cells (setAtV L (k + i) vs).toArray t fz) ∧ (∀ q, q ≠ b → w'.heap[q]? = w.heap[q]?) ∧ w'.heap.size = w.heap.size ∧ w'.os = w.os ∧ w'.tape = w.tape ∧ w'.output = w.output
 | [], k, i, L, w, hb, _, _, _ => ⟨w, by simp [storeCells], by rw [setAtV_nil]; exact hb, fun _ _ => rfl, rfl, rfl, rfl, rfl⟩
 | v :: vs, k, i, L, w, hb, hfz, hl, h1 => by
  have hadd : (⟨b, k, none⟩ : Addr).add i = ⟨b, k + i, none⟩ := Addr.add_mid b k i
  simp only [List.length_cons] at hl
  have hlt : k + i < L.length := by omega
  have hc : w.cell? ⟨b, k + i, none⟩ = some L[k + i] := by simp [World.cell?, hb, hlt]
  have hf : w.frozen? ⟨b, k + i, none⟩ = false := by
   have := hfz _ hlt
   obtain ⟨f1, f2⟩ := fz
   simp only [World.frozen?, hb]
   simpa using this
  have hs : (store ⟨b, k + i, none⟩ v).run P w = .ok () (w.setCell ⟨b, k + i, none⟩ v) := by
   rw [run_store P w _ v _ (h1 v (by simp)), hc]; simp [hf]
  have hb' : (w.setCell ⟨b, k + i, none⟩ v).heap[b]? = some (.cells (L.set (k + i) v).toArray t fz) := by
   simp only [World.setCell, Array.getElem?_modify]
   simp [hb]
  obtain ⟨w', g1, g2, g3, g4, g5, g6, g7⟩ := run_storeCellsF b t fz vs k (i + 1) (L.set (k + i) v) (w.setCell ⟨b, k + i, none⟩ v) hb' (fun x hx => hfz x (by simpa using hx)) (by simp; omega) (fun u hu => h1 u (by simp [hu]))
  refine ⟨w', ?_, ?_, fun q hq => ?_, ?_, g5, g6, g7⟩
  · simp only [storeCells, Sem.run_bind, hadd, hs, Result.andThen_ok]; exact g1
  · rw [setAtV_cons]; rw [show k + i + 1 = k + (i + 1) by omega]; exact g2
  · rw [g3 q hq]; exact Below.heap_setCell _ _ _ _ hq
  · rw [g4]; simp
theorem run_storeCells (b : Nat) (t : TypeId) (vs : List Value) (k i : Nat) (L : List Value) (w : World) (hb : w.heap[b]? = some (.cells L.toArray t (0, 0))) (hl : k + i + vs.length ≤ L.length) (h1 : ∀ v ∈ vs, v.oneCell' = true) :
 ∃ w', (storeCells ⟨b, k, none⟩ vs i).run P w = .ok () w' ∧ w'.heap[b]? = some (.cells (setAtV L (k + i) vs).toArray t (0, 0)) ∧ (∀ q, q ≠ b → w'.heap[q]? = w.heap[q]?) ∧ w'.heap.size = w.heap.size ∧ w'.os = w.os ∧ w'.tape = w.tape ∧ w'.output = w.output :=
 run_storeCellsF b t (0, 0) vs k i L w hb (fun x _ => by simp) hl h1
theorem setAtV_length : ∀ (vs : List Value) (L : List Value) (j : Nat), (setAtV L j vs).length = L.length
 | [], L, j => by rw [setAtV_nil]
 | v :: vs, L, j => by rw [setAtV_cons, setAtV_length]; simp
theorem setAtV_take : ∀ (vs : List Value) (L : List Value) (j n : Nat), (setAtV L j vs).take n = setAtV (L.take n) j vs
 | [], L, j, n => by rw [setAtV_nil, setAtV_nil]
 | v :: vs, L, j, n => by rw [setAtV_cons, setAtV_cons, setAtV_take vs, List.take_set]
theorem storeA_ok (hR : Rel ρ W h w) {rd : Nat → Option Ob} (hrd : ∀ n x, rd n = some x → h[n]? = some (some x)) {t : TypeId} {x y : AV} {X Y : Value} (hx : RV ρ W x X) (hy : RV ρ W y Y) {n : Nat} {ob : Ob}
 (hq : storeA P rd t x y = some (n, ob)) : ∃ w', (Instr.storeAt t X Y).run P w = .ok () w' ∧ Rel ρ W (effH h 0 (.set n ob)) w' := by
 unfold storeA at hq
 split at hq
 case h_3 => cases hq
 case h_2 =>
  rename_i k m i s j hsz
  cases hx with
  | gp i s j hp =>
  rename_i b cap
  split at hq
  case h_2 => cases hq
  rename_i z e s' l hl
  split at hq
  case isFalse => cases hq
  rename_i hcond
  obtain ⟨c1, c2, c3⟩ := hcond
  simp only [Option.some.injEq, Prod.mk.injEq] at hq
  obtain ⟨rfl, rfl⟩ := hq
  have hm := hrd _ _ hl
  obtain ⟨b', o', h1, h2⟩ := hR.ob m _ hm
  rw [hp] at h1; cases h1
  obtain ⟨hW, hcap, L, fz, h4, hsz2, hz, hfz, hle, h5⟩ := h2
  have hcl := hy.cells
  have e1 := hcl.length
  have hone := hcl.one c3
  obtain ⟨w', g1, g2, g3, g4, g5, g6, g7⟩ := run_storeCellsF (P := P) b e fz Y.cells.toList (i * s + j) 0 L w h4 hfz (by omega) hone
  have hsl : (setAt l (i * s + j) y.cells).length = l.length := by
   have : ∀ (vs l : List AV) (j : Nat), (setAt l j vs).length = l.length := by
    intro vs
    induction vs with
    | nil => intro l j; rw [setAt_nil]
    | cons v vs ih => intro l j; rw [setAt_cons, ih]; simp
   exact this _ _ _
  refine ⟨w', ?_, hR.put hm rfl hp g3 g4 g5 g6 g7 ⟨hW, hcap, _, fz, g2, ?_, hz, ?_, ?_, ?_⟩⟩
  · have hsize : Y.cells.size = k := by have : Y.cells.toList.length = k := by omega
                                        simpa using this
    simp only [Instr.storeAt, Instr.sureAddr, Sem.run_bind, Sem.run_pure, Result.andThen_ok, storeVar, run_size hsz]
    rw [if_neg (by simp [hsize])]
    exact g1
  · rw [setAtV_length]; exact hsz2
  · rw [setAtV_length]; exact hfz
  · rw [setAtV_length, hsl]; exact hle
  · rw [hsl, setAtV_take, Nat.add_zero]
    exact RL.setAt hcl (i * s + j) h5
 rename_i k m i s j hsz
 cases hx with
 | ptr i s j hp =>
 rename_i b o
 split at hq
 case h_2 => cases hq
 rename_i l hl
 split at hq
 case isFalse => cases hq
 rename_i hcond
 obtain ⟨c1, c2, c3⟩ := hcond
 simp only [Option.some.injEq, Prod.mk.injEq] at hq
 obtain ⟨rfl, rfl⟩ := hq
 have hm := hrd _ _ hl
 obtain ⟨b', o', h1, h2⟩ := hR.ob m _ hm
 rw [hp] at h1; cases h1
 obtain ⟨_, h3, L, tt, h4, h5⟩ := h2
 subst h3
 have hcl := hy.cells
 have e1 := hcl.length
 have e2 := h5.length
 have hone := hcl.one c3
 obtain ⟨w', g1, g2, g3, g4, g5, g6, g7⟩ := run_storeCells (P := P) b tt Y.cells.toList (0 + (i * s + j)) 0 L w h4 (by omega) hone
 refine ⟨w', ?_, hR.store hm hp g2 g3 g4 g5 g6 g7 ?_⟩
 · have hsize : Y.cells.size = k := by have : Y.cells.toList.length = k := by omega
                                       simpa using this
   simp only [Instr.storeAt, Instr.sureAddr, Sem.run_bind, Sem.run_pure, Result.andThen_ok, storeVar, run_size hsz]
   rw [if_neg (by simp [hsize])]
   exact g1
 · simpa using RL.setAt hcl (i * s + j) h5
variable {P : Program} {ρ : Names} {W w : World} {h : Heap}
theorem aite_ok {q : Bool} {x y : AV} {X Y : Value} (hx : RV ρ W x X) (hy : RV ρ W y Y) : RV ρ W (aite q x y) (if q then X else Y) := by
 cases q
 · unfold aite
   cases hx <;> cases hy <;> simp <;> (try split) <;> first | (constructor <;> assumption) | (subst_vars; constructor; done) | skip
 · unfold aite
   cases hx <;> cases hy <;> simp <;> (try split) <;> first | (constructor <;> assumption) | (subst_vars; constructor; done) | skip
theorem part_ok {t : TypeId} {l : List AV} {L : List Value} {off : Nat} {v : AV} (hl : RL ρ W l L) (hq : partA P t l off = some v) (w : World) : ∃ V, (part t L.toArray off).run P w = .ok V w ∧ RV ρ W v V := by
 unfold partA at hq
 split at hq
 · rename_i n h1 h2
   split at hq
   · simp at hq; subst hq
     refine ⟨.agg ((L.take (off + n)).drop off).toArray, ?_, .agg ((hl.take _).drop _)⟩
     simp [part, run_isAgg_row h1, run_size h2, List.extract_eq_take_drop]
     rw [List.drop_take, Nat.add_sub_cancel_left]
   · cases hq
 · rename_i n h1 h2
   obtain ⟨V, g1, g2⟩ := hl.get _ _ hq
   exact ⟨V, by simp [part, run_isAgg_flat h1, g1], g2⟩
 · cases hq
theorem eqFs_ok {f : TypeId → AV → AV → Option Bool} {d : Nat}
 (hf : ∀ t x y b X Y, f t x y = some b → RV ρ W x X → RV ρ W y Y → ∀ w, (Op.equalIn d t X Y).run P w = .ok b w) {xs ys : List AV} {Xs Ys : List Value} (hx : RL ρ W xs Xs) (hy : RL ρ W ys Ys) :
 ∀ (fs : List Field) (b : Bool), eqFs f P xs ys fs = some b → ∀ w, (Op.eqFields d Xs.toArray Ys.toArray fs).run P w = .ok b w
 | [], b, hq, w => by simp [eqFs] at hq; subst hq; simp [Op.eqFields]
 | fd :: fs, b, hq, w => by
  simp only [eqFs] at hq
  simp only [Op.eqFields]
  split at hq
  case isFalse hn => rw [if_neg hn]; exact eqFs_ok hf hx hy fs b hq w
  case isTrue hn =>
   rw [if_pos hn]
   have key : ∀ x y, partA P fd.type xs fd.offset = some x → partA P fd.type ys fd.offset = some y → ∀ b1 r, f fd.type x y = some b1 → eqFs f P xs ys fs = some r → b = (b1 && r) →
    ((do let a ← part fd.type Xs.toArray fd.offset; let b ← part fd.type Ys.toArray fd.offset; let r ← Op.equalIn d fd.type a b; if (!r) = true then pure false else Op.eqFields d Xs.toArray Ys.toArray fs) : Sem Bool).run P w = .ok b w := by
    intro x y h1 h2 b1 r h3 h4 h5
    obtain ⟨X, g1, g2⟩ := part_ok hx h1 w
    obtain ⟨Y, g3, g4⟩ := part_ok hy h2 w
    simp only [Sem.run_bind, g1, g3, Result.andThen_ok, hf _ _ _ _ _ _ h3 g2 g4 w]
    cases b1
    · simp [h5]
    · simpa [h5] using eqFs_ok hf hx hy fs r h4 w
   split at hq
   · rename_i n h1 h2
     split at hq
     · rename_i b1 r h3 h4
       simp at hq
       by_cases hlx : fd.offset + n ≤ xs.length ∧ fd.offset + n ≤ ys.length
       · exact key _ _ (by simp only [partA, h1, h2]; rw [if_pos hlx.1]) (by simp only [partA, h1, h2]; rw [if_pos hlx.2]) b1 r h3 h4 hq.symm
       · -- the parts of too short lists: the model takes what is there, as here
         have hp : ∀ {zs : List AV} {Zs : List Value}, RL ρ W zs Zs → (part fd.type Zs.toArray fd.offset).run P w = .ok (.agg ((Zs.take (fd.offset + n)).drop fd.offset).toArray) w := fun _ => by
          simp [part, run_isAgg_row h1, run_size h2, List.extract_eq_take_drop]
          rw [List.drop_take, Nat.add_sub_cancel_left]
         simp only [Sem.run_bind, hp hx, hp hy, Result.andThen_ok, hf _ _ _ _ _ _ h3 (.agg ((hx.take _).drop _)) (.agg ((hy.take _).drop _)) w]
         cases b1
         · simp [← hq]
         · simpa [← hq] using eqFs_ok hf hx hy fs r h4 w
     · cases hq
   · rename_i n h1 h2
     split at hq
     · rename_i x y h3 h4
       split at hq
       · rename_i b1 r h5 h6
         simp at hq
         exact key x y (by simp only [partA, h1, h2]; exact h3) (by simp only [partA, h1, h2]; exact h4) b1 r h5 h6 hq.symm
       · cases hq
     · cases hq
   · cases hq
theorem eqEs_ok {f : TypeId → AV → AV → Option Bool} {d : Nat}
 (hf : ∀ t x y b X Y, f t x y = some b → RV ρ W x X → RV ρ W y Y → ∀ w, (Op.equalIn d t X Y).run P w = .ok b w) {xs ys : List AV} {Xs Ys : List Value} (hx : RL ρ W xs Xs) (hy : RL ρ W ys Ys) {e : TypeId} {c : Nat} :
 ∀ (is : List Nat) (b : Bool), eqEs f P e c xs ys is = some b → ∀ w, (Op.eqItems d e c Xs.toArray Ys.toArray is).run P w = .ok b w
 | [], b, hq, w => by simp [eqEs] at hq; subst hq; simp [Op.eqItems]
 | i :: is, b, hq, w => by
  simp only [eqEs] at hq
  split at hq
  · rename_i x y h1 h2
    split at hq
    · rename_i b1 r h3 h4
      simp at hq
      obtain ⟨X, g1, g2⟩ := part_ok hx h1 w
      obtain ⟨Y, g3, g4⟩ := part_ok hy h2 w
      simp only [Op.eqItems, Sem.run_bind, g1, g3, Result.andThen_ok, hf _ _ _ _ _ _ h3 g2 g4 w]
      cases b1
      · simp [← hq]
      · simpa [← hq] using eqEs_ok hf hx hy is r h4 w
    · cases hq
  · cases hq
theorem fieldsOf_eq {t : TypeId} {fs : Array Field} (hu : P.underlying t = some (.struct fs)) : P.fieldsOf t = fs := by simp [Program.fieldsOf, hu]
theorem eqT_ok : ∀ (m d : Nat) (t : TypeId) (x y : AV) (b : Bool) (X Y : Value), eqT P m t x y = some b → RV ρ W x X → RV ρ W y Y → ∀ w, (Op.equalIn (d + m) t X Y).run P w = .ok b w := by
 intro m
 induction m with
 | zero => intro d t x y b X Y hq; simp [eqT] at hq
 | succ m ih =>
  intro d t x y b X Y hq hx hy w
  simp only [eqT] at hq
  rw [← Nat.add_assoc]
  split at hq
  · rename_i hu; cases hx; cases hy; simp at hq; subst hq; exact run_equalIn_bool' w _ t _ _ hu
  · rename_i hu; cases hx; cases hy
    split at hq
    · rename_i hk; subst hk; simp at hq; subst hq; exact run_equalIn_int w _ t _ _ _ _ hu
    · cases hq
  · rename_i hu; cases hx; cases hy; simp at hq; subst hq; exact run_equalIn_string w _ t _ _ hu
  · rename_i fs xs ys hu
    split at hq
    · cases hq
    · rename_i hst
      cases hx with | agg hx =>
      cases hy with | agg hy =>
      rw [run_equalIn_struct w (d + m) t _ _ (by rw [fieldsOf_eq hu]; exact hu) (by simpa using hst), fieldsOf_eq hu]
      exact eqFs_ok (fun t x y b X Y hq hx hy w => ih d t x y b X Y hq hx hy w) hx hy _ _ hq w
  · rename_i n e xs ys hu
    split at hq
    · rename_i c hc
      cases hx with | agg hx =>
      cases hy with | agg hy =>
      unfold sizeT at hc
      cases hi : P.info? e with
      | none => simp [hi] at hc
      | some i =>
       simp [hi] at hc
       rw [run_equalIn_array w (d + m) _ _ hu hi, show P.cellsOf e = c by simp [Program.cellsOf, hi, hc]]
       exact eqEs_ok (fun t x y b X Y hq hx hy w => ih d t x y b X Y hq hx hy w) hx hy _ _ hq w
    · cases hq
  · cases hq
theorem eqGuard_flat (op : BinOp) (t : TypeId) (x y : Operand) {X Y : Value} (hX : X ≠ .nilIface) (hX2 : ∀ c, X ≠ .agg c) (w : World) : (eqGuard op t x y X Y).run P w = .ok () w := by
 unfold eqGuard
 cases op <;> simp <;> cases X <;> simp_all
theorem binA_ok {op : BinOp} {t : TypeId} {ox oy : Operand} {x y : AV} {X Y : Value} {v : AV} (hx : RV ρ W x X) (hy : RV ρ W y Y) (hq : binA P op t x y = some (true, v)) (w : World) :
 ∃ V, ((do eqGuard op t ox oy X Y; binOp op t X Y) : Sem Value).run P w = .ok V w ∧ RV ρ W v V := by
 unfold binA at hq
 split at hq
 · rename_i k a k' b
   cases hx; cases hy
   have hg := eqGuard_flat (P := P) op t ox oy (X := .int k a) (Y := .int k' b) (by simp) (by simp) w
   simp only [Sem.run_bind, hg, Result.andThen_ok]
   split at hq
   · simp [intShift] at hq
     obtain ⟨h0, rfl⟩ := hq
     exact ⟨_, by simp only [binOp, Op.shift]; rw [if_neg (by omega)]; rfl, by constructor⟩
   · simp [intShift] at hq
     obtain ⟨h0, rfl⟩ := hq
     exact ⟨_, by simp only [binOp, Op.shift]; rw [if_neg (by omega)]; rfl, by constructor⟩
   · rename_i n1 n2
     split at hq
     · rename_i hk
       subst hk
       have hb : binOp op t (.int k a) (.int k b) = (match op with
        | .add | .sub | .mul => Op.intArith op k a b
        | .quo | .rem => Op.intDiv op k a b
        | .and | .or | .xor | .andNot => Op.intBits op k a b
        | _ => Op.intCmp op a b) := by
        cases op <;> first | exact (n1 rfl).elim | exact (n2 rfl).elim | simp [binOp]
       rw [hb]
       cases op <;> simp [intBin] at hq <;> first
        | (subst hq; exact ⟨_, rfl, by constructor⟩)
        | (obtain ⟨h0, rfl⟩ := hq; exact ⟨_, by simp only [Op.intDiv]; rw [if_neg h0]; rfl, by constructor⟩)
     · cases hq
 · rename_i a b
   cases hx; cases hy
   have hg := eqGuard_flat (P := P) op t ox oy (X := .string a) (Y := .string b) (by simp) (by simp) w
   simp only [Sem.run_bind, hg, Result.andThen_ok]
   cases op <;> simp [strBin] at hq <;> first
    | (subst hq; exact ⟨_, rfl, by constructor⟩)
    | (obtain ⟨h0, rfl⟩ := hq
       refine ⟨.string (a ++ b), ?_, by constructor⟩
       simp only [binOp, Op.stringOp]
       rw [if_neg (by have : ((a.size + b.size : Nat) : Int) ≤ IntKind.i64.max := by simpa using h0
                      omega)]
       rfl)
 · rename_i a b
   have h2 := hq
   cases hx; cases hy
   have hg := eqGuard_flat (P := P) op t ox oy (X := .bool a) (Y := .bool b) (by simp) (by simp) w
   simp only [Sem.run_bind, hg, Result.andThen_ok]
   cases op <;> simp only [reduceCtorEq] at hq <;> simp only [Option.map_eq_some_iff, Prod.mk.injEq, true_and] at hq
   · obtain ⟨r, hr, rfl⟩ := hq
     have := eqT_ok (ρ := ρ) (W := W) 1 9999 t _ _ r _ _ hr (.bool a) (.bool b) w
     exact ⟨.bool r, by simp [binOp, Op.equal, Op.maxDepth, this], by constructor⟩
   · obtain ⟨r, hr, rfl⟩ := hq
     have := eqT_ok (ρ := ρ) (W := W) 1 9999 t _ _ r _ _ hr (.bool a) (.bool b) w
     exact ⟨.bool (!r), by simp [binOp, Op.equal, Op.maxDepth, this], by constructor⟩
 · rename_i a b
   split at hq
   · cases hq
   · rename_i hgt
     have hgt' : P.eqGuardType P.depth t = false := by simpa using hgt
     cases hx with | agg hx =>
     cases hy with | agg hy =>
     rename_i A B
     have hg := run_eqGuard_agg (P := P) w op t ox oy A.toArray B.toArray hgt'
     simp only [Sem.run_bind, hg, Result.andThen_ok]
     cases op <;> simp only [reduceCtorEq] at hq <;> simp only [Option.map_eq_some_iff, Prod.mk.injEq, true_and] at hq
     · obtain ⟨r, hr, rfl⟩ := hq
       have := eqT_ok 4 9996 t _ _ r _ _ hr (.agg hx) (.agg hy) w
       exact ⟨.bool r, by simp only [run_eql_struct]; rw [show (10000 : Nat) = 9996 + 4 from rfl, this]; rfl, by constructor⟩
     · obtain ⟨r, hr, rfl⟩ := hq
       have := eqT_ok 4 9996 t _ _ r _ _ hr (.agg hx) (.agg hy) w
       exact ⟨.bool (!r), by simp only [run_neq_struct]; rw [show (10000 : Nat) = 9996 + 4 from rfl, this]; rfl, by constructor⟩
 · rename_i u v'
   cases hx with | ifc _ hx' =>
   cases hy
   rename_i X'
   have hg := eqGuard_flat (P := P) op t ox oy (X := .iface u X') (Y := .nilIface) (by simp) (by simp) w
   split at hq
   · rename_i ms hu
     simp at hq; subst hq
     have hm : P.underlying t = some (.interface (P.methodsAt t)) := by rw [hu]; simp [Program.methodsAt, hu]
     exact ⟨.bool false, by simp only [Sem.run_bind, hg, Result.andThen_ok, run_eql_held_nil w t u X' hm], by constructor⟩
   · rename_i ms hu
     simp at hq; subst hq
     have hm : P.underlying t = some (.interface (P.methodsAt t)) := by rw [hu]; simp [Program.methodsAt, hu]
     exact ⟨.bool true, by simp only [Sem.run_bind, hg, Result.andThen_ok, run_neq_held_nil w t u X' hm], by constructor⟩
   · cases hq
 · cases hq
theorem binX_ok {op : BinOp} {t : TypeId} {ox oy : Operand} {x y : AV} {X Y : Value} {v : AV} (hx : RV ρ W x X) (hy : RV ρ W y Y) (hq : binX P op t ox oy x y = some (true, v)) (w : World) :
 ∃ V, ((do eqGuard op t ox oy X Y; binOp op t X Y) : Sem Value).run P w = .ok V w ∧ RV ρ W v V := by
 unfold binX at hq
 split at hq
 · cases hx; cases hy
   have hg : (constO ox || constO oy) = true → (eqGuard op t ox oy .nilIface .nilIface).run P w = .ok () w := fun h => by
    unfold eqGuard
    cases op <;> simp <;> (cases ox <;> cases oy <;> simp_all [constO])
   split at hq
   · rename_i hc hu
     simp at hq; subst hq
     have hm := hu
     rename_i ms
     have hm : P.underlying t = some (.interface (P.methodsAt t)) := by rw [hu]; simp [Program.methodsAt, hu]
     exact ⟨.bool true, by simp only [Sem.run_bind, hg hc, Result.andThen_ok, run_eql_nil_nil w t hm], by constructor⟩
   · rename_i hc hu
     simp at hq; subst hq
     have hm : P.underlying t = some (.interface (P.methodsAt t)) := by rw [hu]; simp [Program.methodsAt, hu]
     exact ⟨.bool false, by simp only [Sem.run_bind, hg hc, Result.andThen_ok, run_neq_nil_nil w t hm], by constructor⟩
   · cases hq
 · exact binA_ok hx hy hq w
theorem unA_ok {op : UnOp} {x v : AV} {X : Value} (hx : RV ρ W x X) (hq : unA op x = some v) (w : World) : ∃ V, (Op.unary op X).run P w = .ok V w ∧ RV ρ W v V := by
 unfold unA at hq
 split at hq <;> simp only [Option.some.injEq, reduceCtorEq] at hq
 all_goals (subst hq; cases hx; first | exact ⟨_, rfl, .int _ _⟩ | exact ⟨_, rfl, .bool _⟩)
theorem convA_ok {s d : TypeId} {x v : AV} {X : Value} (hx : RV ρ W x X) (hq : convA P s d x = some v) (w : World) : ∃ V, (convert s d X).run P w = .ok V w ∧ RV ρ W v V := by
 unfold convA at hq
 split at hq <;> simp at hq
 · rename_i h1 h2
   subst hq; cases hx
   exact ⟨_, by simp [convert, run_underlying h1, run_underlying h2, Conv.intToInt]; rfl, by constructor⟩
 · rename_i h1 h2
   subst hq; cases hx
   exact ⟨_, by simp [convert, run_underlying h1, run_underlying h2]; rfl, by constructor⟩
 · rename_i h1 h2
   subst hq; cases hx
   exact ⟨_, by simp [convert, run_underlying h1, run_underlying h2, Conv.intToString]; rfl, by constructor⟩
theorem assertA_ok {xt t : TypeId} {ok : Bool} {x v : AV} {X : Value} (hx : RV ρ W x X) (hq : assertA P t ok x = some v) (w : World) : ∃ V, (Instr.typeAssert X xt t ok).run P w = .ok V w ∧ RV ρ W v V := by
 unfold assertA at hq
 split at hq
 · cases hq
 · rename_i d u y hni hd
   cases hx with | ifc _ hy =>
   rename_i Y
   have hrun : (Instr.typeAssert (.iface u Y) xt t ok).run P w = (if u = t then (pure (if ok then .tuple #[Y, .bool true] else Y) : Sem Value) else (if ok then (do pure (.tuple #[← zeroValue t, .bool false])) else runtimePanic (.typeAssertion (some xt) (some u) t ""))).run P w := by
    cases d <;> first | exact (hni _ rfl).elim | (simp only [Instr.typeAssert, Sem.run_bind, run_underlying hd, Result.andThen_ok] <;> (split <;> rfl))
   rw [hrun]
   split at hq
   · rename_i hu
     rw [if_pos hu]
     cases ok with
     | true => simp at hq; subst hq; exact ⟨_, rfl, .tup (.cons hy (.cons (.bool true) .nil))⟩
     | false => simp at hq; subst hq; exact ⟨_, rfl, hy⟩
   · rename_i hu
     rw [if_neg hu]
     cases ok with
     | true =>
      simp only [if_true, Option.map_eq_some_iff] at hq
      obtain ⟨z, hz, rfl⟩ := hq
      obtain ⟨Z, g1, g2⟩ := run_zero hz ρ W w
      exact ⟨_, by simp only [if_true, Sem.run_bind, g1, Result.andThen_ok, Sem.run_pure], .tup (.cons g2 (.cons (.bool false) .nil))⟩
     | false => simp at hq
 · rename_i d hni hd
   cases hx
   split at hq
   case isFalse => cases hq
   rename_i hok
   subst hok
   simp only [Option.map_eq_some_iff] at hq
   obtain ⟨z, hz, rfl⟩ := hq
   obtain ⟨Z, g1, g2⟩ := run_zero hz ρ W w
   refine ⟨.tuple #[Z, .bool false], ?_, .tup (.cons g2 (.cons (.bool false) .nil))⟩
   cases d <;> first | exact (hni _ rfl).elim | simp only [Instr.typeAssert, Sem.run_bind, run_underlying hd, Result.andThen_ok, if_true, g1, Sem.run_pure]
 · cases hq
theorem fieldOf_ok {t : TypeId} {f : Nat} {fd : Field} (hq : fieldOf P t f = some fd) : ∃ fs, P.underlying t = some (.struct fs) ∧ fs[f]? = some fd := by
 unfold fieldOf at hq
 split at hq
 · exact ⟨_, by assumption, hq⟩
 · cases hq
theorem fieldAddrA_ok {t : TypeId} {f : Nat} {x v : AV} {X : Value} (hx : RV ρ W x X) (hq : fieldAddrA P t x f = some v) (w : World) : ∃ V, (Instr.fieldAt t X f).run P w = .ok V w ∧ RV ρ W v V := by
 unfold fieldAddrA at hq
 split at hq
 case h_2 => cases hq
 rename_i fd hfd
 obtain ⟨fs, h1, h2⟩ := fieldOf_ok hfd
 split at hq
 case h_1 => cases hq
 case h_3 => cases hq
 rename_i n hne hsz
 have hn0 : n ≠ 0 := fun e => hne (by rw [e])
 split at hq <;> simp at hq
 · subst hq
   cases hx with | ptr i s j hp =>
   rename_i b o
   refine ⟨_, ?_, .ptr _ _ _ hp⟩
   simp [Instr.fieldAt, run_underlying h1, h2, Instr.sureAddr, fieldPlace, run_size hsz, hn0, Addr.add_mid]
 · subst hq
   cases hx with | cp j hb hl hc =>
   rename_i b o L
   refine ⟨_, ?_, .cp _ hb hl hc⟩
   simp [Instr.fieldAt, run_underlying h1, h2, Instr.sureAddr, fieldPlace, run_size hsz, hn0, Addr.add_mid]
 · subst hq
   cases hx with | gp i s j hp =>
   refine ⟨_, ?_, .gp _ _ _ hp⟩
   simp [Instr.fieldAt, run_underlying h1, h2, Instr.sureAddr, fieldPlace, run_size hsz, hn0, Addr.add_mid, Nat.add_assoc]
theorem field_ok {t : TypeId} {f : Nat} {fd : Field} {l : List AV} {L : List Value} {v : AV} (hl : RL ρ W l L) (h1 : fieldOf P t f = some fd) (hq : partA P fd.type l fd.offset = some v) (w : World) :
 ∃ V, (Instr.field t (.agg L.toArray) f).run P w = .ok V w ∧ RV ρ W v V := by
 obtain ⟨fs, g1, g2⟩ := fieldOf_ok h1
 obtain ⟨V, g3, g4⟩ := part_ok hl hq w
 exact ⟨V, by simp [Instr.field, run_underlying g1, g2, asAgg, g3], g4⟩
theorem indexAddrA_ok (hR : Rel ρ W h w) {t : TypeId} {x ix v : AV} {X I : Value} (hx : RV ρ W x X) (hi : RV ρ W ix I) (hq : indexAddrA P t x ix = some (true, v)) : ∃ V, (Instr.indexAt t X I).run P w = .ok V w ∧ RV ρ W v V := by
 unfold indexAddrA at hq
 split at hq
 · rename_i len e n j kk k hu
   cases hi
   split at hq
   case h_2 => cases hq
   rename_i s hsz
   simp at hq
   obtain ⟨⟨h1, h2⟩, rfl⟩ := hq
   cases hx with | ptr i s' j hp =>
   rename_i b o
   refine ⟨.pointer (some ⟨b, o + (k.toNat * s + j), none⟩), ?_, .ptr _ _ _ hp⟩
   simp [Instr.indexAt, run_underlying hu, asIntOf, Instr.sureAddr, h1, h2, run_size hsz, Addr.add_mid]
 · rename_i e n i s len kk k hu
   cases hi
   split at hq
   case h_2 => cases hq
   rename_i s' hsz
   split at hq
   case isFalse => cases hq
   rename_i hs; subst hs
   simp at hq
   obtain ⟨⟨h1, h2⟩, rfl⟩ := hq
   cases hx with
   | sl0 => exfalso; simp only [Int.ofNat_zero] at h2; omega
   | sl i s len cap off hp hl ho =>
   rename_i b o
   have hoff : off = o + i * s := by rcases ho with ho | ho; omega; exact ho
   subst hoff
   refine ⟨.pointer (some ⟨b, o + ((i + k.toNat) * s + 0), none⟩), ?_, .ptr _ _ _ hp⟩
   simp [Instr.indexAt, run_underlying hu, asIntOf, h1, h2, run_size hsz, Addr.add_mid, Nat.add_mul]
 · rename_i e s len c kk k hu
   cases hi
   split at hq
   case h_2 => cases hq
   rename_i s' hsz
   split at hq
   case isFalse => cases hq
   rename_i hs; subst hs
   simp at hq
   obtain ⟨⟨h1, h2⟩, rfl⟩ := hq
   cases hx with
   | csl0 => exfalso; simp only [Int.ofNat_zero] at h2; omega
   | csl s len cap c V hb hl hc hr =>
   rename_i b o
   have hk : k.toNat < len := by omega
   have := RV.cp (ρ := ρ) (W := W) (b := b) (o := o + k.toNat * s) (l := (upTo 0 s).map (c k.toNat)) (L := (upTo 0 s).map (V k.toNat)) 0 hb
    (RL.map _ _ _ fun j hj => hr _ _ hk (by rw [upTo_mem] at hj; omega))
    (fun x u hx => by
     rw [List.getElem?_map, upTo_get] at hx
     split at hx
     · rename_i hlt
       simp at hx; subst hx
       rw [Nat.add_assoc]; exact hc _ _ hk hlt
     · simp at hx)
   refine ⟨_, ?_, this⟩
   simp [Instr.indexAt, run_underlying hu, asIntOf, h1, h2, run_size hsz, Addr.add_mid]
 · rename_i e n s len kk k hu
   cases hi
   split at hq
   case h_2 => cases hq
   rename_i s' hsz
   split at hq
   case isFalse => cases hq
   rename_i hs; subst hs
   simp at hq
   obtain ⟨⟨h1, h2⟩, rfl⟩ := hq
   cases hx with | gs s len hp hl =>
   rename_i b cap
   refine ⟨.pointer (some ⟨b, k.toNat * s + 0, none⟩), ?_, .gp _ _ _ hp⟩
   simp [Instr.indexAt, run_underlying hu, asIntOf, h1, h2, run_size hsz, Addr.add_mid]
 · cases hq
theorem indexA_ok {t : TypeId} {x ix v : AV} {X I : Value} (hx : RV ρ W x X) (hi : RV ρ W ix I) (hq : indexA P t x ix = some (true, v)) (w : World) : ∃ V, (Instr.index t X I).run P w = .ok V w ∧ RV ρ W v V := by
 unfold indexA at hq
 split at hq
 · rename_i len e l kk k hu
   cases hi
   split at hq
   case h_2 => cases hq
   rename_i s hsz
   split at hq
   case h_2 => cases hq
   rename_i u hp
   simp at hq
   obtain ⟨⟨h1, h2⟩, rfl⟩ := hq
   cases hx with | agg hx =>
   obtain ⟨V, g1, g2⟩ := part_ok hx hp w
   exact ⟨V, by simp [Instr.index, run_underlying hu, asIntOf, h1, h2, run_size hsz, g1], g2⟩
 · rename_i s kk k hu
   cases hi; cases hx
   simp at hq
   obtain ⟨⟨h1, h2⟩, rfl⟩ := hq
   have hlt : k.toNat < s.size := by omega
   have hlt' : k.toNat < s.data.size := hlt
   refine ⟨_, ?_, .int _ _⟩
   simp only [Instr.index, Sem.run_bind, run_underlying hu, asIntOf, Sem.run_pure, Result.andThen_ok]
   rw [if_pos h1]
   have e1 : s[k.toNat]? = some (s.data[k.toNat]'hlt') := getElem?_pos s _ hlt
   have e2 : s.data[k.toNat]?.getD 0 = s.data[k.toNat]'hlt' := by rw [getElem?_pos s.data k.toNat hlt']; rfl
   rw [e1, e2]
   rfl
 · cases hq
theorem extract_ok {l : List AV} {L : List Value} {i : Nat} {v : AV} (hl : RL ρ W l L) (hq : l[i]? = some v) (w : World) : ∃ V, (Instr.extract (.tuple L.toArray) i).run P w = .ok V w ∧ RV ρ W v V := by
 obtain ⟨V, g1, g2⟩ := hl.get _ _ hq
 exact ⟨V, by simp [Instr.extract, g1], g2⟩
theorem lenA_ok {ts : Array TypeId} {ty t : TypeId} {x v : AV} {X : Value} (ht : ts[0]? = some t) (hx : RV ρ W x X) (hq : lenA P t x = some v) (w : World) : ∃ V, (Builtin.len_ ts ty #[X]).run P w = .ok V w ∧ RV ρ W v V := by
 unfold lenA at hq
 split at hq <;> simp at hq <;> rename_i hu <;> subst hq
 · cases hx <;> exact ⟨_, by simp [Builtin.len_, ht, run_underlying hu]; rfl, .int _ _⟩
 · exact ⟨_, by simp [Builtin.len_, ht, run_underlying hu]; rfl, .int _ _⟩
 · cases hx <;> exact ⟨_, by simp [Builtin.len_, ht, run_underlying hu]; rfl, .int _ _⟩
 · cases hx <;> exact ⟨_, by simp [Builtin.len_, ht, run_underlying hu]; rfl, .int _ _⟩
 · cases hx <;> exact ⟨_, by simp [Builtin.len_, ht, run_underlying hu]; rfl, .int _ _⟩
 · cases hx <;> exact ⟨_, by simp [Builtin.len_, ht, run_underlying hu]; rfl, .int _ _⟩
theorem foldA_ok {f : AV → AV → Option AV} {g : Value → Value → Sem Value} (hf : ∀ x y v X Y, f x y = some v → RV ρ W x X → RV ρ W y Y → ∀ w, ∃ V, (g X Y).run P w = .ok V w ∧ RV ρ W v V) :
 ∀ (l : List AV) (L : List Value) (x v : AV) (X : Value), RL ρ W l L → RV ρ W x X → foldA f x l = some v → ∀ w, ∃ V, (L.foldlM g X).run P w = .ok V w ∧ RV ρ W v V
 | _, _, x, v, X, .nil, hx, hq, w => by simp [foldA] at hq; subst hq; exact ⟨X, by simp, hx⟩
 | _, _, x, v, X, .cons hy t, hx, hq, w => by
  simp only [foldA] at hq
  split at hq
  · rename_i z hz
    obtain ⟨Z, g1, g2⟩ := hf _ _ _ _ _ hz hx hy w
    obtain ⟨V, g3, g4⟩ := foldA_ok hf _ _ _ _ _ t g2 hq w
    exact ⟨V, by simp [List.foldlM, g1, g3], g4⟩
  · cases hq
theorem max2A_ok (x y v : AV) (X Y : Value) (hq : max2A x y = some v) (hx : RV ρ W x X) (hy : RV ρ W y Y) (w : World) : ∃ V, (Builtin.max2 X Y).run P w = .ok V w ∧ RV ρ W v V := by
 unfold max2A at hq
 split at hq <;> simp at hq
 subst hq; cases hx; cases hy; exact ⟨_, rfl, .int _ _⟩
theorem min2A_ok (x y v : AV) (X Y : Value) (hq : min2A x y = some v) (hx : RV ρ W x X) (hy : RV ρ W y Y) (w : World) : ∃ V, (Builtin.min2 X Y).run P w = .ok V w ∧ RV ρ W v V := by
 unfold min2A at hq
 split at hq <;> simp at hq
 subst hq; cases hx; cases hy; exact ⟨_, rfl, .int _ _⟩
theorem boundA_ok {x : Option AV} {X : Option Value} (hx : match x, X with | none, none => True | some v, some V => RV ρ W v V | _, _ => False) {d k : Int} (hq : boundA x d = some k) :
 (X = none ∧ k = d) ∨ ∃ kk, X = some (.int kk k) := by
 unfold boundA at hq
 split at hq <;> simp at hq
 · cases X with
   | none => exact .inl ⟨rfl, hq.symm⟩
   | some V => exact hx.elim
 · cases X with
   | none => exact hx.elim
   | some V => cases hx; subst hq; exact .inr ⟨_, rfl⟩
theorem sliceA_ok {t : TypeId} {x v : AV} {X : Value} {lo hi : Option AV} {Lo Hi : Option Value} (hx : RV ρ W x X)
 (hlo : match lo, Lo with | none, none => True | some v, some V => RV ρ W v V | _, _ => False) (hhi : match hi, Hi with | none, none => True | some v, some V => RV ρ W v V | _, _ => False)
 (hq : sliceA P t x lo hi = some (true, v)) (w : World) : ∃ V, (Instr.sliceAt t X Lo Hi none).run P w = .ok V w ∧ RV ρ W v V := by
 unfold sliceA at hq
 split at hq
 · rename_i s hu
   split at hq
   case h_2 => cases hq
   rename_i l k h1 h2
   simp at hq
   obtain ⟨⟨⟨a1, a2⟩, a3⟩, rfl⟩ := hq
   cases hx
   refine ⟨.string (s.extract l.toNat k.toNat), ?_, .str _⟩
   have g1 := boundA_ok hlo h1
   have g2 := boundA_ok hhi h2
   rcases g1 with ⟨rfl, rfl⟩ | ⟨kk, rfl⟩ <;> rcases g2 with ⟨rfl, rfl⟩ | ⟨kk2, rfl⟩ <;>
    simp only [Instr.sliceAt, Instr.slice, run_underlying hu, Instr.sliceBounds, Instr.sliceBound, asIntOf, Sem.run_bind, Sem.run_pure, Result.andThen_ok, Option.isSome_none, Bool.false_eq_true, if_false] <;>
    (try rw [if_pos (by omega)]) <;> (try simp only [Sem.run_pure, Result.andThen_ok]) <;> (try rw [if_pos (by omega)]) <;> (try simp only [Sem.run_pure, Result.andThen_ok]) <;> rfl
 · rename_i e s len c hu
   split at hq
   case h_2 => cases hq
   rename_i l k s' h1 h2 hsz
   split at hq
   case isFalse => cases hq
   rename_i hs; subst hs
   simp at hq
   obtain ⟨⟨⟨a1, a2⟩, a3⟩, rfl⟩ := hq
   cases hx with
   | csl0 =>
    have e1 : l.toNat = 0 := by omega
    have e2 : k.toNat = 0 := by omega
    refine ⟨.slice none 0 0, ?_, by rw [e1, e2]; exact .csl0 _ _⟩
    have g1 := boundA_ok hlo h1
    have g2 := boundA_ok hhi h2
    have hl0 : l = 0 := by omega
    have hk0 : k = 0 := by omega
    rcases g1 with ⟨rfl, rfl⟩ | ⟨kk, rfl⟩ <;> rcases g2 with ⟨rfl, rfl⟩ | ⟨kk2, rfl⟩ <;>
     simp [Instr.sliceAt, Instr.slice, run_underlying hu, Instr.sliceBounds, Instr.sliceBound, asIntOf, hl0, hk0, run_size hsz]
   | csl s len cap c V hb hl hc hr =>
   rename_i b o
   have hnew : RV ρ W (.csl s (k.toNat - l.toNat) (fun i j => c (l.toNat + i) j)) (.slice (some ⟨b, if cap = l.toNat then o else o + l.toNat * s, none⟩) (k.toNat - l.toNat) (cap - l.toNat)) := by
    refine .csl s _ _ _ (fun i j => V (l.toNat + i) j) hb (by omega) (fun i j hi hj => ?_) (fun i j hi hj => hr _ _ (by omega) hj)
    rw [if_neg (by omega)]
    have := hc (l.toNat + i) j (by omega) hj
    rw [show o + l.toNat * s + (i * s + j) = o + ((l.toNat + i) * s + j) by rw [Nat.add_mul]; omega]
    exact this
   refine ⟨_, ?_, hnew⟩
   have hfin : ∀ w, ((do let size ← sizeOf e; pure (.slice (if cap = l.toNat then some ⟨b, o, none⟩ else (some (⟨b, o, none⟩ : Addr)).map (·.add (l.toNat * size))) (k.toNat - l.toNat) (cap - l.toNat))) : Sem Value).run P w = .ok (.slice (some ⟨b, if cap = l.toNat then o else o + l.toNat * s, none⟩) (k.toNat - l.toNat) (cap - l.toNat)) w := fun w => by
    simp only [Sem.run_bind, run_size hsz, Result.andThen_ok, Sem.run_pure]
    split
    · rfl
    · simp only [Option.map_some, Addr.add_mid]
   have g1 := boundA_ok hlo h1
   have g2 := boundA_ok hhi h2
   simp only [Option.map_some] at hfin
   rcases g1 with ⟨rfl, rfl⟩ | ⟨kk, rfl⟩ <;> rcases g2 with ⟨rfl, rfl⟩ | ⟨kk2, rfl⟩ <;>
    simp only [Instr.sliceAt, Instr.slice, run_underlying hu, Instr.sliceBounds, Instr.sliceBound, asIntOf, Sem.run_bind, Sem.run_pure, Result.andThen_ok, Option.map_some] <;>
    (try rw [if_pos (by omega)]) <;> (try simp only [Sem.run_pure, Result.andThen_ok]) <;> (try rw [if_pos (by omega)]) <;> (try simp only [Sem.run_pure, Result.andThen_ok]) <;>
    first | exact hfin w | (simpa using hfin w)
 · cases hq
variable {P : Program} {ρ : Names} {W w : World} {h : Heap}
theorem foldl_set (off : Nat) : ∀ (l : List Value) (k : Nat) (cs : Array Value), ((l.zipIdx k).foldl (fun cs (c, j) => cs.setIfInBounds (off + j) c) cs).toList = setAtV cs.toList (off + k) l
 | [], k, cs => by simp [setAtV_nil]
 | v :: l, k, cs => by
  simp only [List.zipIdx_cons, List.foldl_cons]
  rw [foldl_set off l (k + 1), setAtV_cons]
  simp [Nat.add_assoc]
theorem fill_ok (place : Nat → Option (Nat × Nat)) : ∀ {l : List (Nat × AV)} {L : List (Nat × Value)}, RP ρ W l L → ∀ {cs : List AV} {Cs : List Value}, RL ρ W cs Cs → ∀ (r : List AV), fillA place cs l = some r → ∃ R, Instr.fill place Cs.toArray L = some (List.toArray R) ∧ RL ρ W r R
 | _, _, .nil, cs, Cs, hc, r, hq => by simp [fillA] at hq; subst hq; exact ⟨Cs, by simp [Instr.fill], hc⟩
 | _, _, .cons (i := i) (v := v) (V := V) hv t, cs, Cs, hc, r, hq => by
  simp only [fillA] at hq
  simp only [Instr.fill]
  split at hq
  · cases hq
  · rename_i off size hp
    split at hq
    · rename_i hcond
      have e1 := hv.cells.length
      have e2 := hc.length
      have e3 : V.cells.toList.length = V.cells.size := by simp
      simp only [hp]
      rw [if_neg (by simp; omega)]
      have hset := RL.setAt hv.cells off hc
      have hfold : (V.cells.zipIdx.foldl (fun cs (c, j) => cs.setIfInBounds (off + j) c) Cs.toArray) = (setAtV Cs off V.cells.toList).toArray := by
       apply Array.ext'
       have := foldl_set off V.cells.toList 0 Cs.toArray
       simp only [Nat.add_zero] at this
       rw [← this]
       rw [← Array.foldl_toList, Array.toList_zipIdx]
      rw [hfold]
      exact fill_ok place t hset r hq
    · cases hq
theorem run_mapM_list {α β : Type} (f : α → Sem β) (g : α → Option β) (hf : ∀ a b, g a = some b → ∀ w, (f a).run P w = .ok b w) : ∀ (l : List α) (r : List β), l.mapM g = some r → ∀ w, (l.mapM f).run P w = .ok r w
 | [], r, hq, w => by simp at hq; subst hq; simp
 | a :: l, r, hq, w => by
  obtain ⟨b, bs, h1, h2, rfl⟩ := mapM_cons_some hq
  simp [List.mapM_cons, hf a b h1 w, run_mapM_list f g hf l bs h2 w]
theorem placesOf_mapM : ∀ (fs : List Field) (r : List (Nat × Nat)), placesOf P fs = some r → fs.mapM (fun f => (sizeT P f.type).map fun n => (f.offset, n)) = some r
 | [], r, hq => by simp [placesOf] at hq; subst hq; simp
 | f :: fs, r, hq => by
  simp only [placesOf] at hq
  split at hq
  · rename_i n rs h1 h2
    simp at hq; subst hq
    simp [List.mapM_cons, h1, placesOf_mapM fs rs h2]
  · cases hq
theorem build_ok {t : TypeId} {l : List (Nat × AV)} {L : List (Nat × Value)} {v : AV} (hl : RP ρ W l L) (hq : buildA P t l = some v) (w : World) : ∃ V, (Instr.build t L.toArray).run P w = .ok V w ∧ RV ρ W v V := by
 unfold buildA at hq
 split at hq
 · rename_i z fs hz hu
   obtain ⟨Z, g1, g2⟩ := run_zero hz ρ W w
   split at hq
   · rename_i pl hpl
     simp only [Option.map_eq_some_iff] at hq
     obtain ⟨r, hr, rfl⟩ := hq
     obtain ⟨R, f1, f2⟩ := fill_ok _ hl g2.cells r hr
     refine ⟨.agg R.toArray, ?_, .agg f2⟩
     have hm : ((fs.mapM fun f => do pure (f.offset, ← sizeOf f.type)) : Sem (Array (Nat × Nat))).run P w = .ok pl.toArray w := by
      rw [Array.mapM_eq_mapM_toList]
      have := run_mapM_list (P := P) (fun f : Field => (do pure (f.offset, ← sizeOf f.type) : Sem (Nat × Nat))) (fun f => (sizeT P f.type).map fun n => (f.offset, n))
       (fun f b hb w => by
        simp only [Option.map_eq_some_iff] at hb
        obtain ⟨n, hn, rfl⟩ := hb
        simp [run_size hn]) fs.toList pl (placesOf_mapM _ _ hpl) w
      rw [Sem.run_map, this]
      rfl
     simp only [Instr.build, Sem.run_bind, g1, Result.andThen_ok, run_underlying hu, hm]
     have e1 : (fun (x : Nat) => (pl.toArray)[x]?) = fun (i : Nat) => pl[i]? := by funext i; simp
     have e2 : Z.cells = Z.cells.toList.toArray := by simp
     rw [e1, e2, f1]
     rfl
   · cases hq
 · rename_i z n e hz hu
   obtain ⟨Z, g1, g2⟩ := run_zero hz ρ W w
   split at hq
   · rename_i k hk
     simp only [Option.map_eq_some_iff] at hq
     obtain ⟨r, hr, rfl⟩ := hq
     obtain ⟨R, f1, f2⟩ := fill_ok _ hl g2.cells r hr
     refine ⟨.agg R.toArray, ?_, .agg f2⟩
     simp only [Instr.build, Sem.run_bind, g1, Result.andThen_ok, run_underlying hu, run_size hk]
     have e2 : Z.cells = Z.cells.toList.toArray := by simp
     rw [e2, f1]
     rfl
   · cases hq
 · cases hq
def Gives (P : Program) (g : FuncId) (A : Array Value) (w : World) (R : Value → World → Prop) : Prop :=
 ((callFunc g A).run P w = .ok (.enter g A) w ∧ Calls P g A w fun e w' => ∃ V, e = .returned V ∧ R V w') ∨ ∃ V, (callFunc g A).run P w = .ok (.value V) w ∧ R V w
def Fr (n0 : Nat) : Nat → AV → Value → Prop
 | _, .nu .., .slice (some a) _ _ => n0 ≤ a.block
 | _, .nv .., .slice (some a) _ _ => n0 ≤ a.block
 | n + 1, .agg l, .agg L => ∀ (i : Nat) (v : AV) (V : Value), l[i]? = some v → L[i]? = some V → Fr n0 n v V
 | n + 1, .tup l, .tuple L => ∀ (i : Nat) (v : AV) (V : Value), l[i]? = some v → L[i]? = some V → Fr n0 n v V
 | _, _, _ => True
theorem Fr.flat {n0 : Nat} : ∀ (n : Nat) {v : AV} {V : Value}, v.flat n = true → Fr n0 n v V := by
 intro n
 induction n with
 | zero => intro v V h; cases v <;> simp [AV.flat] at h <;> simp [Fr]
 | succ n ih =>
  intro v V h
  cases v <;> simp only [AV.flat, Bool.false_eq_true] at h <;> try (simp only [Fr]; done)
  case agg l =>
   cases V <;> simp only [Fr]
   intro i v V hv hV
   exact ih (List.all_eq_true.1 h v (List.mem_of_getElem? hv))
  case tup l =>
   cases V <;> simp only [Fr]
   intro i v V hv hV
   exact ih (List.all_eq_true.1 h v (List.mem_of_getElem? hv))
def COk (P : Program) (g : FuncId) (con : Con) : Prop :=
 ∀ args p v, con args = some (p, v) → p = true → ∀ (w : World) (A : List Value), RL noNames w args A → Gives P g A.toArray w fun V w' => (RV noNames w' v V ∧ Below w.heap.size w w') ∧ Fr w.heap.size 4 v V
def TabOk (P : Program) (T : Tab) : Prop := ∀ g con, T g = some con → COk P g con
theorem RV.flat_move {W' : World} {ρ' : Names} : ∀ (n : Nat) {v : AV} {V : Value}, RV ρ W v V → v.flat n = true → RV ρ' W' v V := by
 intro n
 induction n with
 | zero =>
  intro v V hv hf
  cases hv <;> simp [AV.flat] at hf <;> constructor
 | succ n ih =>
  have hL : ∀ {l : List AV} {L : List Value}, RL ρ W l L → l.all (AV.flat n) = true → RL ρ' W' l L := by
   intro l
   induction l with
   | nil => intro L hl _; cases hl; exact .nil
   | cons a l ih2 =>
    intro L hl hf
    cases hl with | cons h1 h2 =>
    simp only [List.all_cons, Bool.and_eq_true] at hf
    exact .cons (ih h1 hf.1) (ih2 h2 hf.2)
  intro v V hv hf
  cases hv <;> simp only [AV.flat, Bool.false_eq_true] at hf
  case agg h => exact .agg (hL h hf)
  case tup h => exact .tup (hL h hf)
  case ifc h => exact .ifc _ (ih h hf)
  all_goals constructor
theorem frz_ok (hR : Rel ρ W h w) {rd : Nat → Option Ob} (hrd : ∀ n x, rd n = some x → h[n]? = some (some x)) : ∀ (n : Nat) {v v' : AV} {V : Value}, RV ρ W v V → frz rd n v = some v' → frzC rd n v = true → RV noNames w v' V := by
 have hk := Keeps.of_below hR.bel
 intro n
 induction n with
 | zero =>
  intro v v' V hv hq hcc
  cases hv <;> simp [frz] at hq
  case cp b o l L j hb hl hc => subst hq; exact (RV.cp (ρ := noNames) j hb hl hc).move (Ext.refl _) hk
  case csl b o s len cap c V hl hb hc hr => subst hq; exact (RV.csl (ρ := noNames) s len cap c V hb hl hc hr).move (Ext.refl _) hk
  all_goals (subst hq; constructor)
 | succ n ih =>
  have hL : ∀ {l l' : List AV} {L : List Value}, RL ρ W l L → l.mapM (frz rd n) = some l' → l.all (frzC rd n) = true → RL noNames w l' L := by
   intro l
   induction l with
   | nil => intro l' L hl hq _; cases hl; simp at hq; subst hq; exact .nil
   | cons a l ih2 =>
    intro l' L hl hq hcc
    cases hl with | cons h1 h2 =>
    obtain ⟨b, bs, g1, g2, rfl⟩ := mapM_cons_some hq
    simp only [List.all_cons, Bool.and_eq_true] at hcc
    exact .cons (ih h1 g1 hcc.1) (ih2 h2 g2 hcc.2)
  intro v v' V hv hq hcc
  cases hv <;> simp only [frz] at hq <;> simp only [frzC] at hcc
  case ptr m b o i s j hp =>
   split at hq
   · rename_i l hl
     simp only [hl] at hcc
     simp only [Option.map_eq_some_iff] at hq
     obtain ⟨l', g1, rfl⟩ := hq
     obtain ⟨b', o', e1, e2⟩ := hR.ob m _ (hrd _ _ hl)
     rw [hp] at e1; cases e1
     obtain ⟨_, h3, L, tt, h4, h5⟩ := e2
     subst h3
     refine .cp _ (hR.dom m _ hp).2 (hL h5 g1 hcc) fun x v hv => ?_
     simp [World.cell?, h4, hv]
   · cases hq
  case sl0 m i s =>
   split at hq
   · split at hq
     · split at hq
       · simp at hq; subst hq; exact .csl0 _ _
       · cases hq
     · split at hq
       · simp at hq; subst hq; exact .csl0 _ _
       · cases hq
   · cases hq
  case csl0 s c => simp at hq; subst hq; exact .csl0 _ _
  case nv => cases hq
  case nv0 => cases hq
  case sl m b o i s len cap off hl ho hp =>
   split at hq
   · rename_i s' len' c hr
     simp only [hr] at hcc
     have hlen := Nat.le_of_ble_eq_true hcc
     have key : ∀ d : Nat → Nat → AV, (∀ a j, d a j = c (i + a) j) → s = s' → RV noNames w (.csl s len d) (.slice (some ⟨b, off, none⟩) len cap) := fun d hd hs => by
      subst hs
      by_cases h0 : len = 0
      · subst h0
        exact .csl s 0 cap _ (fun _ _ => undef) (hR.dom m _ hp).2 hl (fun i j hi => by omega) (fun i j hi => by omega)
      · obtain ⟨b', o', e1, e2⟩ := hR.ob m _ (hrd _ _ hr) (by cases len' with | zero => omega | succ k => rfl)
        rw [hp] at e1; cases e1
        obtain ⟨Vf, h3, h4⟩ := e2
        have hoff : off = o + i * s := by rcases ho with ho | ho; omega; exact ho
        subst hoff
        refine .csl s len cap _ (fun a b => Vf (i + a) b) (hR.dom m _ hp).2 hl (fun a j ha hj => ?_) (fun a j ha hj => ?_)
        · have := h3 (i + a) j (by omega) hj
          rw [show o + i * s + (a * s + j) = o + ((i + a) * s + j) by rw [Nat.add_mul]; omega]; exact this
        · rw [hd]; exact (h4 (i + a) j (by omega) hj).move (Ext.refl _) hk
     split at hq
     · split at hq
       · rename_i hs
         simp at hq; subst hq
         exact key _ (fun a j => by rw [Nat.zero_add]) hs
       · cases hq
     · split at hq
       · rename_i hs
         simp at hq; subst hq
         exact key _ (fun a j => rfl) hs
       · cases hq
   · cases hq
  case gs m b cap s len hle hp =>
   split at hq
   · rename_i z e s' l hl
     simp only [hl] at hcc
     split at hq
     · rename_i hcond
       obtain ⟨rfl, hlen⟩ := hcond
       simp only [Option.map_eq_some_iff] at hq
       obtain ⟨l', g1, rfl⟩ := hq
       obtain ⟨b', o', e1, e2⟩ := hR.ob m _ (hrd _ _ hl)
       rw [hp] at e1; cases e1
       obtain ⟨_, _, L, fz, h4, h5, _, _, h6, h7⟩ := e2
       have hLL := hL h7 g1 hcc
       have hll := hLL.length
       have htl : (L.take l.length).length = l.length := by rw [List.length_take]; omega
       have inn : ∀ i j, i < len → j < s → i * s + j < len * s := fun i j hi hj => by
        have : (i + 1) * s ≤ len * s := Nat.mul_le_mul_right s hi
        rw [Nat.add_mul] at this
        omega
       refine .csl s len cap _ (fun a b => (L.take l.length).getD (a * s + b) undef) (hR.dom m _ hp).2 hle (fun i j hi hj => ?_) (fun i j hi hj => ?_)
       · have hlt := inn i j hi hj
         have hlt2 : i * s + j < L.length := by omega
         have : (L.take l.length)[i * s + j]? = some L[i * s + j] := by rw [List.getElem?_take, if_pos (by omega)]; simp [hlt2]
         simp only [Nat.zero_add, List.getD, this, Option.getD_some]
         simp [World.cell?, h4, hlt2]
       · have hlt := inn i j hi hj
         obtain ⟨x, hx⟩ : ∃ x, l'[i * s + j]? = some x := ⟨l'[i * s + j]'(by omega), by simp⟩
         obtain ⟨V, g2, g3⟩ := hLL.get _ _ hx
         simp only [List.getD, hx, g2, Option.getD_some]
         exact g3
     · cases hq
   · rename_i e s' len' c hl
     simp only [hl] at hcc
     have hlen := Nat.le_of_ble_eq_true hcc
     split at hq
     · rename_i hs
       subst hs
       simp at hq; subst hq
       obtain ⟨b', o', e1, e2⟩ := hR.ob m _ (hrd _ _ hl)
       rw [hp] at e1; cases e1
       obtain ⟨_, _, L, h4, h5, h6, h7⟩ := e2
       have hV : ∀ i j, i < len → j < s → ∃ V, L[i * s + j]? = some V ∧ RV noNames W (c i j) V := fun i j hi hj => by
        obtain ⟨V, g1, g2, _⟩ := h7 i j (by omega) hj; exact ⟨V, g1, g2⟩
       refine .csl s len cap _ (fun a b => L.getD (a * s + b) undef) (hR.dom m _ hp).2 hle (fun i j hi hj => ?_) (fun i j hi hj => ?_)
       · obtain ⟨V, g1, g2⟩ := hV i j hi hj
         simp only [Nat.zero_add, List.getD, g1, Option.getD_some]
         simp [World.cell?, h4, g1]
       · obtain ⟨V, g1, g2⟩ := hV i j hi hj
         simp only [List.getD, g1, Option.getD_some]
         exact g2.move (Ext.refl _) hk
     · cases hq
   · cases hq
  case gp m b cap i s j hp =>
   split at hq
   · rename_i z e s' l hl
     simp only [hl] at hcc
     simp only [Option.map_eq_some_iff] at hq
     obtain ⟨l', g1, rfl⟩ := hq
     obtain ⟨b', o', e1, e2⟩ := hR.ob m _ (hrd _ _ hl)
     rw [hp] at e1; cases e1
     obtain ⟨_, _, L, fz, h4, h5, _, _, h6, h7⟩ := e2
     have := RV.cp (ρ := noNames) (W := w) (b := b) (o := 0) (i * s + j) (hR.dom m _ hp).2 (hL h7 g1 hcc) fun x v hv => by
      rw [List.getElem?_take] at hv
      split at hv
      · simp [World.cell?, h4, hv]
      · cases hv
     rwa [Nat.zero_add] at this
   · cases hq
  case mp => cases hq
  case nu => cases hq
  case yl => cases hq
  case cp b o l L j hb hl hc => simp at hq; subst hq; exact (RV.cp (ρ := noNames) j hb hl hc).move (Ext.refl _) hk
  case csl b o s len cap c V hl hb hc hr => simp at hq; subst hq; exact (RV.csl (ρ := noNames) s len cap c V hb hl hc hr).move (Ext.refl _) hk
  case agg h =>
   simp only [Option.map_eq_some_iff] at hq
   obtain ⟨l', g1, rfl⟩ := hq
   exact .agg (hL h g1 hcc)
  case fn f a b A B ha hb =>
   split at hq
   · rename_i a' b' g1 g2
     simp at hq; subst hq
     simp only [Bool.and_eq_true] at hcc
     exact .fn f (hL ha g1 hcc.1) (hL hb g2 hcc.2)
   · cases hq
  case ifc t v V h =>
   simp only [Option.map_eq_some_iff] at hq
   obtain ⟨l', g1, rfl⟩ := hq
   exact .ifc t (ih h g1 hcc)
  case undef => cases hq
  case tup => cases hq
  all_goals (simp at hq; subst hq; constructor)
variable {P : Program} {ρ : Names} {W w : World} {h : Heap}
theorem RL.of_get : ∀ (l : List AV) (L : List Value), l.length = L.length → (∀ (i : Nat) (v : AV) (V : Value), l[i]? = some v → L[i]? = some V → RV ρ W v V) → RL ρ W l L
 | [], [], _, _ => .nil
 | [], _ :: _, hl, _ => by simp at hl
 | _ :: _, [], hl, _ => by simp at hl
 | v :: l, V :: L, hl, hg => .cons (hg 0 v V rfl rfl) (RL.of_get l L (by simpa using hl) fun i v V h1 h2 => hg (i + 1) v V (by simpa using h1) (by simpa using h2))
theorem flat_get {z : List AV} : ∀ (n i : Nat), i < n * z.length → ((List.replicate n z).flatten)[i]? = z[i % z.length]?
 | 0, i, hi => by simp at hi
 | n + 1, i, hi => by
  rw [List.replicate_succ, List.flatten_cons, List.getElem?_append]
  split
  · rename_i hlt; rw [Nat.mod_eq_of_lt hlt]
  · rename_i hge
    rw [Nat.add_mul, Nat.one_mul] at hi
    rw [flat_get n (i - z.length) (by omega), Nat.mod_eq_sub_mod (a := i) (by omega)]
theorem flat_length {z : List AV} (n : Nat) : ((List.replicate n z).flatten).length = n * z.length := by simp
theorem zeros_ok {z : AV} {Z : Value} (hz : RV ρ W z Z) {s n : Nat} (hs : z.cells.length = s) (h0 : 0 < s) : RL ρ W ((List.replicate n z.cells).flatten) (((Array.range (n * s)).map (Z.cells[· % Z.cells.size]!)).toList) := by
 have hc := hz.cells
 have hl := hc.length
 have hZ : Z.cells.size = s := by have : Z.cells.toList.length = s := by omega
                                  simpa using this
 refine RL.of_get _ _ (by rw [flat_length, hs]; simp) fun i v V h1 h2 => ?_
 have hi : i < n * s := by
  have := (List.getElem?_eq_some_iff.1 h1).1
  rw [flat_length, hs] at this; exact this
 rw [flat_get n i (by rw [hs]; exact hi), hs] at h1
 obtain ⟨U, g1, g2⟩ := hc.get _ _ h1
 have hm : i % s < Z.cells.size := by rw [hZ]; exact Nat.mod_lt _ h0
 have : V = U := by
  simp only [Array.toList_map, List.getElem?_map, Array.toList_range, List.getElem?_range hi, Option.map_some, Option.some.injEq] at h2
  rw [← h2, hZ, getElem!_pos Z.cells (i % s) hm]
  rw [Array.getElem?_toList, getElem?_pos Z.cells (i % s) hm] at g1
  exact Option.some.inj g1
 rw [this]; exact g2
theorem info_of_size {t : TypeId} {n : Nat} (hq : sizeT P t = some n) : ∃ i, P.info? t = some i ∧ i.size = n := by
 unfold sizeT at hq
 simpa using hq
theorem zero_of {t : TypeId} {z : AV} (hq : zeroT P t = some z) (ρ : Names) (W : World) {i : TypeInfo} (hi : P.info? t = some i) : ∃ Z, i.zero = some Z ∧ RV ρ W z Z := by
 unfold zeroT at hq
 simp only [hi] at hq
 split at hq
 · rename_i Z hz
   exact ⟨Z, hz, ofV_ok ρ W 3 Z z hq⟩
 · cases hq
theorem zO {h : Heap} {n : Nat} {x : Ob} (hq : rdFlat h n = some x) : h[n]? = some (some x) := by
 unfold rdFlat at hq
 rw [getL_eq] at hq
 cases hg : h[n]? with
 | none => simp [hg] at hq
 | some u => simp [hg] at hq; rw [hq]
theorem makeF_ok (hR : Rel ρ W h w) {nm : Nat} (hf : Fresh h nm) {w' : World} (hg : w.grownBy w' none) {x : Ob} {b o : Nat} (hb : w.heap.size ≤ b) (hb' : b < w'.heap.size) (hh : Holds (ρ.with nm b o) W w' b o x) :
 Ext ρ (ρ.with nm b o) ∧ Rel (ρ.with nm b o) W (effH h nm (.alloc x)) w' ∧ (ρ.with nm b o) nm = some (b, o) := by
 have r1 := hR.grow hg (fun k e => by cases e) (fun m p y _ e => by cases e)
 have r2 := r1.name hf hb' hh fun m p y hm hp _ => by have := (hR.dom m p hm).2; omega
 exact ⟨Names.with_ext (hR.free_none hf), r2, by simp [Names.with]⟩
theorem make_ok (hR : Rel ρ W h w) {w' : World} (hg : w.grownBy w' none) {x : Ob} {b o : Nat} (hb : w.heap.size ≤ b) (hb' : b < w'.heap.size) (hh : Holds (ρ.with h.length b o) W w' b o x) :
 Ext ρ (ρ.with h.length b o) ∧ Rel (ρ.with h.length b o) W (xheap h none (some x)) w' ∧ (ρ.with h.length b o) h.length = some (b, o) := by
 obtain ⟨g1, g2, g3⟩ := makeF_ok hR (nm := h.length) (.inl rfl) hg hb hb' hh
 exact ⟨g1, by simpa [effH, xheap] using g2, g3⟩
theorem drew_grown (w : World) (C : Array Value) (e : TypeId) (fz : Nat × Nat) : w.grownBy (w.drew.alloc (.cells C e fz)) none :=
 ⟨rfl, rfl, rfl, by simp, fun k hk _ => heap_alloc_old (w := w.drew) _ hk⟩
theorem setAt_length : ∀ (vs l : List AV) (j : Nat), (setAt l j vs).length = l.length
 | [], l, j => by rw [setAt_nil]
 | v :: vs, l, j => by rw [setAt_cons, setAt_length]; simp
theorem fillA_length (place : Nat → Option (Nat × Nat)) : ∀ (vs : List (Nat × AV)) (l r : List AV), fillA place l vs = some r → r.length = l.length
 | [], l, r, hq => by simp [fillA] at hq; rw [hq]
 | (i, v) :: vs, l, r, hq => by
  simp only [fillA] at hq
  split at hq
  · cases hq
  · split at hq
    · rw [fillA_length place vs _ r hq, setAt_length]
    · cases hq
theorem holds_own {b cap s : Nat} {e : TypeId} {z : Bool} {l : List AV} {C : Array Value} {fz : Nat × Nat} (hW : W.heap.size ≤ b) (hcap : cap ≤ maxLen) (hheap : w.heap[b]? = some (.cells C e fz)) (hsize : C.size = cap * s) (hz : z = true → fz = (0, 0))
 (hfz : ∀ x, x < C.size → (decide (fz.1 ≤ x) && decide (x < fz.2)) = false) (hle : l.length ≤ C.size) (hRL : RL ρ W l (C.toList.take l.length)) : Holds ρ W w b cap (.own z e s l) :=
 ⟨hW, hcap, C.toList, fz, by simpa using hheap, by simpa using hsize, hz, by simpa using hfz, by simpa using hle, hRL⟩
theorem RL.flat_move {W' : World} {ρ' : Names} (n : Nat) : ∀ {l : List AV} {L : List Value}, RL ρ W l L → l.all (AV.flat n) = true → RL ρ' W' l L
 | _, _, .nil, _ => .nil
 | _, _, .cons h t, ha => by
  simp only [List.all_cons, Bool.and_eq_true] at ha
  exact .cons (h.flat_move n ha.1) (RL.flat_move n t ha.2)
def RnOk (n0 : Nat) (w' : World) (n : Nat) (v : AV) (V : Value) : Prop :=
 (v.nus n = [] → ∀ (ρ : Names) (W : World) (nm : Nat), RV ρ W (v.rn nm n) V) ∧
 (∀ ob, v.nus n = [ob] → (ob.void = true ∧ ∀ (ρ : Names) (W : World) (nm : Nat), RV ρ W (v.rn nm n) V) ∨ ∃ b cap, n0 ≤ b ∧ b < w'.heap.size ∧ (∀ (ρ : Names) (W : World), W.heap.size ≤ b → Holds ρ W w' b cap ob) ∧ ∀ (ρ : Names) (W : World) (nm : Nat), ρ nm = some (b, cap) → RV ρ W (v.rn nm n) V)
theorem rn_leaf {n0 : Nat} {w' : World} {n : Nat} {v : AV} {V : Value} (hv : RV noNames w' v V) (hf : v.flat n = true) (h1 : v.nus n = []) (h2 : ∀ nm, v.rn nm n = v) : RnOk n0 w' n v V :=
 ⟨fun _ ρ W nm => by rw [h2]; exact hv.flat_move n hf, fun ob h => by rw [h1] at h; cases h⟩
theorem rnl_ok {n0 : Nat} {w' : World} {n : Nat} (ih : ∀ {v : AV} {V : Value}, RV noNames w' v V → v.okN n = true → Fr n0 n v V → RnOk n0 w' n v V) : ∀ {l : List AV} {L : List Value}, RL noNames w' l L → l.all (AV.okN n) = true → (∀ (i : Nat) (v : AV) (V : Value), l[i]? = some v → L[i]? = some V → Fr n0 n v V) →
 (((l.map (AV.nus n)).flatten = [] → ∀ (ρ : Names) (W : World) (nm : Nat), RL ρ W (l.map (AV.rn nm n)) L) ∧
 (∀ ob, (l.map (AV.nus n)).flatten = [ob] → (ob.void = true ∧ ∀ (ρ : Names) (W : World) (nm : Nat), RL ρ W (l.map (AV.rn nm n)) L) ∨ ∃ b cap, n0 ≤ b ∧ b < w'.heap.size ∧ (∀ (ρ : Names) (W : World), W.heap.size ≤ b → Holds ρ W w' b cap ob) ∧ ∀ (ρ : Names) (W : World) (nm : Nat), ρ nm = some (b, cap) → RL ρ W (l.map (AV.rn nm n)) L))
 | _, _, .nil, _, _ => ⟨fun _ _ _ _ => .nil, fun ob h => by simp at h⟩
 | _, _, .cons h t, ha, hF => by
  simp only [List.all_cons, Bool.and_eq_true] at ha
  obtain ⟨g1, g2⟩ := ih h ha.1 (hF 0 _ _ rfl rfl)
  obtain ⟨g3, g4⟩ := rnl_ok ih t ha.2 (fun i v V a b => hF (i + 1) v V (by simpa using a) (by simpa using b))
  constructor
  · intro e ρ W nm
    simp only [List.map_cons, List.flatten_cons, List.append_eq_nil_iff] at e
    exact .cons (g1 e.1 ρ W nm) (g3 e.2 ρ W nm)
  · intro ob e
    simp only [List.map_cons, List.flatten_cons] at e
    rcases List.append_eq_singleton_iff.1 e with ⟨e1, e2⟩ | ⟨e1, e2⟩
    · rcases g4 ob e2 with ⟨k0, k4⟩ | ⟨b, cap, k1, k2, k3, k4⟩
      · exact .inl ⟨k0, fun ρ W nm => .cons (g1 e1 ρ W nm) (k4 ρ W nm)⟩
      exact .inr ⟨b, cap, k1, k2, k3, fun ρ W nm hn => .cons (g1 e1 ρ W nm) (k4 ρ W nm hn)⟩
    · rcases g2 ob e1 with ⟨k0, k4⟩ | ⟨b, cap, k1, k2, k3, k4⟩
      · exact .inl ⟨k0, fun ρ W nm => .cons (k4 ρ W nm) (g3 e2 ρ W nm)⟩
      exact .inr ⟨b, cap, k1, k2, k3, fun ρ W nm hn => .cons (k4 ρ W nm hn) (g3 e2 ρ W nm)⟩
theorem nu_leaf {n0 : Nat} {w' : World} {n : Nat} {e s len : Nat} {l : List AV} {V : Value} (hv : RV noNames w' (.nu e s len l) V) (ho : (AV.nu e s len l).okN n = true) (hF : Fr n0 n (.nu e s len l) V) : RnOk n0 w' n (.nu e s len l) V := by
 have ho' : (l.all (AV.flat 4) && decide (l.length = len * s)) = true := by cases n <;> simpa [AV.okN] using ho
 simp only [Bool.and_eq_true, decide_eq_true_eq] at ho'
 cases hv with | nu e s len hb hc hl hW hs hlen h =>
 rename_i b cap L
 have hF' : n0 ≤ b := by cases n <;> simpa [Fr] using hF
 have hn : (AV.nu e s len l).nus n = [.own true e s l] := by cases n <;> rfl
 have hr : ∀ nm, (AV.nu e s len l).rn nm n = .gs nm s len := by intro nm; cases n <;> rfl
 refine ⟨fun e => by rw [hn] at e; simp at e, fun ob e => ?_⟩
 rw [hn] at e
 simp at e
 subst e
 have hml : len * s ≤ cap * s := Nat.mul_le_mul_right _ hl
 refine .inr ⟨b, cap, hF', hb, fun ρ W hWb => ⟨hWb, hc, L, (0, 0), hW, hs, fun _ => rfl, fun x _ => by simp, by omega, h.flat_move 4 ho'.1⟩, fun ρ W nm hp => ?_⟩
 rw [hr]
 exact .gs _ _ hp hl
theorem nv_leaf {n0 : Nat} {w' : World} {n : Nat} {s len : Nat} {c : Nat → Nat → AV} {V : Value} (hv : RV noNames w' (.nv s len c) V) (hF : Fr n0 n (.nv s len c) V) : RnOk n0 w' n (.nv s len c) V := by
 have hn : (AV.nv s len c).nus n = [.row s len c] := by cases n <;> rfl
 have hr : ∀ nm, (AV.nv s len c).rn nm n = .sl nm 0 s len := by intro nm; cases n <;> rfl
 refine ⟨fun e => by rw [hn] at e; simp at e, fun ob e => ?_⟩
 rw [hn] at e
 simp at e
 subst e
 cases hv with
 | nv0 => exact .inl ⟨rfl, fun ρ W nm => by rw [hr]; exact .sl0 _ _ _⟩
 | nv s len cap c Vf hb hl hc hrr hf =>
  rename_i b o
  have hF' : n0 ≤ b := by cases n <;> simpa [Fr] using hF
  refine .inr ⟨b, o, hF', hb, fun ρ W hWb => ⟨Vf, hc, fun i j hi hj => (hrr i j hi hj).flat_move 0 (hf i j hi hj)⟩, fun ρ W nm hp => ?_⟩
  rw [hr]
  exact .sl 0 s len cap o hp hl (.inr (by omega))
theorem rn_ok {n0 : Nat} {w' : World} : ∀ (n : Nat) {v : AV} {V : Value}, RV noNames w' v V → v.okN n = true → Fr n0 n v V → RnOk n0 w' n v V := by
 intro n
 induction n with
 | zero =>
  intro v V hv ho hF
  cases v
  case nu => exact nu_leaf hv ho hF
  case nv => exact nv_leaf hv hF
  all_goals exact rn_leaf hv ho rfl (fun _ => rfl)
 | succ n ih =>
  intro v V hv ho hF
  cases v
  case nu => exact nu_leaf hv ho hF
  case nv => exact nv_leaf hv hF
  case agg l =>
   cases hv with | agg hl =>
   rename_i L
   obtain ⟨g1, g2⟩ := rnl_ok ih hl ho (fun i v V a b => hF i v V a (by simpa using b))
   refine ⟨fun e ρ W nm => .agg (g1 e ρ W nm), fun ob e => ?_⟩
   rcases g2 ob e with ⟨k0, k4⟩ | ⟨b, cap, k1, k2, k3, k4⟩
   · exact .inl ⟨k0, fun ρ W nm => .agg (k4 ρ W nm)⟩
   exact .inr ⟨b, cap, k1, k2, k3, fun ρ W nm hn => .agg (k4 ρ W nm hn)⟩
  case tup l =>
   cases hv with | tup hl =>
   rename_i L
   obtain ⟨g1, g2⟩ := rnl_ok ih hl ho (fun i v V a b => hF i v V a (by simpa using b))
   refine ⟨fun e ρ W nm => .tup (g1 e ρ W nm), fun ob e => ?_⟩
   rcases g2 ob e with ⟨k0, k4⟩ | ⟨b, cap, k1, k2, k3, k4⟩
   · exact .inl ⟨k0, fun ρ W nm => .tup (k4 ρ W nm)⟩
   exact .inr ⟨b, cap, k1, k2, k3, fun ρ W nm hn => .tup (k4 ρ W nm hn)⟩
  all_goals exact rn_leaf hv ho rfl (fun _ => rfl)
theorem resOut_ok (hR : Rel ρ W h w) {nm : Nat} (hnm : Fresh h nm) {p : Bool} {u v : AV} {f : Eff} (hq : resOut nm p u = some (true, v, f)) {V : Value} {w' : World} (hV : RV noNames w' u V) (hB : Below w.heap.size w w') (hF : Fr w.heap.size 4 u V) :
 p = true ∧ ∃ ρ', Ext ρ ρ' ∧ RV ρ' W v V ∧ Rel ρ' W (effH h nm f) w' := by
 unfold resOut at hq
 split at hq
 · rename_i hfl
   simp at hq
   obtain ⟨rfl, rfl, rfl⟩ := hq
   exact ⟨rfl, ρ, Ext.refl ρ, hV.flat_move 4 hfl, hR.below hB⟩
 split at hq
 case isFalse => cases hq
 rename_i hok
 split at hq
 case h_2 => cases hq
 rename_i ob hob
 simp at hq
 obtain ⟨rfl, rfl, rfl⟩ := hq
 rcases (rn_ok 4 hV hok hF).2 ob hob with ⟨k0, k4⟩ | ⟨b, cap, k1, k2, k3, k4⟩
 · exact ⟨rfl, ρ, Ext.refl ρ, k4 _ _ _, (hR.below hB).voids hnm k0⟩
 obtain ⟨g1, g2, g3⟩ := makeF_ok hR hnm (w' := w') ⟨hB.os, hB.tape, hB.output, hB.size, fun k hk _ => hB.block k hk⟩ k1 k2 (k3 (ρ.with nm b cap) W (Nat.le_trans hR.bel.size k1))
 exact ⟨rfl, _, g1, k4 _ W nm g3, g2⟩
variable {P : Program} {ρ : Names} {W w : World} {h : Heap}
theorem zK {o : Oper} {a : Act} {w' : World} {K : Act → World → Prop} {Q : Exit → Act → World → Prop} {V : Value} (hr : (execOp a.eval o).run P w = .ok (.value V) w') (hK : K (a.put o.dst V) w') : o.wp P a w K Q := by
 unfold Oper.wp; rw [hr]; exact hK
theorem wp_skipped {o : Oper} {a : Act} {w' : World} {K : Act → World → Prop} {Q : Exit → Act → World → Prop} (hr : (execOp a.eval o).run P w = .ok .skip w') (hK : K (a.put o.dst undef) w') : o.wp P a w K Q := by
 unfold Oper.wp; rw [hr]; exact hK
theorem wp_gives {o : Oper} {a : Act} {w : World} {K : Act → World → Prop} {Q : Exit → Act → World → Prop} {g : FuncId} {A : Array Value} {R : Value → World → Prop} (hg : Gives P g A w R)
 (hr : (execOp a.eval o).run P w = (callFunc g A).run P w) (hK : ∀ V w', R V w' → K (a.put o.dst V) w') : o.wp P a w K Q := by
 unfold Oper.wp; rw [hr]
 rcases hg with ⟨h1, h2⟩ | ⟨V, h1, h2⟩
 · rw [h1]
   refine h2.mono fun e w' he => ?_
   obtain ⟨V, rfl, hR⟩ := he
   exact hK V w' hR
 · rw [h1]; exact hK V w h2
theorem box_ok (hR : Rel ρ W h w) {nm : Nat} (hf : Fresh h nm) {t : TypeId} {v : AV} {V : Value} (hv : RV ρ W v V) :
 ∃ w', (Instr.box t V).run P w = .ok (.pointer (some ⟨w.heap.size, 0, none⟩)) w' ∧ Rel (ρ.with nm w.heap.size 0) W (effH h nm (.alloc (.cells v.cells))) w' ∧ RV (ρ.with nm w.heap.size 0) W (.ptr nm 0 0 0) (.pointer (some ⟨w.heap.size, 0, none⟩)) := by
 have hnew := hR.alloc hf hv.cells t
 refine ⟨_, ?_, hnew, ?_⟩
 · simp only [Instr.box, newVar, newRow, Sem.run_bind, run_newObj, Result.andThen_ok, Sem.run_pure]
   rfl
 · have : (ρ.with nm w.heap.size 0) nm = some (w.heap.size, 0) := by simp [Names.with]
   simpa using RV.ptr (ρ := ρ.with nm w.heap.size 0) (W := W) 0 0 0 this
theorem methA_ok {t : TypeId} {name : String} {f : FuncId} (h : methA P t name = some f) (n : Nat) (V : Value) (w : World) : (method (n + 1) t V name).run P w = .ok (f, V) w := by
 unfold methA at h
 split at h
 case h_2 => cases h
 rename_i ti hti
 split at h
 case h_2 => cases h
 rename_i m hm
 have hm' : ti.methods.find? (fun m => m.name == name) = some m := by rw [← Array.find?_toList]; exact hm
 split at h
 · cases h
 · rename_i g d hneg hp hf hnp
   simp at h
   subst h
   have hrt : (typeInfo t).run P w = .ok ti w := by simp [typeInfo, hti]
   have hru : (underlying t).run P w = .ok d w := by simp [underlying, hnp]
   unfold method
   simp only [Sem.run_bind, hrt, Result.andThen_ok, hm', hp, follow, Sem.run_pure, hf, receiverAt, hru]
   cases d with
   | pointer e => exact (hneg e rfl).elim
   | _ => rfl
 · cases h
theorem target_ok {e : Operand → Option AV} {a : Act} (he : ∀ x v, e x = some v → RV ρ W v (a.eval x)) {c : Call} {g : FuncId} {args : List AV} (hq : targetA P e c = some (g, args)) (ty : TypeId) :
 ∃ A, RL ρ W args A ∧ ∀ w, ((do let d ← resolve a.eval c ty; invoke d.target d.args) : Sem Next).run P w = (callFunc g A.toArray).run P w := by
 have e0 : c.args.map a.eval = (c.args.toList.map a.eval).toArray := by apply Array.ext'; simp
 unfold targetA at hq
 split at hq
 case h_3 => cases hq
 · rename_i r name hc
   split at hq
   case h_2 => cases hq
   rename_i t v args' h1 h2
   split at hq
   case h_2 => cases hq
   rename_i g' hg
   simp at hq
   obtain ⟨rfl, rfl⟩ := hq
   have hfv := he _ _ h1
   generalize hF : a.eval r = F at hfv
   cases hfv with | ifc t hv =>
   rename_i V
   have has := evAll_ok he _ _ h2
   refine ⟨V :: c.args.toList.map a.eval, .cons hv has, fun w => ?_⟩
   have hd : Made.depth = 99 + 1 := rfl
   simp only [resolve, hc, Sem.run_bind, Sem.run_pure, Result.andThen_ok, invoke, hF, e0]
   simp [callMethod, run_program, hd, ← Nat.add_assoc, methA_ok hg]
   rw [List.take_of_length_le (by simp)]
 rename_i f hc
 split at hq
 case h_2 => cases hq
 rename_i g' first cap zs h1 h2
 simp at hq
 obtain ⟨rfl, rfl⟩ := hq
 have hfv := he _ _ h1
 generalize hF : a.eval f = F at hfv
 cases hfv with | fn f' ha hb =>
 rename_i A B
 have has := evAll_ok he _ _ h2
 refine ⟨A ++ (c.args.toList.map a.eval ++ B), ha.append (has.append hb), fun w => ?_⟩
 simp only [resolve, hc, Sem.run_bind, hF, Deferred.ofValue, Sem.run_pure, Result.andThen_ok, invoke]
 congr 2
 rw [e0]
 simp
theorem keyEq_ok {kt : TypeId} {k k' : AV} {K K' : Value} {b : Bool} (hk : RV ρ W k K) (hk' : RV ρ W k' K') (ho : keyOk P kt k = true) (hq : keyEq k k' = some b) : ∃ d, P.underlying kt = some d ∧ Instr.sameNow d K K' = some b := by
 unfold keyOk at ho
 unfold keyEq at hq
 split at hq
 · split at hq
   · rename_i hkk; subst hkk
     cases hk; cases hk'
     split at ho
     · rename_i hu he
       exact ⟨_, hu, by simp [Instr.sameNow]; simpa using hq⟩
     · rename_i he; cases he
     · cases ho
   · cases hq
 · cases hk; cases hk'
   split at ho
   · rename_i he; cases he
   · rename_i hu he
     exact ⟨_, hu, by simpa [Instr.sameNow] using hq⟩
   · cases ho
 · cases hq
theorem findA_ok {kt : TypeId} {k : AV} {K : Value} (hk : RV ρ W k K) (ho : keyOk P kt k = true) {d : TypeDesc} (hd : P.underlying kt = some d) : ∀ {l : List (AV × AV)} {L : List MapEntry}, RE ρ W l L → ∀ (i : Nat) (r : Option (Nat × AV)), findA k l i = some r →
 ∃ R, Instr.findNow d K L i = some R ∧ (match r, R with
  | none, none => True
  | some (j, v), some (j', V) => j = j' ∧ i ≤ j ∧ (∃ e, L[j - i]? = some e ∧ e.val = V ∧ ∃ k' , RV ρ W k' e.key ∧ keyEq k k' = some true) ∧ RV ρ W v V
  | _, _ => False)
 | _, _, .nil, i, r, hq => by simp [findA] at hq; subst hq; exact ⟨none, rfl, trivial⟩
 | _, _, .cons (k := k') (v := v) (e := e) hk' hv t, i, r, hq => by
  simp only [findA] at hq
  split at hq
  · rename_i hb
    simp at hq; subst hq
    obtain ⟨d', g1, g2⟩ := keyEq_ok hk hk' ho hb
    rw [hd] at g1; cases g1
    exact ⟨some (i, e.val), by simp only [Instr.findNow, g2], rfl, Nat.le_refl _, ⟨e, by simp, rfl, k', hk', hb⟩, hv⟩
  · rename_i hb
    obtain ⟨d', g1, g2⟩ := keyEq_ok hk hk' ho hb
    rw [hd] at g1; cases g1
    obtain ⟨R, g3, g4⟩ := findA_ok hk ho hd t (i + 1) r hq
    refine ⟨R, by simp only [Instr.findNow, g2]; exact g3, ?_⟩
    cases r with
    | none => cases R <;> simp_all
    | some p =>
     obtain ⟨j, u⟩ := p
     cases R with
     | none => simp at g4
     | some q =>
      obtain ⟨j', V⟩ := q
      obtain ⟨h1, h2, ⟨e', h3, h4⟩, h5⟩ := g4
      refine ⟨h1, by omega, ⟨e', ?_, h4⟩, h5⟩
      rw [show j - i = (j - (i + 1)) + 1 by omega]
      simpa using h3
  · cases hq
theorem checkKey_ok {kt : TypeId} {k : AV} {K : Value} (ho : keyOk P kt k = true) (hk : RV ρ W k K) (em : Bool) (n : Nat) (w : World) : (Instr.checkKey em (n + 1) kt K).run P w = .ok () w := by
 unfold keyOk at ho
 split at ho
 · rename_i hu; cases hk; simp [Instr.checkKey, run_underlying hu]
 · rename_i hu; cases hk; simp [Instr.checkKey, run_underlying hu]
 · cases ho
theorem keyOk_some {kt : TypeId} {k : AV} (ho : keyOk P kt k = true) : ∃ d, P.underlying kt = some d := by
 unfold keyOk at ho
 split at ho
 · exact ⟨_, by assumption⟩
 · exact ⟨_, by assumption⟩
 · cases ho
theorem lookA_ok (hR : Rel ρ W h w) {rd : Nat → Option Ob} (hrd' : ∀ n x, rd n = some x → h[n]? = some (some x)) {t : TypeId} {xx kk : AV} {X Kv : Value} {ok : Bool} {v : AV} (hxx : RV ρ W xx X) (hkk : RV ρ W kk Kv) (hq : lookA P rd t xx kk ok = some v) : ∃ V, (Instr.lookup t X Kv ok).run P w = .ok V w ∧ RV ρ W v V := by
 unfold lookA at hq
 split at hq
 case h_2 => cases hq
 rename_i kt el n hu
 split at hq
 case h_2 => cases hq
 rename_i l c z ho hrd hz
 cases hxx with | mp hp =>
 rename_i b o'
 have hm0 := hrd' _ _ hrd
 obtain ⟨b', o2, e1, e2⟩ := hR.ob n _ hm0
 rw [hp] at e1; cases e1
 obtain ⟨hW0, L, h4, h5⟩ := e2
 obtain ⟨d, hd⟩ := keyOk_some ho
 obtain ⟨Z, hZ, rZ⟩ := run_zero hz ρ W w
 have hget : (getObj b).run P w = .ok (.map L.toArray c) w := by simp [getObj, Sem.run, h4]
 have fin : ∀ (r : Option (Nat × AV)), findA kk l 0 = some r → ∀ u, (match r with | some (_, v) => u = (if ok then AV.tup [v, .bool true] else v) | none => u = (if ok then AV.tup [z, .bool false] else z)) → ∃ V, (Instr.lookup t (.map (some b)) Kv ok).run P w = .ok V w ∧ RV ρ W u V := by
  intro r hr u hu2
  obtain ⟨R, g1, g2⟩ := findA_ok hkk ho hd h5 0 r hr
  have hfk : (Instr.findKey kt Kv L).run P w = .ok R w := by simp [Instr.findKey, run_underlying hd, g1]
  have hck' : (Instr.checkKey L.isEmpty 10000 kt Kv).run P w = .ok () w := checkKey_ok ho hkk L.isEmpty 9999 w
  cases r with
  | none =>
   cases R with
   | none =>
    refine ⟨if ok then .tuple #[Z, .bool false] else Z, ?_, ?_⟩
    · cases ok <;> simp [Instr.lookup, run_underlying hu, hget, hck', hfk, hZ]
    · cases ok <;> simp only [Bool.false_eq_true, if_false, if_true] at hu2 ⊢ <;> subst hu2
      · exact rZ
      · exact .tup (.cons rZ (.cons (.bool _) .nil))
   | some q => obtain ⟨_, _⟩ := q; exact g2.elim
  | some p =>
   obtain ⟨j, u2⟩ := p
   cases R with
   | none => exact g2.elim
   | some q =>
    obtain ⟨j', V2⟩ := q
    refine ⟨if ok then .tuple #[V2, .bool true] else V2, ?_, ?_⟩
    · cases ok <;> simp [Instr.lookup, run_underlying hu, hget, hck', hfk]
    · have rv := g2.2.2.2
      cases ok <;> simp only [Bool.false_eq_true, if_false, if_true] at hu2 ⊢ <;> subst hu2
      · exact rv
      · exact .tup (.cons rv (.cons (.bool _) .nil))
 split at hq
 · rename_i i u hf
   simp at hq
   exact hq ▸ fin _ hf _ rfl
 · rename_i hf
   simp at hq
   exact hq ▸ fin _ hf _ rfl
 · cases hq
theorem opv_ok {T : Tab} (hT : TabOk P T) (hR : Rel ρ W h w) {rd : Nat → Option Ob} {nm : Nat} (hrd : ∀ n x, rd n = some x → h[n]? = some (some x)) (hnm : Fresh h nm) {e : Operand → Option AV} {a : Act}
 (he : ∀ x v, e x = some v → RV ρ W v (a.eval x)) {o : Oper} {v : AV} {f : Eff} (hv : opv P T rd nm e o = some (true, v, f)) {K : Act → World → Prop} {Q : Exit → Act → World → Prop}
 (hK : ∀ ρ' w' V, Ext ρ ρ' → RV ρ' W v V → Rel ρ' W (effH h nm f) w' → K (a.put o.dst V) w') : o.wp P a w K Q := by
 have plain : ∀ {r : Option AV}, plainOut r = some (true, v, f) → r = some v ∧ f = .no := fun {r} hq => by
  cases r <;> simp [plainOut] at hq; exact ⟨by rw [hq.1], hq.2.symm⟩
 have cond : ∀ {r : Option (Bool × AV)}, condOut r = some (true, v, f) → r = some (true, v) ∧ f = .no := fun {r} hq => by
  cases r with
  | none => simp [condOut] at hq
  | some p => obtain ⟨p, q⟩ := p; simp [condOut] at hq; exact ⟨by rw [hq.1, hq.2.1], hq.2.2.symm⟩
 have done : ∀ {V : Value}, f = .no → RV ρ W v V → K (a.put o.dst V) w := fun hf hV => hK ρ w _ (Ext.refl ρ) hV (by rw [hf]; exact hR)
 have val : ∀ {s : Sem Value} {V : Value}, f = .no → execOp a.eval o = (do pure (.value (← s))) → s.run P w = .ok V w → RV ρ W v V → o.wp P a w K Q := fun {s V} hf h1 h2 h3 =>
  zK (w' := w) (V := V) (by rw [h1]; simp [h2]) (done hf h3)
 unfold opv at hv
 split at hv
 case h_1 x hop =>
  obtain ⟨h1, h2⟩ := plain hv
  exact zK (w' := w) (V := a.eval x) (by simp only [execOp, hop] <;> rfl) (done h2 (he _ _ h1))
 case h_2 x hop =>
  obtain ⟨h1, h2⟩ := plain hv
  exact zK (w' := w) (V := a.eval x) (by simp only [execOp, hop] <;> rfl) (done h2 (he _ _ h1))
 case h_3 c x y hop =>
  split at hv
  · rename_i q u u' h1 h2 h3
    simp [give] at hv
    obtain ⟨rfl, rfl⟩ := hv
    have hc := he _ _ h1
    generalize hC : a.eval c = C at hc
    cases hc
    refine zK (w' := w) (V := if q then a.eval x else a.eval y) (by simp only [execOp, hop, hC]; simp [asBool]) (done rfl (aite_ok (he _ _ h2) (he _ _ h3)))
  · cases hv
 case h_4 t hop =>
  split at hv
  · rename_i z hz
    unfold boxOut at hv
    split at hv
    · simp at hv
      obtain ⟨rfl, rfl⟩ := hv
      obtain ⟨V, g1, g2⟩ := run_zero hz ρ W w
      obtain ⟨w', g3, g4, g5⟩ := box_ok (P := P) hR hnm (t := t) g2
      refine zK (w' := w') ?_ (hK _ _ _ (Names.with_ext (hR.free_none hnm)) g5 g4)
      simp only [Instr.box, Sem.run_bind, Sem.run_pure] at g3
      simp only [execOp, hop, Instr.alloc, Sem.run_bind, g1, Result.andThen_ok, g3, Sem.run_pure]
    · cases hv
  · cases hv
 case h_5 t x hop =>
  split at hv
  · rename_i u hu
    unfold boxOut at hv
    split at hv
    · simp at hv
      obtain ⟨rfl, rfl⟩ := hv
      obtain ⟨w', g3, g4, g5⟩ := box_ok (P := P) hR hnm (t := t) (he _ _ hu)
      refine zK (w' := w') ?_ (hK _ _ _ (Names.with_ext (hR.free_none hnm)) g5 g4)
      simp only [execOp, hop, Sem.run_bind, g3, Result.andThen_ok, Sem.run_pure]
    · cases hv
  · cases hv
 case h_6 t ps hop =>
  split at hv
  · rename_i vs hvs
    obtain ⟨h1, h2⟩ := plain hv
    obtain ⟨V, g1, g2⟩ := build_ok (P := P) (evParts_ok he _ _ hvs) h1 w
    refine val h2 (by simp only [execOp, hop] <;> rfl) ?_ g2
    have : ps.map (fun (i, x) => (i, a.eval x)) = (ps.toList.map fun (i, x) => (i, a.eval x)).toArray := by apply Array.ext'; simp
    rw [this]; exact g1
  · cases hv
 case h_7 t x hop =>
  split at hv
  · rename_i u hu
    obtain ⟨h1, h2⟩ := cond hv
    obtain ⟨V, g1, g2⟩ := loadA_ok hR hrd (he _ _ hu) h1
    exact val h2 (by simp only [execOp, hop] <;> rfl) g1 g2
  · cases hv
 case h_8 t x y hop =>
  split at hv
  · rename_i u u' h1 h2
    simp only [Option.map_eq_some_iff] at hv
    obtain ⟨⟨n, ob⟩, hs, hv⟩ := hv
    simp at hv
    obtain ⟨rfl, rfl⟩ := hv
    obtain ⟨w', g1, g2⟩ := storeA_ok (P := P) hR hrd (he _ _ h1) (he _ _ h2) hs
    refine wp_skipped (w' := w') ?_ (hK ρ w' _ (Ext.refl ρ) .undef g2)
    simp only [execOp, hop, Sem.run_bind, g1, Result.andThen_ok, Sem.run_pure]
  · cases hv
 case h_9 x hop =>
  split at hv
  · rename_i n i s j hu
    simp [give] at hv; obtain ⟨rfl, rfl⟩ := hv
    have hx := he _ _ hu
    generalize hX : a.eval x = X at hx
    refine zK (w' := w) (V := X) ?_ (done rfl hx)
    cases hx; simp only [execOp, hop, hX]; rfl
  · rename_i l j hu
    simp [give] at hv; obtain ⟨rfl, rfl⟩ := hv
    have hx := he _ _ hu
    generalize hX : a.eval x = X at hx
    refine zK (w' := w) (V := X) ?_ (done rfl hx)
    cases hx; simp only [execOp, hop, hX]; rfl
  · rename_i n i s j hu
    simp [give] at hv; obtain ⟨rfl, rfl⟩ := hv
    have hx := he _ _ hu
    generalize hX : a.eval x = X at hx
    refine zK (w' := w) (V := X) ?_ (done rfl hx)
    cases hx; simp only [execOp, hop, hX]; rfl
  · rename_i g fa fb hu
    simp [give] at hv; obtain ⟨rfl, rfl⟩ := hv
    have hx := he _ _ hu
    generalize hX : a.eval x = X at hx
    refine zK (w' := w) (V := X) ?_ (done rfl hx)
    cases hx; simp only [execOp, hop, hX]; rfl
  · cases hv
 case h_10 op t x y yt hop =>
  split at hv
  · rename_i u u' h1 h2
    obtain ⟨g1, g2⟩ := cond hv
    obtain ⟨V, g3, g4⟩ := binX_ok (P := P) (ox := x) (oy := y) (he _ _ h1) (he _ _ h2) g1 w
    exact val g2 (by simp only [execOp, hop] <;> rfl) g3 g4
  · cases hv
 case h_11 op t x hop =>
  split at hv
  · rename_i u hu
    obtain ⟨g1, g2⟩ := plain hv
    obtain ⟨V, g3, g4⟩ := unA_ok (P := P) (he _ _ hu) g1 w
    exact val g2 (by simp only [execOp, hop] <;> rfl) g3 g4
  · cases hv
 case h_12 s d x hop =>
  split at hv
  · rename_i u hu
    obtain ⟨g1, g2⟩ := plain hv
    obtain ⟨V, g3, g4⟩ := convA_ok (P := P) (he _ _ hu) g1 w
    exact val g2 (by simp only [execOp, hop] <;> rfl) g3 g4
  · cases hv
 case h_13 t x hop =>
  split at hv
  · cases hv
  · rename_i d u hni hd hu
    simp [give] at hv; obtain ⟨rfl, rfl⟩ := hv
    refine val (V := .iface t (a.eval x)) rfl (by simp only [execOp, hop] <;> rfl) ?_ (.ifc t (he _ _ hu))
    simp only [Instr.makeInterface, Sem.run_bind, run_underlying hd, Result.andThen_ok]
    rfl
  · cases hv
 case h_14 g x y hop =>
  split at hv
  · rename_i u u' h1 h2
    simp [give] at hv; obtain ⟨rfl, rfl⟩ := hv
    refine val (V := .func g (x.toList.map a.eval).toArray (y.toList.map a.eval).toArray) rfl (by simp only [execOp, hop] <;> rfl) ?_ (.fn g (evAll_ok he _ _ h1) (evAll_ok he _ _ h2))
    have e1 : ∀ z : Array Operand, z.map a.eval = (z.toList.map a.eval).toArray := fun z => by apply Array.ext'; simp
    simp only [Instr.makeFunc, e1, Sem.run_pure]
  · cases hv
 case h_15 t x lo hi hop =>
  split at hv
  · rename_i u l k h1 h2 h3
    obtain ⟨g1, g2⟩ := cond hv
    have ev : ∀ (x : Option Operand) (l : Option AV), evOpt e x = some l → match l, x.map a.eval with | none, none => True | some v, some V => RV ρ W v V | _, _ => False := fun x l hq => by
     cases x with
     | none => simp [evOpt] at hq; subst hq; trivial
     | some x =>
      simp only [evOpt, Option.map_eq_some_iff] at hq
      obtain ⟨v, hv, rfl⟩ := hq
      exact he _ _ hv
    obtain ⟨V, g3, g4⟩ := sliceA_ok (P := P) (he _ _ h1) (ev _ _ h2) (ev _ _ h3) g1 w
    exact val g2 (by simp only [execOp, hop] <;> rfl) g3 g4
  · cases hv
 case h_16 t x g hop =>
  split at hv
  · rename_i u hu
    obtain ⟨g1, g2⟩ := plain hv
    obtain ⟨V, g3, g4⟩ := fieldAddrA_ok (P := P) (he _ _ hu) g1 w
    exact val g2 (by simp only [execOp, hop] <;> rfl) g3 g4
  · cases hv
 case h_17 t x g hop =>
  split at hv
  · rename_i l fd hu hfd
    obtain ⟨g1, g2⟩ := plain hv
    have hx := he _ _ hu
    generalize hX : a.eval x = X at hx
    cases hx with | agg hx =>
    obtain ⟨V, g3, g4⟩ := field_ok (P := P) hx hfd g1 w
    exact val g2 (by simp only [execOp, hop, hX] <;> rfl) g3 g4
  · cases hv
 case h_18 t x i hop =>
  split at hv
  · rename_i u u' h1 h2
    obtain ⟨g1, g2⟩ := cond hv
    obtain ⟨V, g3, g4⟩ := indexAddrA_ok (P := P) hR (he _ _ h1) (he _ _ h2) g1
    exact val g2 (by simp only [execOp, hop] <;> rfl) g3 g4
  · cases hv
 case h_19 t x i hop =>
  split at hv
  · rename_i u u' h1 h2
    obtain ⟨g1, g2⟩ := cond hv
    obtain ⟨V, g3, g4⟩ := indexA_ok (P := P) (he _ _ h1) (he _ _ h2) g1 w
    exact val g2 (by simp only [execOp, hop] <;> rfl) g3 g4
  · cases hv
 case h_20 x i hop =>
  split at hv
  · rename_i l hu
    obtain ⟨g1, g2⟩ := plain hv
    have hx := he _ _ hu
    generalize hX : a.eval x = X at hx
    cases hx with | tup hx =>
    obtain ⟨V, g3, g4⟩ := extract_ok (P := P) hx g1 w
    exact val g2 (by simp only [execOp, hop, hX] <;> rfl) g3 g4
  · cases hv
 case h_21 c hop =>
  split at hv
  · rename_i b hb
    split at hv
    case h_2 => cases hv
    rename_i args hargs
    obtain ⟨g1, g2⟩ := plain hv
    have hL := evAll_ok he _ _ hargs
    have hrun : ∀ {s : Sem Value} {V : Value}, builtin b c.argTypes o.type (c.args.map fun | .const _ => true | _ => false) (c.args.toList.map a.eval).toArray = (do pure (.value (← s))) → s.run P w = .ok V w → RV ρ W v V → o.wp P a w K Q := fun {s V} h1 h2 h3 => by
     refine zK (w' := w) (V := V) ?_ (done g2 h3)
     have e0 : c.args.map a.eval = (c.args.toList.map a.eval).toArray := by apply Array.ext'; simp
     simp only [execOp, hop, resolve, hb, Sem.run_bind, Sem.run_pure, Result.andThen_ok, invoke, e0]
     refine (congrArg (fun s => Sem.run P s w) h1).trans ?_
     simp only [Sem.run_bind, h2, Result.andThen_ok, Sem.run_pure]
    unfold builtinA at g1
    split at g1
    · rename_i x
      split at g1
      · rename_i t ht
        generalize c.args.toList.map a.eval = L at hL hrun
        cases hL with | cons hx hn =>
        cases hn
        obtain ⟨V, g3, g4⟩ := lenA_ok (P := P) (ty := o.type) ht hx g1 w
        exact hrun rfl g3 g4
      · cases g1
    · rename_i x r
      generalize c.args.toList.map a.eval = L at hL hrun
      cases hL with | cons hx hr =>
      obtain ⟨V, g3, g4⟩ := foldA_ok (P := P) (g := Builtin.max2) (fun x y v X Y hq hx hy w => max2A_ok x y v X Y hq hx hy w) _ _ _ _ _ hr hx g1 w
      exact hrun (s := Builtin.max_ c.argTypes o.type _) rfl (by simpa [Builtin.max_] using g3) g4
    · rename_i x r
      generalize c.args.toList.map a.eval = L at hL hrun
      cases hL with | cons hx hr =>
      obtain ⟨V, g3, g4⟩ := foldA_ok (P := P) (g := Builtin.min2) (fun x y v X Y hq hx hy w => min2A_ok x y v X Y hq hx hy w) _ _ _ _ _ hr hx g1 w
      exact hrun (s := Builtin.min_ c.argTypes o.type _) rfl (by simpa [Builtin.min_] using g3) g4
    · cases g1
  · rename_i hnb
    unfold callA at hv
    split at hv
    case h_2 => cases hv
    rename_i g args hta
    split at hv
    case h_2 => cases hv
    rename_i con hcon
    split at hv
    case h_2 => cases hv
    rename_i args' hfz
    split at hv
    case h_2 => cases hv
    rename_i p u hcv
    have hp : args.all (frzC rd 6) = true ∧ p = true := by
     have h0 : (args.all (frzC rd 6) && p) = true := by
      unfold resOut at hv
      (repeat' split at hv) <;> simp only [Option.some.injEq, Prod.mk.injEq, reduceCtorEq] at hv <;> exact hv.1
     simpa using h0
    obtain ⟨hcc, rfl⟩ := hp
    obtain ⟨A, hA, hrunA⟩ := target_ok (P := P) he hta o.type
    have hfr : ∀ (l l' : List AV) (L : List Value), RL ρ W l L → frzAll rd l = some l' → l.all (frzC rd 6) = true → RL noNames w l' L := by
     intro l
     induction l with
     | nil => intro l' L hl hq _; cases hl; simp [frzAll] at hq; subst hq; exact .nil
     | cons x l ih =>
      intro l' L hl hq hcc
      simp only [List.all_cons, Bool.and_eq_true] at hcc
      cases hl with | cons h1 h2 =>
      simp only [frzAll] at hq
      split at hq
      · rename_i x' r g1 g2
        simp at hq; subst hq
        exact .cons (frz_ok hR hrd 6 h1 g1 hcc.1) (ih _ _ h2 g2 hcc.2)
      · cases hq
    have hg := hT g con hcon args' true u hcv rfl w A (hfr _ _ _ hA hfz hcc)
    refine wp_gives hg (by simp only [execOp, hop]; exact hrunA w) fun V w' hVw => ?_
    obtain ⟨_, ρ', q1, q2, q3⟩ := resOut_ok hR hnm hv hVw.1.1 hVw.1.2 hVw.2
    exact hK ρ' w' V q1 q2 q3
 case h_22 x xt t ok hop =>
  split at hv
  · rename_i u hu
    obtain ⟨g1, g2⟩ := plain hv
    obtain ⟨V, g3, g4⟩ := assertA_ok (P := P) (xt := xt) (he _ _ hu) g1 w
    exact val g2 (by simp only [execOp, hop] <;> rfl) g3 g4
  · cases hv
 case h_23 t len ps hop =>
  split at hv
  case h_2 => cases hv
  rename_i vs hvs
  unfold litOut at hv
  split at hv
  case h_2 => cases hv
  rename_i el hu
  split at hv
  case h_2 => cases hv
  rename_i n z hn hz
  split at hv
  case h_2 => cases hv
  rename_i l hl
  split at hv
  case isFalse => cases hv
  rename_i hc
  obtain ⟨c0, c1, c2, c3⟩ := hc
  simp at hv
  obtain ⟨rfl, rfl⟩ := hv
  obtain ⟨i, hi, rfl⟩ := info_of_size hn
  obtain ⟨Z, hZ, rZ⟩ := zero_of hz ρ W hi
  obtain ⟨R, hf, hRL⟩ := fill_ok (fun j => some (j * i.size, i.size)) (evParts_ok he _ _ hvs) (zeros_ok rZ (n := len) c2 c0) l hl
  have hll := fillA_length _ _ _ _ hl
  rw [flat_length, c2] at hll
  have hRl : R.length = len * i.size := by have := hRL.length; omega
  have hpos : 0 < len * i.size := Nat.mul_pos c1 c0
  have hlm : len ≤ len * i.size := Nat.le_mul_of_pos_right _ c0
  refine wp_buildSlice t el len ps hop R.toArray i Z hu hi hZ (by omega) (by omega) (by rw [Array.toList_map]; rw [Array.toArray_toList] at hf; exact hf) ?_
  obtain ⟨k1, k2, k3⟩ := makeF_ok hR hnm (w' := w.alloc (.cells R.toArray el)) (World.grownBy_alloc w _ none) (x := .own true el i.size l) (b := w.heap.size) (o := len) (Nat.le_refl _) (by simp)
   (holds_own hR.bel.size (by unfold maxLen; omega) (heap_alloc_new w _) (by simpa using hRl) (fun _ => rfl) (fun x _ => by simp) (by simp; omega) (by simp only []; rw [List.take_of_length_le (by omega)]; exact hRL.ext (Names.with_ext (hR.free_none hnm))))
  exact hK _ _ _ k1 (.gs _ _ k3 (Nat.le_refl _)) k2
 case h_24 t l c hop =>
  split at hv
  case h_2 => cases hv
  rename_i x y hl hc
  unfold makeOut at hv
  split at hv
  case h_2 => cases hv
  rename_i el kl n kc m hu
  split at hv
  case h_2 => cases hv
  rename_i i z hi hz
  split at hv
  case isFalse => cases hv
  rename_i hcc
  obtain ⟨rfl, c0, c2, c3, c4⟩ := hcc
  simp at hv
  obtain ⟨rfl, rfl⟩ := hv
  obtain ⟨Z, hZ, rZ⟩ := zero_of hz ρ W hi
  have hl' := he _ _ hl
  have hc' := he _ _ hc
  generalize hL : a.eval l = L at hl'
  generalize hC : a.eval c = C at hc'
  cases hl'; cases hc'
  have hr := run_make (P := P) w t el i Z hu hi hZ kl kc (n : Int) (n : Int) (by omega) (Int.le_refl _) (by
   have : ((i.bytes * n : Nat) : Int) ≤ 281474976710656 := by omega
   rwa [Int.natCast_mul] at this) (by unfold maxLen at c4; omega)
  simp only [Int.toNat_natCast] at hr
  refine zK (w' := w.alloc (.cells (madeCells Z.cells (n * i.size)) el)) (V := .slice (some ⟨w.heap.size, 0, none⟩) n n) (by simp only [execOp, hop, hL, hC]; simp only [Int.ofNat_eq_natCast, Sem.run_bind, hr, Result.andThen_ok, Sem.run_pure]) ?_
  have hzl := zeros_ok rZ (n := n) c2 c0
  have hzn : ((List.replicate n z.cells).flatten).length = n * i.size := by rw [flat_length, c2]
  obtain ⟨k1, k2, k3⟩ := makeF_ok hR hnm (w' := w.alloc (.cells (madeCells Z.cells (n * i.size)) el)) (World.grownBy_alloc w _ none) (x := .own true el i.size ((List.replicate n z.cells).flatten)) (b := w.heap.size) (o := n) (Nat.le_refl _) (by simp)
   (holds_own hR.bel.size c4 (heap_alloc_new w _) (size_madeCells _ _) (fun _ => rfl) (fun x _ => by simp) (by rw [size_madeCells, hzn]; exact Nat.le_refl _) (by
    rw [List.take_of_length_le (by rw [hzn, Array.length_toList, size_madeCells]; exact Nat.le_refl _)]
    exact hzl.ext (Names.with_ext (hR.free_none hnm))))
  exact hK _ _ _ k1 (.gs _ _ k3 (Nat.le_refl _)) k2
 case h_25 t x ix ok hop =>
  split at hv
  case h_2 => cases hv
  rename_i xa ka hx hk
  obtain ⟨h1, h2⟩ := plain hv
  obtain ⟨V, g1, g2⟩ := lookA_ok (X := a.eval x) (Kv := a.eval ix) hR hrd (he _ _ hx) (he _ _ hk) h1
  exact zK (w' := w) (V := V) (by simp only [execOp, hop, Sem.run_bind, g1, Result.andThen_ok, Sem.run_pure]) (done h2 g2)
 case h_26 t hop =>
  split at hv
  case h_2 => cases hv
  rename_i kt et hu
  simp at hv
  obtain ⟨rfl, rfl⟩ := hv
  refine zK (w' := w.alloc (.map #[] 0)) (V := .map (some w.heap.size)) (by simp only [execOp, hop, Option.map_none, Sem.run_bind, run_makeMap, Result.andThen_ok, Sem.run_pure]) ?_
  obtain ⟨k1, k2, k3⟩ := makeF_ok hR hnm (w' := w.alloc (.map #[] 0)) (World.grownBy_alloc w _ none) (x := .mapo [] 0) (b := w.heap.size) (o := 0) (Nat.le_refl _) (by simp) ⟨hR.bel.size, [], heap_alloc_new w _, .nil⟩
  exact hK _ _ _ k1 (.mp k3) k2
 case h_27 => cases hv
end Go.Proofs.YtimgphlfaninnaaGreat.A

/- The abstract machine: rows of noughts, and what a slice that owns its row holds. -/
import Derived.Test.YtlpnbbonbclddaaQciikjhihho
import Derived.Great.BuildSlice
import Derived.Laws.MakeOwn
import Derived.Laws.OwnMore
namespace Go.Proofs.Ytlpnbbonbclddaa.A
open Go Go.RowKit
set_option linter.unusedVariables false
set_option linter.unusedSimpArgs false
variable {P : Program} {ρ : Names} {W w : World} {h : Heap}
theorem RL.of_get : ∀ (l : List AV) (L : List Value), l.length = L.length → (∀ (i : Nat) (v : AV) (V : Value), l[i]? = some v → L[i]? = some V → RV ρ W v V) → RL ρ W l L
  | [], [], _, _ => .nil
  | [], _ :: _, hl, _ => by simp at hl
  | _ :: _, [], hl, _ => by simp at hl
  | v :: l, V :: L, hl, hg => .cons (hg 0 v V rfl rfl) (RL.of_get l L (by simpa using hl) fun i v V h1 h2 => hg (i + 1) v V (by simpa using h1) (by simpa using h2))
theorem flat_get {z : List AV} : ∀ (n i : Nat), i < n * z.length → ((List.replicate n z).flatten)[i]? = z[i % z.length]?
  | 0, i, hi => by simp at hi
  | n + 1, i, hi => by
    rw [List.replicate_succ, List.flatten_cons, List.getElem?_append]
    split
    · rename_i hlt; rw [Nat.mod_eq_of_lt hlt]
    · rename_i hge
      rw [Nat.add_mul, Nat.one_mul] at hi
      rw [flat_get n (i - z.length) (by omega), Nat.mod_eq_sub_mod (a := i) (by omega)]
theorem flat_length {z : List AV} (n : Nat) : ((List.replicate n z).flatten).length = n * z.length := by simp
/-- Noughts, as many as a slice wants. -/
theorem zeros_ok {z : AV} {Z : Value} (hz : RV ρ W z Z) {s n : Nat} (hs : z.cells.length = s) (h0 : 0 < s) : RL ρ W ((List.replicate n z.cells).flatten) (((Array.range (n * s)).map (Z.cells[· % Z.cells.size]!)).toList) := by
  have hc := hz.cells
  have hl := hc.length
  have hZ : Z.cells.size = s := by have : Z.cells.toList.length = s := by omega
                                   simpa using this
  refine RL.of_get _ _ (by rw [flat_length, hs]; simp) fun i v V h1 h2 => ?_
  have hi : i < n * s := by
    have := (List.getElem?_eq_some_iff.1 h1).1
    rw [flat_length, hs] at this; exact this
  rw [flat_get n i (by rw [hs]; exact hi), hs] at h1
  obtain ⟨U, g1, g2⟩ := hc.get _ _ h1
  have hm : i % s < Z.cells.size := by rw [hZ]; exact Nat.mod_lt _ h0
  have : V = U := by
    simp only [Array.toList_map, List.getElem?_map, Array.toList_range, List.getElem?_range hi, Option.map_some, Option.some.injEq] at h2
    rw [← h2, hZ, getElem!_pos Z.cells (i % s) hm]
    rw [Array.getElem?_toList, getElem?_pos Z.cells (i % s) hm] at g1
    exact Option.some.inj g1
  rw [this]; exact g2
theorem info_of_size {t : TypeId} {n : Nat} (hq : sizeT P t = some n) : ∃ i, P.info? t = some i ∧ i.size = n := by
  unfold sizeT at hq
  simpa using hq
theorem zero_of {t : TypeId} {z : AV} (hq : zeroT P t = some z) (ρ : Names) (W : World) {i : TypeInfo} (hi : P.info? t = some i) : ∃ Z, i.zero = some Z ∧ RV ρ W z Z := by
  unfold zeroT at hq
  simp only [hi] at hq
  split at hq
  · rename_i Z hz
    exact ⟨Z, hz, ofV_ok ρ W 3 Z z hq⟩
  · cases hq
theorem rdFlat_some {h : Heap} {n : Nat} {x : Ob} (hq : rdFlat h n = some x) : h[n]? = some (some x) := by
  unfold rdFlat at hq
  rw [getL_eq] at hq
  cases hg : h[n]? with
  | none => simp [hg] at hq
  | some u => simp [hg] at hq; rw [hq]
/-- A new block with a name of its own. -/
theorem makeF_ok (hR : Rel ρ W h w) {nm : Nat} (hf : Fresh h nm) {w' : World} (hg : w.grownBy w' none) {x : Ob} {b o : Nat} (hb : w.heap.size ≤ b) (hb' : b < w'.heap.size) (hh : Holds (ρ.with nm b o) W w' b o x) :
    Ext ρ (ρ.with nm b o) ∧ Rel (ρ.with nm b o) W (effH h nm (.alloc x)) w' ∧ (ρ.with nm b o) nm = some (b, o) := by
  have r1 := hR.grow hg (fun k e => by cases e) (fun m p y _ e => by cases e)
  have r2 := r1.name hf hb' hh fun m p y hm hp _ => by have := (hR.dom m p hm).2; omega
  exact ⟨Names.with_ext (hR.free_none hf), r2, by simp [Names.with]⟩
theorem make_ok (hR : Rel ρ W h w) {w' : World} (hg : w.grownBy w' none) {x : Ob} {b o : Nat} (hb : w.heap.size ≤ b) (hb' : b < w'.heap.size) (hh : Holds (ρ.with h.length b o) W w' b o x) :
    Ext ρ (ρ.with h.length b o) ∧ Rel (ρ.with h.length b o) W (xheap h none (some x)) w' ∧ (ρ.with h.length b o) h.length = some (b, o) := by
  obtain ⟨g1, g2, g3⟩ := makeF_ok hR (nm := h.length) (.inl rfl) hg hb hb' hh
  exact ⟨g1, by simpa [effH, xheap] using g2, g3⟩
theorem drew_grown (w : World) (C : Array Value) (e : TypeId) (fz : Nat × Nat) : w.grownBy (w.drew.alloc (.cells C e fz)) none :=
  ⟨rfl, rfl, rfl, by simp, fun k hk _ => heap_alloc_old (w := w.drew) _ hk⟩
theorem setAt_length : ∀ (vs l : List AV) (j : Nat), (setAt l j vs).length = l.length
  | [], l, j => by rw [setAt_nil]
  | v :: vs, l, j => by rw [setAt_cons, setAt_length]; simp
theorem fillA_length (place : Nat → Option (Nat × Nat)) : ∀ (vs : List (Nat × AV)) (l r : List AV), fillA place l vs = some r → r.length = l.length
  | [], l, r, hq => by simp [fillA] at hq; rw [hq]
  | (i, v) :: vs, l, r, hq => by
    simp only [fillA] at hq
    split at hq
    · cases hq
    · split at hq
      · rw [fillA_length place vs _ r hq, setAt_length]
      · cases hq
theorem holds_own {b cap s : Nat} {e : TypeId} {z : Bool} {l : List AV} {C : Array Value} {fz : Nat × Nat} (hW : W.heap.size ≤ b) (hcap : cap ≤ maxLen) (hheap : w.heap[b]? = some (.cells C e fz)) (hsize : C.size = cap * s) (hz : z = true → fz = (0, 0))
    (hfz : ∀ x, x < C.size → (decide (fz.1 ≤ x) && decide (x < fz.2)) = false) (hle : l.length ≤ C.size) (hRL : RL ρ W l (C.toList.take l.length)) : Holds ρ W w b cap (.own z e s l) :=
  ⟨hW, hcap, C.toList, fz, by simpa using hheap, by simpa using hsize, hz, by simpa using hfz, by simpa using hle, hRL⟩
theorem RL.flat_move {W' : World} {ρ' : Names} (n : Nat) : ∀ {l : List AV} {L : List Value}, RL ρ W l L → l.all (AV.flat n) = true → RL ρ' W' l L
  | _, _, .nil, _ => .nil
  | _, _, .cons h t, ha => by
    simp only [List.all_cons, Bool.and_eq_true] at ha
    exact .cons (h.flat_move n ha.1) (RL.flat_move n t ha.2)
/-- What a slice that a call has made is for its caller. -/
def RnOk (n0 : Nat) (w' : World) (n : Nat) (v : AV) (V : Value) : Prop :=
  (v.nus n = [] → ∀ (ρ : Names) (W : World) (nm : Nat), RV ρ W (v.rn nm n) V) ∧
  (∀ ob, v.nus n = [ob] → ∃ b cap, n0 ≤ b ∧ b < w'.heap.size ∧ (∀ (ρ : Names) (W : World), W.heap.size ≤ b → Holds ρ W w' b cap ob) ∧ ∀ (ρ : Names) (W : World) (nm : Nat), ρ nm = some (b, cap) → RV ρ W (v.rn nm n) V)
theorem rn_leaf {n0 : Nat} {w' : World} {n : Nat} {v : AV} {V : Value} (hv : RV noNames w' v V) (hf : v.flat n = true) (h1 : v.nus n = []) (h2 : ∀ nm, v.rn nm n = v) : RnOk n0 w' n v V :=
  ⟨fun _ ρ W nm => by rw [h2]; exact hv.flat_move n hf, fun ob h => by rw [h1] at h; cases h⟩
theorem rnl_ok {n0 : Nat} {w' : World} {n : Nat} (ih : ∀ {v : AV} {V : Value}, RV noNames w' v V → v.okN n = true → Fr n0 n v V → RnOk n0 w' n v V) : ∀ {l : List AV} {L : List Value}, RL noNames w' l L → l.all (AV.okN n) = true → (∀ (i : Nat) (v : AV) (V : Value), l[i]? = some v → L[i]? = some V → Fr n0 n v V) →
    (((l.map (AV.nus n)).flatten = [] → ∀ (ρ : Names) (W : World) (nm : Nat), RL ρ W (l.map (AV.rn nm n)) L) ∧
    (∀ ob, (l.map (AV.nus n)).flatten = [ob] → ∃ b cap, n0 ≤ b ∧ b < w'.heap.size ∧ (∀ (ρ : Names) (W : World), W.heap.size ≤ b → Holds ρ W w' b cap ob) ∧ ∀ (ρ : Names) (W : World) (nm : Nat), ρ nm = some (b, cap) → RL ρ W (l.map (AV.rn nm n)) L))
  | _, _, .nil, _, _ => ⟨fun _ _ _ _ => .nil, fun ob h => by simp at h⟩
  | _, _, .cons h t, ha, hF => by
    simp only [List.all_cons, Bool.and_eq_true] at ha
    obtain ⟨g1, g2⟩ := ih h ha.1 (hF 0 _ _ rfl rfl)
    obtain ⟨g3, g4⟩ := rnl_ok ih t ha.2 (fun i v V a b => hF (i + 1) v V (by simpa using a) (by simpa using b))
    constructor
    · intro e ρ W nm
      simp only [List.map_cons, List.flatten_cons, List.append_eq_nil_iff] at e
      exact .cons (g1 e.1 ρ W nm) (g3 e.2 ρ W nm)
    · intro ob e
      simp only [List.map_cons, List.flatten_cons] at e
      rcases List.append_eq_singleton_iff.1 e with ⟨e1, e2⟩ | ⟨e1, e2⟩
      · obtain ⟨b, cap, k1, k2, k3, k4⟩ := g4 ob e2
        exact ⟨b, cap, k1, k2, k3, fun ρ W nm hn => .cons (g1 e1 ρ W nm) (k4 ρ W nm hn)⟩
      · obtain ⟨b, cap, k1, k2, k3, k4⟩ := g2 ob e1
        exact ⟨b, cap, k1, k2, k3, fun ρ W nm hn => .cons (k4 ρ W nm hn) (g3 e2 ρ W nm)⟩
theorem nu_leaf {n0 : Nat} {w' : World} {n : Nat} {e s len : Nat} {l : List AV} {V : Value} (hv : RV noNames w' (.nu e s len l) V) (ho : (AV.nu e s len l).okN n = true) (hF : Fr n0 n (.nu e s len l) V) : RnOk n0 w' n (.nu e s len l) V := by
  have ho' : (l.all (AV.flat 4) && decide (l.length = len * s)) = true := by cases n <;> simpa [AV.okN] using ho
  simp only [Bool.and_eq_true, decide_eq_true_eq] at ho'
  cases hv with | nu e s len hb hc hl hW hs hlen h =>
  rename_i b cap L
  have hF' : n0 ≤ b := by cases n <;> simpa [Fr] using hF
  have hn : (AV.nu e s len l).nus n = [.own true e s l] := by cases n <;> rfl
  have hr : ∀ nm, (AV.nu e s len l).rn nm n = .gs nm s len := by intro nm; cases n <;> rfl
  refine ⟨fun e => by rw [hn] at e; simp at e, fun ob e => ?_⟩
  rw [hn] at e
  simp at e
  subst e
  have hml : len * s ≤ cap * s := Nat.mul_le_mul_right _ hl
  refine ⟨b, cap, hF', hb, fun ρ W hWb => ⟨hWb, hc, L, (0, 0), hW, hs, fun _ => rfl, fun x _ => by simp, by omega, h.flat_move 4 ho'.1⟩, fun ρ W nm hp => ?_⟩
  rw [hr]
  exact .gs _ _ hp hl
theorem rn_ok {n0 : Nat} {w' : World} : ∀ (n : Nat) {v : AV} {V : Value}, RV noNames w' v V → v.okN n = true → Fr n0 n v V → RnOk n0 w' n v V := by
  intro n
  induction n with
  | zero =>
    intro v V hv ho hF
    cases v
    case nu => exact nu_leaf hv ho hF
    all_goals exact rn_leaf hv ho rfl (fun _ => rfl)
  | succ n ih =>
    intro v V hv ho hF
    cases v
    case nu => exact nu_leaf hv ho hF
    case agg l =>
      cases hv with | agg hl =>
      rename_i L
      obtain ⟨g1, g2⟩ := rnl_ok ih hl ho (fun i v V a b => hF i v V a (by simpa using b))
      refine ⟨fun e ρ W nm => .agg (g1 e ρ W nm), fun ob e => ?_⟩
      obtain ⟨b, cap, k1, k2, k3, k4⟩ := g2 ob e
      exact ⟨b, cap, k1, k2, k3, fun ρ W nm hn => .agg (k4 ρ W nm hn)⟩
    case tup l =>
      cases hv with | tup hl =>
      rename_i L
      obtain ⟨g1, g2⟩ := rnl_ok ih hl ho (fun i v V a b => hF i v V a (by simpa using b))
      refine ⟨fun e ρ W nm => .tup (g1 e ρ W nm), fun ob e => ?_⟩
      obtain ⟨b, cap, k1, k2, k3, k4⟩ := g2 ob e
      exact ⟨b, cap, k1, k2, k3, fun ρ W nm hn => .tup (k4 ρ W nm hn)⟩
    all_goals exact rn_leaf hv ho rfl (fun _ => rfl)
/-- A contract's result, for its caller. -/
theorem resOut_ok (hR : Rel ρ W h w) {nm : Nat} (hnm : Fresh h nm) {p : Bool} {u v : AV} {f : Eff} (hq : resOut nm p u = some (true, v, f)) {V : Value} {w' : World} (hV : RV noNames w' u V) (hB : Below w.heap.size w w') (hF : Fr w.heap.size 4 u V) :
    p = true ∧ ∃ ρ', Ext ρ ρ' ∧ RV ρ' W v V ∧ Rel ρ' W (effH h nm f) w' := by
  unfold resOut at hq
  split at hq
  · rename_i hfl
    simp at hq
    obtain ⟨rfl, rfl, rfl⟩ := hq
    exact ⟨rfl, ρ, Ext.refl ρ, hV.flat_move 4 hfl, hR.below hB⟩
  split at hq
  case isFalse => cases hq
  rename_i hok
  split at hq
  case h_2 => cases hq
  rename_i ob hob
  simp at hq
  obtain ⟨rfl, rfl, rfl⟩ := hq
  obtain ⟨b, cap, k1, k2, k3, k4⟩ := (rn_ok 4 hV hok hF).2 ob hob
  obtain ⟨g1, g2, g3⟩ := makeF_ok hR hnm (w' := w') ⟨hB.os, hB.tape, hB.output, hB.size, fun k hk _ => hB.block k hk⟩ k1 k2 (k3 (ρ.with nm b cap) W (Nat.le_trans hR.bel.size k1))
  exact ⟨rfl, _, g1, k4 _ W nm g3, g2⟩
end Go.Proofs.Ytlpnbbonbclddaa.A

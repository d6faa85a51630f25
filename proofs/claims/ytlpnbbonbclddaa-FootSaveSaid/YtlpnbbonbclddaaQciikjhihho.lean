/- The abstract machine: one operation, whatever it is, in the model: what holds behind it abstractly holds behind it there. -/
import Derived.Test.YtlpnbbonbclddaaQpbgjppaijd
namespace Go.Proofs.Ytlpnbbonbclddaa.A
open Go Go.RowKit
set_option linter.unusedVariables false
set_option linter.unusedSimpArgs false
variable {P : Program} {ρ : Names} {W w : World} {h : Heap}
theorem foldl_set (off : Nat) : ∀ (l : List Value) (k : Nat) (cs : Array Value), ((l.zipIdx k).foldl (fun cs (c, j) => cs.setIfInBounds (off + j) c) cs).toList = setAtV cs.toList (off + k) l
  | [], k, cs => by simp [setAtV_nil]
  | v :: l, k, cs => by
    simp only [List.zipIdx_cons, List.foldl_cons]
    rw [foldl_set off l (k + 1), setAtV_cons]
    simp [Nat.add_assoc]
theorem fill_ok (place : Nat → Option (Nat × Nat)) : ∀ {l : List (Nat × AV)} {L : List (Nat × Value)}, RP ρ W l L → ∀ {cs : List AV} {Cs : List Value}, RL ρ W cs Cs → ∀ (r : List AV), fillA place cs l = some r → ∃ R, Instr.fill place Cs.toArray L = some (List.toArray R) ∧ RL ρ W r R
  | _, _, .nil, cs, Cs, hc, r, hq => by simp [fillA] at hq; subst hq; exact ⟨Cs, by simp [Instr.fill], hc⟩
  | _, _, .cons (i := i) (v := v) (V := V) hv t, cs, Cs, hc, r, hq => by
    simp only [fillA] at hq
    simp only [Instr.fill]
    split at hq
    · cases hq
    · rename_i off size hp
      split at hq
      · rename_i hcond
        have e1 := hv.cells.length
        have e2 := hc.length
        have e3 : V.cells.toList.length = V.cells.size := by simp
        simp only [hp]
        rw [if_neg (by simp; omega)]
        have hset := RL.setAt hv.cells off hc
        have hfold : (V.cells.zipIdx.foldl (fun cs (c, j) => cs.setIfInBounds (off + j) c) Cs.toArray) = (setAtV Cs off V.cells.toList).toArray := by
          apply Array.ext'
          have := foldl_set off V.cells.toList 0 Cs.toArray
          simp only [Nat.add_zero] at this
          rw [← this]
          rw [← Array.foldl_toList, Array.toList_zipIdx]
        rw [hfold]
        exact fill_ok place t hset r hq
      · cases hq
theorem run_mapM_list {α β : Type} (f : α → Sem β) (g : α → Option β) (hf : ∀ a b, g a = some b → ∀ w, (f a).run P w = .ok b w) : ∀ (l : List α) (r : List β), l.mapM g = some r → ∀ w, (l.mapM f).run P w = .ok r w
  | [], r, hq, w => by simp at hq; subst hq; simp
  | a :: l, r, hq, w => by
    obtain ⟨b, bs, h1, h2, rfl⟩ := mapM_cons_some hq
    simp [List.mapM_cons, hf a b h1 w, run_mapM_list f g hf l bs h2 w]
theorem placesOf_mapM : ∀ (fs : List Field) (r : List (Nat × Nat)), placesOf P fs = some r → fs.mapM (fun f => (sizeT P f.type).map fun n => (f.offset, n)) = some r
  | [], r, hq => by simp [placesOf] at hq; subst hq; simp
  | f :: fs, r, hq => by
    simp only [placesOf] at hq
    split at hq
    · rename_i n rs h1 h2
      simp at hq; subst hq
      simp [List.mapM_cons, h1, placesOf_mapM fs rs h2]
    · cases hq
theorem build_ok {t : TypeId} {l : List (Nat × AV)} {L : List (Nat × Value)} {v : AV} (hl : RP ρ W l L) (hq : buildA P t l = some v) (w : World) : ∃ V, (Instr.build t L.toArray).run P w = .ok V w ∧ RV ρ W v V := by
  unfold buildA at hq
  split at hq
  · rename_i z fs hz hu
    obtain ⟨Z, g1, g2⟩ := run_zero hz ρ W w
    split at hq
    · rename_i pl hpl
      simp only [Option.map_eq_some_iff] at hq
      obtain ⟨r, hr, rfl⟩ := hq
      obtain ⟨R, f1, f2⟩ := fill_ok _ hl g2.cells r hr
      refine ⟨.agg R.toArray, ?_, .agg f2⟩
      have hm : ((fs.mapM fun f => do pure (f.offset, ← sizeOf f.type)) : Sem (Array (Nat × Nat))).run P w = .ok pl.toArray w := by
        rw [Array.mapM_eq_mapM_toList]
        have := run_mapM_list (P := P) (fun f : Field => (do pure (f.offset, ← sizeOf f.type) : Sem (Nat × Nat))) (fun f => (sizeT P f.type).map fun n => (f.offset, n))
          (fun f b hb w => by
            simp only [Option.map_eq_some_iff] at hb
            obtain ⟨n, hn, rfl⟩ := hb
            simp [run_size hn]) fs.toList pl (placesOf_mapM _ _ hpl) w
        rw [Sem.run_map, this]
        rfl
      simp only [Instr.build, Sem.run_bind, g1, Result.andThen_ok, run_underlying hu, hm]
      have e1 : (fun (x : Nat) => (pl.toArray)[x]?) = fun (i : Nat) => pl[i]? := by funext i; simp
      have e2 : Z.cells = Z.cells.toList.toArray := by simp
      rw [e1, e2, f1]
      rfl
    · cases hq
  · rename_i z n e hz hu
    obtain ⟨Z, g1, g2⟩ := run_zero hz ρ W w
    split at hq
    · rename_i k hk
      simp only [Option.map_eq_some_iff] at hq
      obtain ⟨r, hr, rfl⟩ := hq
      obtain ⟨R, f1, f2⟩ := fill_ok _ hl g2.cells r hr
      refine ⟨.agg R.toArray, ?_, .agg f2⟩
      simp only [Instr.build, Sem.run_bind, g1, Result.andThen_ok, run_underlying hu, run_size hk]
      have e2 : Z.cells = Z.cells.toList.toArray := by simp
      rw [e2, f1]
      rfl
    · cases hq
  · cases hq
/-- A call comes to an end, with a value and a world. -/
def Gives (P : Program) (g : FuncId) (A : Array Value) (w : World) (R : Value → World → Prop) : Prop :=
  ((callFunc g A).run P w = .ok (.enter g A) w ∧ Calls P g A w fun e w' => ∃ V, e = .returned V ∧ R V w') ∨ ∃ V, (callFunc g A).run P w = .ok (.value V) w ∧ R V w
/-- The slices that a call has made lie beyond what was there. -/
def Fr (n0 : Nat) : Nat → AV → Value → Prop
  | _, .nu .., .slice (some a) _ _ => n0 ≤ a.block
  | n + 1, .agg l, .agg L => ∀ (i : Nat) (v : AV) (V : Value), l[i]? = some v → L[i]? = some V → Fr n0 n v V
  | n + 1, .tup l, .tuple L => ∀ (i : Nat) (v : AV) (V : Value), l[i]? = some v → L[i]? = some V → Fr n0 n v V
  | _, _, _ => True
theorem Fr.flat {n0 : Nat} : ∀ (n : Nat) {v : AV} {V : Value}, v.flat n = true → Fr n0 n v V := by
  intro n
  induction n with
  | zero => intro v V h; cases v <;> simp [AV.flat] at h <;> simp [Fr]
  | succ n ih =>
    intro v V h
    cases v <;> simp only [AV.flat, Bool.false_eq_true] at h <;> try (simp only [Fr]; done)
    case agg l =>
      cases V <;> simp only [Fr]
      intro i v V hv hV
      exact ih (List.all_eq_true.1 h v (List.mem_of_getElem? hv))
    case tup l =>
      cases V <;> simp only [Fr]
      intro i v V hv hV
      exact ih (List.all_eq_true.1 h v (List.mem_of_getElem? hv))
def COk (P : Program) (g : FuncId) (con : Con) : Prop :=
  ∀ args p v, con args = some (p, v) → p = true → ∀ (w : World) (A : List Value), RL noNames w args A → Gives P g A.toArray w fun V w' => (RV noNames w' v V ∧ Below w.heap.size w w') ∧ Fr w.heap.size 4 v V
def TabOk (P : Program) (T : Tab) : Prop := ∀ g con, T g = some con → COk P g con
theorem RV.flat_move {W' : World} {ρ' : Names} : ∀ (n : Nat) {v : AV} {V : Value}, RV ρ W v V → v.flat n = true → RV ρ' W' v V := by
  intro n
  induction n with
  | zero =>
    intro v V hv hf
    cases hv <;> simp [AV.flat] at hf <;> constructor
  | succ n ih =>
    have hL : ∀ {l : List AV} {L : List Value}, RL ρ W l L → l.all (AV.flat n) = true → RL ρ' W' l L := by
      intro l
      induction l with
      | nil => intro L hl _; cases hl; exact .nil
      | cons a l ih2 =>
        intro L hl hf
        cases hl with | cons h1 h2 =>
        simp only [List.all_cons, Bool.and_eq_true] at hf
        exact .cons (ih h1 hf.1) (ih2 h2 hf.2)
    intro v V hv hf
    cases hv <;> simp only [AV.flat, Bool.false_eq_true] at hf
    case agg h => exact .agg (hL h hf)
    case tup h => exact .tup (hL h hf)
    case ifc h => exact .ifc _ (ih h hf)
    all_goals constructor
theorem frz_ok (hR : Rel ρ W h w) {rd : Nat → Option Ob} (hrd : ∀ n x, rd n = some x → h[n]? = some (some x)) : ∀ (n : Nat) {v v' : AV} {V : Value}, RV ρ W v V → frz rd n v = some v' → RV noNames w v' V := by
  have hk := Keeps.of_below hR.bel
  intro n
  induction n with
  | zero =>
    intro v v' V hv hq
    cases hv <;> simp [frz] at hq
    case cp b o l L j hb hl hc => subst hq; exact (RV.cp (ρ := noNames) j hb hl hc).move (Ext.refl _) hk
    case csl b o s len cap c V hl hb hc hr => subst hq; exact (RV.csl (ρ := noNames) s len cap c V hb hl hc hr).move (Ext.refl _) hk
    all_goals (subst hq; constructor)
  | succ n ih =>
    have hL : ∀ {l l' : List AV} {L : List Value}, RL ρ W l L → l.mapM (frz rd n) = some l' → RL noNames w l' L := by
      intro l
      induction l with
      | nil => intro l' L hl hq; cases hl; simp at hq; subst hq; exact .nil
      | cons a l ih2 =>
        intro l' L hl hq
        cases hl with | cons h1 h2 =>
        obtain ⟨b, bs, g1, g2, rfl⟩ := mapM_cons_some hq
        exact .cons (ih h1 g1) (ih2 h2 g2)
    intro v v' V hv hq
    cases hv <;> simp only [frz] at hq
    case ptr m b o i s j hp =>
      split at hq
      · rename_i l hl
        simp only [Option.map_eq_some_iff] at hq
        obtain ⟨l', g1, rfl⟩ := hq
        obtain ⟨b', o', e1, e2⟩ := hR.ob m _ (hrd _ _ hl)
        rw [hp] at e1; cases e1
        obtain ⟨_, h3, L, tt, h4, h5⟩ := e2
        subst h3
        refine .cp _ (hR.dom m _ hp).2 (hL h5 g1) fun x v hv => ?_
        simp [World.cell?, h4, hv]
      · cases hq
    case sl m b o i s len cap off hl ho hp =>
      split at hq
      · rename_i s' len' c hr
        split at hq
        · rename_i hcond
          obtain ⟨rfl, hlen⟩ := hcond
          simp at hq; subst hq
          obtain ⟨b', o', e1, e2⟩ := hR.ob m _ (hrd _ _ hr)
          rw [hp] at e1; cases e1
          obtain ⟨Vf, h3, h4⟩ := e2
          by_cases h0 : len = 0
          · subst h0
            exact .csl s 0 cap _ Vf (hR.dom m _ hp).2 hl (fun i j hi => by omega) (fun i j hi => by omega)
          · have hoff : off = o + i * s := by rcases ho with ho | ho; omega; exact ho
            subst hoff
            refine .csl s len cap _ (fun a b => Vf (i + a) b) (hR.dom m _ hp).2 hl (fun a j ha hj => ?_) (fun a j ha hj => ?_)
            · have := h3 (i + a) j (by omega) hj
              rw [show o + i * s + (a * s + j) = o + ((i + a) * s + j) by rw [Nat.add_mul]; omega]; exact this
            · exact (h4 (i + a) j (by omega) hj).move (Ext.refl _) hk
        · cases hq
      · cases hq
    case gs m b cap s len hle hp =>
      split at hq
      · rename_i z e s' l hl
        split at hq
        · rename_i hcond
          obtain ⟨rfl, hlen⟩ := hcond
          simp only [Option.map_eq_some_iff] at hq
          obtain ⟨l', g1, rfl⟩ := hq
          obtain ⟨b', o', e1, e2⟩ := hR.ob m _ (hrd _ _ hl)
          rw [hp] at e1; cases e1
          obtain ⟨_, _, L, fz, h4, h5, _, _, h6, h7⟩ := e2
          have hLL := hL h7 g1
          have hll := hLL.length
          have htl : (L.take l.length).length = l.length := by rw [List.length_take]; omega
          have inn : ∀ i j, i < len → j < s → i * s + j < len * s := fun i j hi hj => by
            have : (i + 1) * s ≤ len * s := Nat.mul_le_mul_right s hi
            rw [Nat.add_mul] at this
            omega
          refine .csl s len cap _ (fun a b => (L.take l.length).getD (a * s + b) undef) (hR.dom m _ hp).2 hle (fun i j hi hj => ?_) (fun i j hi hj => ?_)
          · have hlt := inn i j hi hj
            have hlt2 : i * s + j < L.length := by omega
            have : (L.take l.length)[i * s + j]? = some L[i * s + j] := by rw [List.getElem?_take, if_pos (by omega)]; simp [hlt2]
            simp only [Nat.zero_add, List.getD, this, Option.getD_some]
            simp [World.cell?, h4, hlt2]
          · have hlt := inn i j hi hj
            obtain ⟨x, hx⟩ : ∃ x, l'[i * s + j]? = some x := ⟨l'[i * s + j]'(by omega), by simp⟩
            obtain ⟨V, g2, g3⟩ := hLL.get _ _ hx
            simp only [List.getD, hx, g2, Option.getD_some]
            exact g3
        · cases hq
      · cases hq
    case gp m b cap i s j hp =>
      split at hq
      · rename_i z e s' l hl
        simp only [Option.map_eq_some_iff] at hq
        obtain ⟨l', g1, rfl⟩ := hq
        obtain ⟨b', o', e1, e2⟩ := hR.ob m _ (hrd _ _ hl)
        rw [hp] at e1; cases e1
        obtain ⟨_, _, L, fz, h4, h5, _, _, h6, h7⟩ := e2
        have := RV.cp (ρ := noNames) (W := w) (b := b) (o := 0) (i * s + j) (hR.dom m _ hp).2 (hL h7 g1) fun x v hv => by
          rw [List.getElem?_take] at hv
          split at hv
          · simp [World.cell?, h4, hv]
          · cases hv
        rwa [Nat.zero_add] at this
      · cases hq
    case mp => cases hq
    case nu => cases hq
    case yl => cases hq
    case cp b o l L j hb hl hc => simp at hq; subst hq; exact (RV.cp (ρ := noNames) j hb hl hc).move (Ext.refl _) hk
    case csl b o s len cap c V hl hb hc hr => simp at hq; subst hq; exact (RV.csl (ρ := noNames) s len cap c V hb hl hc hr).move (Ext.refl _) hk
    case agg h =>
      simp only [Option.map_eq_some_iff] at hq
      obtain ⟨l', g1, rfl⟩ := hq
      exact .agg (hL h g1)
    case fn f a b A B ha hb =>
      split at hq
      · rename_i a' b' g1 g2
        simp at hq; subst hq
        exact .fn f (hL ha g1) (hL hb g2)
      · cases hq
    case ifc t v V h =>
      simp only [Option.map_eq_some_iff] at hq
      obtain ⟨l', g1, rfl⟩ := hq
      exact .ifc t (ih h g1)
    case undef => cases hq
    case tup => cases hq
    all_goals (simp at hq; subst hq; constructor)
end Go.Proofs.Ytlpnbbonbclddaa.A

/- The abstract machine: opv_ok: whatever an operation gives abstractly, the model's operation gives. -/
import Derived.MapKept
import Derived.Test.YtlpnbbonbclddaaQaeldnbacie
namespace Go.Proofs.Ytlpnbbonbclddaa.A
open Go Go.RowKit
set_option linter.unusedVariables false
set_option linter.unusedSimpArgs false
variable {P : Program} {ρ : Names} {W w : World} {h : Heap}
theorem wp_value {o : Oper} {a : Act} {w' : World} {K : Act → World → Prop} {Q : Exit → Act → World → Prop} {V : Value} (hr : (execOp a.eval o).run P w = .ok (.value V) w') (hK : K (a.put o.dst V) w') : o.wp P a w K Q := by
  unfold Oper.wp; rw [hr]; exact hK
theorem wp_skipped {o : Oper} {a : Act} {w' : World} {K : Act → World → Prop} {Q : Exit → Act → World → Prop} (hr : (execOp a.eval o).run P w = .ok .skip w') (hK : K (a.put o.dst undef) w') : o.wp P a w K Q := by
  unfold Oper.wp; rw [hr]; exact hK
theorem wp_gives {o : Oper} {a : Act} {w : World} {K : Act → World → Prop} {Q : Exit → Act → World → Prop} {g : FuncId} {A : Array Value} {R : Value → World → Prop} (hg : Gives P g A w R)
    (hr : (execOp a.eval o).run P w = (callFunc g A).run P w) (hK : ∀ V w', R V w' → K (a.put o.dst V) w') : o.wp P a w K Q := by
  unfold Oper.wp; rw [hr]
  rcases hg with ⟨h1, h2⟩ | ⟨V, h1, h2⟩
  · rw [h1]
    refine h2.mono fun e w' he => ?_
    obtain ⟨V, rfl, hR⟩ := he
    exact hK V w' hR
  · rw [h1]; exact hK V w h2
theorem box_ok (hR : Rel ρ W h w) {nm : Nat} (hf : Fresh h nm) {t : TypeId} {v : AV} {V : Value} (hv : RV ρ W v V) :
    ∃ w', (Instr.box t V).run P w = .ok (.pointer (some ⟨w.heap.size, 0, none⟩)) w' ∧ Rel (ρ.with nm w.heap.size 0) W (effH h nm (.alloc (.cells v.cells))) w' ∧ RV (ρ.with nm w.heap.size 0) W (.ptr nm 0 0 0) (.pointer (some ⟨w.heap.size, 0, none⟩)) := by
  have hnew := hR.alloc hf hv.cells t
  refine ⟨_, ?_, hnew, ?_⟩
  · simp only [Instr.box, newVar, newRow, Sem.run_bind, run_newObj, Result.andThen_ok, Sem.run_pure]
    rfl
  · have : (ρ.with nm w.heap.size 0) nm = some (w.heap.size, 0) := by simp [Names.with]
    simpa using RV.ptr (ρ := ρ.with nm w.heap.size 0) (W := W) 0 0 0 this
theorem methA_ok {t : TypeId} {name : String} {f : FuncId} (h : methA P t name = some f) (n : Nat) (V : Value) (w : World) : (method (n + 1) t V name).run P w = .ok (f, V) w := by
  unfold methA at h
  split at h
  case h_2 => cases h
  rename_i ti hti
  split at h
  case h_2 => cases h
  rename_i m hm
  have hm' : ti.methods.find? (fun m => m.name == name) = some m := by rw [← Array.find?_toList]; exact hm
  split at h
  · cases h
  · rename_i g d hneg hp hf hnp
    simp at h
    subst h
    have hrt : (typeInfo t).run P w = .ok ti w := by simp [typeInfo, hti]
    have hru : (underlying t).run P w = .ok d w := by simp [underlying, hnp]
    unfold method
    simp only [Sem.run_bind, hrt, Result.andThen_ok, hm', hp, follow, Sem.run_pure, hf, receiverAt, hru]
    cases d with
    | pointer e => exact (hneg e rfl).elim
    | _ => rfl
  · cases h
theorem target_ok {e : Operand → Option AV} {a : Act} (he : ∀ x v, e x = some v → RV ρ W v (a.eval x)) {c : Call} {g : FuncId} {args : List AV} (hq : targetA P e c = some (g, args)) (ty : TypeId) :
    ∃ A, RL ρ W args A ∧ ∀ w, ((do let d ← resolve a.eval c ty; invoke d.target d.args) : Sem Next).run P w = (callFunc g A.toArray).run P w := by
  have e0 : c.args.map a.eval = (c.args.toList.map a.eval).toArray := by apply Array.ext'; simp
  unfold targetA at hq
  split at hq
  case h_3 => cases hq
  · rename_i r name hc
    split at hq
    case h_2 => cases hq
    rename_i t v args' h1 h2
    split at hq
    case h_2 => cases hq
    rename_i g' hg
    simp at hq
    obtain ⟨rfl, rfl⟩ := hq
    have hfv := he _ _ h1
    generalize hF : a.eval r = F at hfv
    cases hfv with | ifc t hv =>
    rename_i V
    have has := evAll_ok he _ _ h2
    refine ⟨V :: c.args.toList.map a.eval, .cons hv has, fun w => ?_⟩
    have hd : Made.depth = 99 + 1 := rfl
    simp only [resolve, hc, Sem.run_bind, Sem.run_pure, Result.andThen_ok, invoke, hF, e0]
    simp [callMethod, run_program, hd, ← Nat.add_assoc, methA_ok hg]
    rw [List.take_of_length_le (by simp)]
  rename_i f hc
  split at hq
  case h_2 => cases hq
  rename_i g' first cap zs h1 h2
  simp at hq
  obtain ⟨rfl, rfl⟩ := hq
  have hfv := he _ _ h1
  generalize hF : a.eval f = F at hfv
  cases hfv with | fn f' ha hb =>
  rename_i A B
  have has := evAll_ok he _ _ h2
  refine ⟨A ++ (c.args.toList.map a.eval ++ B), ha.append (has.append hb), fun w => ?_⟩
  simp only [resolve, hc, Sem.run_bind, hF, Deferred.ofValue, Sem.run_pure, Result.andThen_ok, invoke]
  congr 2
  rw [e0]
  simp
theorem keyEq_ok {kt : TypeId} {k k' : AV} {K K' : Value} {b : Bool} (hk : RV ρ W k K) (hk' : RV ρ W k' K') (ho : keyOk P kt k = true) (hq : keyEq k k' = some b) : ∃ d, P.underlying kt = some d ∧ Instr.sameNow d K K' = some b := by
  unfold keyOk at ho
  unfold keyEq at hq
  split at hq
  · split at hq
    · rename_i hkk; subst hkk
      cases hk; cases hk'
      split at ho
      · rename_i hu he
        exact ⟨_, hu, by simp [Instr.sameNow]; simpa using hq⟩
      · rename_i he; cases he
      · cases ho
    · cases hq
  · cases hk; cases hk'
    split at ho
    · rename_i he; cases he
    · rename_i hu he
      exact ⟨_, hu, by simpa [Instr.sameNow] using hq⟩
    · cases ho
  · cases hq
theorem findA_ok {kt : TypeId} {k : AV} {K : Value} (hk : RV ρ W k K) (ho : keyOk P kt k = true) {d : TypeDesc} (hd : P.underlying kt = some d) : ∀ {l : List (AV × AV)} {L : List MapEntry}, RE ρ W l L → ∀ (i : Nat) (r : Option (Nat × AV)), findA k l i = some r →
    ∃ R, Instr.findNow d K L i = some R ∧ (match r, R with
      | none, none => True
      | some (j, v), some (j', V) => j = j' ∧ i ≤ j ∧ (∃ e, L[j - i]? = some e ∧ e.val = V ∧ ∃ k' , RV ρ W k' e.key ∧ keyEq k k' = some true) ∧ RV ρ W v V
      | _, _ => False)
  | _, _, .nil, i, r, hq => by simp [findA] at hq; subst hq; exact ⟨none, rfl, trivial⟩
  | _, _, .cons (k := k') (v := v) (e := e) hk' hv t, i, r, hq => by
    simp only [findA] at hq
    split at hq
    · rename_i hb
      simp at hq; subst hq
      obtain ⟨d', g1, g2⟩ := keyEq_ok hk hk' ho hb
      rw [hd] at g1; cases g1
      exact ⟨some (i, e.val), by simp only [Instr.findNow, g2], rfl, Nat.le_refl _, ⟨e, by simp, rfl, k', hk', hb⟩, hv⟩
    · rename_i hb
      obtain ⟨d', g1, g2⟩ := keyEq_ok hk hk' ho hb
      rw [hd] at g1; cases g1
      obtain ⟨R, g3, g4⟩ := findA_ok hk ho hd t (i + 1) r hq
      refine ⟨R, by simp only [Instr.findNow, g2]; exact g3, ?_⟩
      cases r with
      | none => cases R <;> simp_all
      | some p =>
        obtain ⟨j, u⟩ := p
        cases R with
        | none => simp at g4
        | some q =>
          obtain ⟨j', V⟩ := q
          obtain ⟨h1, h2, ⟨e', h3, h4⟩, h5⟩ := g4
          refine ⟨h1, by omega, ⟨e', ?_, h4⟩, h5⟩
          rw [show j - i = (j - (i + 1)) + 1 by omega]
          simpa using h3
    · cases hq
theorem checkKey_ok {kt : TypeId} {k : AV} {K : Value} (ho : keyOk P kt k = true) (hk : RV ρ W k K) (em : Bool) (n : Nat) (w : World) : (Instr.checkKey em (n + 1) kt K).run P w = .ok () w := by
  unfold keyOk at ho
  split at ho
  · rename_i hu; cases hk; simp [Instr.checkKey, run_underlying hu]
  · rename_i hu; cases hk; simp [Instr.checkKey, run_underlying hu]
  · cases ho
theorem keyOk_some {kt : TypeId} {k : AV} (ho : keyOk P kt k = true) : ∃ d, P.underlying kt = some d := by
  unfold keyOk at ho
  split at ho
  · exact ⟨_, by assumption⟩
  · exact ⟨_, by assumption⟩
  · cases ho
theorem lookA_ok (hR : Rel ρ W h w) {rd : Nat → Option Ob} (hrd' : ∀ n x, rd n = some x → h[n]? = some (some x)) {t : TypeId} {xx kk : AV} {X Kv : Value} {ok : Bool} {v : AV} (hxx : RV ρ W xx X) (hkk : RV ρ W kk Kv) (hq : lookA P rd t xx kk ok = some v) : ∃ V, (Instr.lookup t X Kv ok).run P w = .ok V w ∧ RV ρ W v V := by
  unfold lookA at hq
  split at hq
  case h_2 => cases hq
  rename_i kt el n hu
  split at hq
  case h_2 => cases hq
  rename_i l c z ho hrd hz
  cases hxx with | mp hp =>
  rename_i b o'
  have hm0 := hrd' _ _ hrd
  obtain ⟨b', o2, e1, e2⟩ := hR.ob n _ hm0
  rw [hp] at e1; cases e1
  obtain ⟨hW0, L, h4, h5⟩ := e2
  obtain ⟨d, hd⟩ := keyOk_some ho
  obtain ⟨Z, hZ, rZ⟩ := run_zero hz ρ W w
  have hget : (getObj b).run P w = .ok (.map L.toArray c) w := by simp [getObj, Sem.run, h4]
  have fin : ∀ (r : Option (Nat × AV)), findA kk l 0 = some r → ∀ u, (match r with | some (_, v) => u = (if ok then AV.tup [v, .bool true] else v) | none => u = (if ok then AV.tup [z, .bool false] else z)) → ∃ V, (Instr.lookup t (.map (some b)) Kv ok).run P w = .ok V w ∧ RV ρ W u V := by
    intro r hr u hu2
    obtain ⟨R, g1, g2⟩ := findA_ok hkk ho hd h5 0 r hr
    have hfk : (Instr.findKey kt Kv L).run P w = .ok R w := by simp [Instr.findKey, run_underlying hd, g1]
    have hck' : (Instr.checkKey L.isEmpty 10000 kt Kv).run P w = .ok () w := checkKey_ok ho hkk L.isEmpty 9999 w
    cases r with
    | none =>
      cases R with
      | none =>
        refine ⟨if ok then .tuple #[Z, .bool false] else Z, ?_, ?_⟩
        · cases ok <;> simp [Instr.lookup, run_underlying hu, hget, hck', hfk, hZ]
        · cases ok <;> simp only [Bool.false_eq_true, if_false, if_true] at hu2 ⊢ <;> subst hu2
          · exact rZ
          · exact .tup (.cons rZ (.cons (.bool _) .nil))
      | some q => obtain ⟨_, _⟩ := q; exact g2.elim
    | some p =>
      obtain ⟨j, u2⟩ := p
      cases R with
      | none => exact g2.elim
      | some q =>
        obtain ⟨j', V2⟩ := q
        refine ⟨if ok then .tuple #[V2, .bool true] else V2, ?_, ?_⟩
        · cases ok <;> simp [Instr.lookup, run_underlying hu, hget, hck', hfk]
        · have rv := g2.2.2.2
          cases ok <;> simp only [Bool.false_eq_true, if_false, if_true] at hu2 ⊢ <;> subst hu2
          · exact rv
          · exact .tup (.cons rv (.cons (.bool _) .nil))
  split at hq
  · rename_i i u hf
    simp at hq
    exact hq ▸ fin _ hf _ rfl
  · rename_i hf
    simp at hq
    exact hq ▸ fin _ hf _ rfl
  · cases hq
theorem opv_ok {T : Tab} (hT : TabOk P T) (hR : Rel ρ W h w) {rd : Nat → Option Ob} {nm : Nat} (hrd : ∀ n x, rd n = some x → h[n]? = some (some x)) (hnm : Fresh h nm) {e : Operand → Option AV} {a : Act}
    (he : ∀ x v, e x = some v → RV ρ W v (a.eval x)) {o : Oper} {v : AV} {f : Eff} (hv : opv P T rd nm e o = some (true, v, f)) {K : Act → World → Prop} {Q : Exit → Act → World → Prop}
    (hK : ∀ ρ' w' V, Ext ρ ρ' → RV ρ' W v V → Rel ρ' W (effH h nm f) w' → K (a.put o.dst V) w') : o.wp P a w K Q := by
  have plain : ∀ {r : Option AV}, plainOut r = some (true, v, f) → r = some v ∧ f = .no := fun {r} hq => by
    cases r <;> simp [plainOut] at hq; exact ⟨by rw [hq.1], hq.2.symm⟩
  have cond : ∀ {r : Option (Bool × AV)}, condOut r = some (true, v, f) → r = some (true, v) ∧ f = .no := fun {r} hq => by
    cases r with
    | none => simp [condOut] at hq
    | some p => obtain ⟨p, q⟩ := p; simp [condOut] at hq; exact ⟨by rw [hq.1, hq.2.1], hq.2.2.symm⟩
  have done : ∀ {V : Value}, f = .no → RV ρ W v V → K (a.put o.dst V) w := fun hf hV => hK ρ w _ (Ext.refl ρ) hV (by rw [hf]; exact hR)
  have val : ∀ {s : Sem Value} {V : Value}, f = .no → execOp a.eval o = (do pure (.value (← s))) → s.run P w = .ok V w → RV ρ W v V → o.wp P a w K Q := fun {s V} hf h1 h2 h3 =>
    wp_value (w' := w) (V := V) (by rw [h1]; simp [h2]) (done hf h3)
  unfold opv at hv
  split at hv
  case h_1 x hop =>
    obtain ⟨h1, h2⟩ := plain hv
    exact wp_value (w' := w) (V := a.eval x) (by simp only [execOp, hop] <;> rfl) (done h2 (he _ _ h1))
  case h_2 x hop =>
    obtain ⟨h1, h2⟩ := plain hv
    exact wp_value (w' := w) (V := a.eval x) (by simp only [execOp, hop] <;> rfl) (done h2 (he _ _ h1))
  case h_3 c x y hop =>
    split at hv
    · rename_i q u u' h1 h2 h3
      simp [give] at hv
      obtain ⟨rfl, rfl⟩ := hv
      have hc := he _ _ h1
      generalize hC : a.eval c = C at hc
      cases hc
      refine wp_value (w' := w) (V := if q then a.eval x else a.eval y) (by simp only [execOp, hop, hC]; simp [asBool]) (done rfl (aite_ok (he _ _ h2) (he _ _ h3)))
    · cases hv
  case h_4 t hop =>
    split at hv
    · rename_i z hz
      unfold boxOut at hv
      split at hv
      · simp at hv
        obtain ⟨rfl, rfl⟩ := hv
        obtain ⟨V, g1, g2⟩ := run_zero hz ρ W w
        obtain ⟨w', g3, g4, g5⟩ := box_ok (P := P) hR hnm (t := t) g2
        refine wp_value (w' := w') ?_ (hK _ _ _ (Names.with_ext (hR.free_none hnm)) g5 g4)
        simp only [Instr.box, Sem.run_bind, Sem.run_pure] at g3
        simp only [execOp, hop, Instr.alloc, Sem.run_bind, g1, Result.andThen_ok, g3, Sem.run_pure]
      · cases hv
    · cases hv
  case h_5 t x hop =>
    split at hv
    · rename_i u hu
      unfold boxOut at hv
      split at hv
      · simp at hv
        obtain ⟨rfl, rfl⟩ := hv
        obtain ⟨w', g3, g4, g5⟩ := box_ok (P := P) hR hnm (t := t) (he _ _ hu)
        refine wp_value (w' := w') ?_ (hK _ _ _ (Names.with_ext (hR.free_none hnm)) g5 g4)
        simp only [execOp, hop, Sem.run_bind, g3, Result.andThen_ok, Sem.run_pure]
      · cases hv
    · cases hv
  case h_6 t ps hop =>
    split at hv
    · rename_i vs hvs
      obtain ⟨h1, h2⟩ := plain hv
      obtain ⟨V, g1, g2⟩ := build_ok (P := P) (evParts_ok he _ _ hvs) h1 w
      refine val h2 (by simp only [execOp, hop] <;> rfl) ?_ g2
      have : ps.map (fun (i, x) => (i, a.eval x)) = (ps.toList.map fun (i, x) => (i, a.eval x)).toArray := by apply Array.ext'; simp
      rw [this]; exact g1
    · cases hv
  case h_7 t x hop =>
    split at hv
    · rename_i u hu
      obtain ⟨h1, h2⟩ := cond hv
      obtain ⟨V, g1, g2⟩ := loadA_ok hR hrd (he _ _ hu) h1
      exact val h2 (by simp only [execOp, hop] <;> rfl) g1 g2
    · cases hv
  case h_8 t x y hop =>
    split at hv
    · rename_i u u' h1 h2
      simp only [Option.map_eq_some_iff] at hv
      obtain ⟨⟨n, ob⟩, hs, hv⟩ := hv
      simp at hv
      obtain ⟨rfl, rfl⟩ := hv
      obtain ⟨w', g1, g2⟩ := storeA_ok (P := P) hR hrd (he _ _ h1) (he _ _ h2) hs
      refine wp_skipped (w' := w') ?_ (hK ρ w' _ (Ext.refl ρ) .undef g2)
      simp only [execOp, hop, Sem.run_bind, g1, Result.andThen_ok, Sem.run_pure]
    · cases hv
  case h_9 x hop =>
    split at hv
    · rename_i n i s j hu
      simp [give] at hv; obtain ⟨rfl, rfl⟩ := hv
      have hx := he _ _ hu
      generalize hX : a.eval x = X at hx
      refine wp_value (w' := w) (V := X) ?_ (done rfl hx)
      cases hx; simp only [execOp, hop, hX]; rfl
    · rename_i l j hu
      simp [give] at hv; obtain ⟨rfl, rfl⟩ := hv
      have hx := he _ _ hu
      generalize hX : a.eval x = X at hx
      refine wp_value (w' := w) (V := X) ?_ (done rfl hx)
      cases hx; simp only [execOp, hop, hX]; rfl
    · rename_i n i s j hu
      simp [give] at hv; obtain ⟨rfl, rfl⟩ := hv
      have hx := he _ _ hu
      generalize hX : a.eval x = X at hx
      refine wp_value (w' := w) (V := X) ?_ (done rfl hx)
      cases hx; simp only [execOp, hop, hX]; rfl
    · rename_i g fa fb hu
      simp [give] at hv; obtain ⟨rfl, rfl⟩ := hv
      have hx := he _ _ hu
      generalize hX : a.eval x = X at hx
      refine wp_value (w' := w) (V := X) ?_ (done rfl hx)
      cases hx; simp only [execOp, hop, hX]; rfl
    · cases hv
  case h_10 op t x y yt hop =>
    split at hv
    · rename_i u u' h1 h2
      obtain ⟨g1, g2⟩ := cond hv
      obtain ⟨V, g3, g4⟩ := binX_ok (P := P) (ox := x) (oy := y) (he _ _ h1) (he _ _ h2) g1 w
      exact val g2 (by simp only [execOp, hop] <;> rfl) g3 g4
    · cases hv
  case h_11 op t x hop =>
    split at hv
    · rename_i u hu
      obtain ⟨g1, g2⟩ := plain hv
      obtain ⟨V, g3, g4⟩ := unA_ok (P := P) (he _ _ hu) g1 w
      exact val g2 (by simp only [execOp, hop] <;> rfl) g3 g4
    · cases hv
  case h_12 s d x hop =>
    split at hv
    · rename_i u hu
      obtain ⟨g1, g2⟩ := plain hv
      obtain ⟨V, g3, g4⟩ := convA_ok (P := P) (he _ _ hu) g1 w
      exact val g2 (by simp only [execOp, hop] <;> rfl) g3 g4
    · cases hv
  case h_13 t x hop =>
    split at hv
    · cases hv
    · rename_i d u hni hd hu
      simp [give] at hv; obtain ⟨rfl, rfl⟩ := hv
      refine val (V := .iface t (a.eval x)) rfl (by simp only [execOp, hop] <;> rfl) ?_ (.ifc t (he _ _ hu))
      simp only [Instr.makeInterface, Sem.run_bind, run_underlying hd, Result.andThen_ok]
      rfl
    · cases hv
  case h_14 g x y hop =>
    split at hv
    · rename_i u u' h1 h2
      simp [give] at hv; obtain ⟨rfl, rfl⟩ := hv
      refine val (V := .func g (x.toList.map a.eval).toArray (y.toList.map a.eval).toArray) rfl (by simp only [execOp, hop] <;> rfl) ?_ (.fn g (evAll_ok he _ _ h1) (evAll_ok he _ _ h2))
      have e1 : ∀ z : Array Operand, z.map a.eval = (z.toList.map a.eval).toArray := fun z => by apply Array.ext'; simp
      simp only [Instr.makeFunc, e1, Sem.run_pure]
    · cases hv
  case h_15 t x lo hi hop =>
    split at hv
    · rename_i u l k h1 h2 h3
      obtain ⟨g1, g2⟩ := cond hv
      have ev : ∀ (x : Option Operand) (l : Option AV), evOpt e x = some l → match l, x.map a.eval with | none, none => True | some v, some V => RV ρ W v V | _, _ => False := fun x l hq => by
        cases x with
        | none => simp [evOpt] at hq; subst hq; trivial
        | some x =>
          simp only [evOpt, Option.map_eq_some_iff] at hq
          obtain ⟨v, hv, rfl⟩ := hq
          exact he _ _ hv
      obtain ⟨V, g3, g4⟩ := sliceA_ok (P := P) (he _ _ h1) (ev _ _ h2) (ev _ _ h3) g1 w
      exact val g2 (by simp only [execOp, hop] <;> rfl) g3 g4
    · cases hv
  case h_16 t x g hop =>
    split at hv
    · rename_i u hu
      obtain ⟨g1, g2⟩ := plain hv
      obtain ⟨V, g3, g4⟩ := fieldAddrA_ok (P := P) (he _ _ hu) g1 w
      exact val g2 (by simp only [execOp, hop] <;> rfl) g3 g4
    · cases hv
  case h_17 t x g hop =>
    split at hv
    · rename_i l fd hu hfd
      obtain ⟨g1, g2⟩ := plain hv
      have hx := he _ _ hu
      generalize hX : a.eval x = X at hx
      cases hx with | agg hx =>
      obtain ⟨V, g3, g4⟩ := field_ok (P := P) hx hfd g1 w
      exact val g2 (by simp only [execOp, hop, hX] <;> rfl) g3 g4
    · cases hv
  case h_18 t x i hop =>
    split at hv
    · rename_i u u' h1 h2
      obtain ⟨g1, g2⟩ := cond hv
      obtain ⟨V, g3, g4⟩ := indexAddrA_ok (P := P) hR (he _ _ h1) (he _ _ h2) g1
      exact val g2 (by simp only [execOp, hop] <;> rfl) g3 g4
    · cases hv
  case h_19 t x i hop =>
    split at hv
    · rename_i u u' h1 h2
      obtain ⟨g1, g2⟩ := cond hv
      obtain ⟨V, g3, g4⟩ := indexA_ok (P := P) (he _ _ h1) (he _ _ h2) g1 w
      exact val g2 (by simp only [execOp, hop] <;> rfl) g3 g4
    · cases hv
  case h_20 x i hop =>
    split at hv
    · rename_i l hu
      obtain ⟨g1, g2⟩ := plain hv
      have hx := he _ _ hu
      generalize hX : a.eval x = X at hx
      cases hx with | tup hx =>
      obtain ⟨V, g3, g4⟩ := extract_ok (P := P) hx g1 w
      exact val g2 (by simp only [execOp, hop, hX] <;> rfl) g3 g4
    · cases hv
  case h_21 c hop =>
    split at hv
    · rename_i b hb
      split at hv
      case h_2 => cases hv
      rename_i args hargs
      obtain ⟨g1, g2⟩ := plain hv
      have hL := evAll_ok he _ _ hargs
      have hrun : ∀ {s : Sem Value} {V : Value}, builtin b c.argTypes o.type (c.args.map fun | .const _ => true | _ => false) (c.args.toList.map a.eval).toArray = (do pure (.value (← s))) → s.run P w = .ok V w → RV ρ W v V → o.wp P a w K Q := fun {s V} h1 h2 h3 => by
        refine wp_value (w' := w) (V := V) ?_ (done g2 h3)
        have e0 : c.args.map a.eval = (c.args.toList.map a.eval).toArray := by apply Array.ext'; simp
        simp only [execOp, hop, resolve, hb, Sem.run_bind, Sem.run_pure, Result.andThen_ok, invoke, e0]
        refine (congrArg (fun s => Sem.run P s w) h1).trans ?_
        simp only [Sem.run_bind, h2, Result.andThen_ok, Sem.run_pure]
      unfold builtinA at g1
      split at g1
      · rename_i x
        split at g1
        · rename_i t ht
          generalize c.args.toList.map a.eval = L at hL hrun
          cases hL with | cons hx hn =>
          cases hn
          obtain ⟨V, g3, g4⟩ := lenA_ok (P := P) (ty := o.type) ht hx g1 w
          exact hrun rfl g3 g4
        · cases g1
      · rename_i x r
        generalize c.args.toList.map a.eval = L at hL hrun
        cases hL with | cons hx hr =>
        obtain ⟨V, g3, g4⟩ := foldA_ok (P := P) (g := Builtin.max2) (fun x y v X Y hq hx hy w => max2A_ok x y v X Y hq hx hy w) _ _ _ _ _ hr hx g1 w
        exact hrun (s := Builtin.max_ c.argTypes o.type _) rfl (by simpa [Builtin.max_] using g3) g4
      · rename_i x r
        generalize c.args.toList.map a.eval = L at hL hrun
        cases hL with | cons hx hr =>
        obtain ⟨V, g3, g4⟩ := foldA_ok (P := P) (g := Builtin.min2) (fun x y v X Y hq hx hy w => min2A_ok x y v X Y hq hx hy w) _ _ _ _ _ hr hx g1 w
        exact hrun (s := Builtin.min_ c.argTypes o.type _) rfl (by simpa [Builtin.min_] using g3) g4
      · cases g1
    · rename_i hnb
      unfold callA at hv
      split at hv
      case h_2 => cases hv
      rename_i g args hta
      split at hv
      case h_2 => cases hv
      rename_i con hcon
      split at hv
      case h_2 => cases hv
      rename_i args' hfz
      split at hv
      case h_2 => cases hv
      rename_i p u hcv
      have hp : p = true := by
        unfold resOut at hv
        (repeat' split at hv) <;> simp at hv <;> exact hv.1
      subst hp
      obtain ⟨A, hA, hrunA⟩ := target_ok (P := P) he hta o.type
      have hfr : ∀ (l l' : List AV) (L : List Value), RL ρ W l L → frzAll rd l = some l' → RL noNames w l' L := by
        intro l
        induction l with
        | nil => intro l' L hl hq; cases hl; simp [frzAll] at hq; subst hq; exact .nil
        | cons x l ih =>
          intro l' L hl hq
          cases hl with | cons h1 h2 =>
          simp only [frzAll] at hq
          split at hq
          · rename_i x' r g1 g2
            simp at hq; subst hq
            exact .cons (frz_ok hR hrd 6 h1 g1) (ih _ _ h2 g2)
          · cases hq
      have hg := hT g con hcon args' true u hcv rfl w A (hfr _ _ _ hA hfz)
      refine wp_gives hg (by simp only [execOp, hop]; exact hrunA w) fun V w' hVw => ?_
      obtain ⟨_, ρ', q1, q2, q3⟩ := resOut_ok hR hnm hv hVw.1.1 hVw.1.2 hVw.2
      exact hK ρ' w' V q1 q2 q3
  case h_22 x xt t ok hop =>
    split at hv
    · rename_i u hu
      obtain ⟨g1, g2⟩ := plain hv
      obtain ⟨V, g3, g4⟩ := assertA_ok (P := P) (xt := xt) (he _ _ hu) g1 w
      exact val g2 (by simp only [execOp, hop] <;> rfl) g3 g4
    · cases hv
  case h_23 t len ps hop =>
    split at hv
    case h_2 => cases hv
    rename_i vs hvs
    unfold litOut at hv
    split at hv
    case h_2 => cases hv
    rename_i el hu
    split at hv
    case h_2 => cases hv
    rename_i n z hn hz
    split at hv
    case h_2 => cases hv
    rename_i l hl
    split at hv
    case isFalse => cases hv
    rename_i hc
    obtain ⟨c0, c1, c2, c3⟩ := hc
    simp at hv
    obtain ⟨rfl, rfl⟩ := hv
    obtain ⟨i, hi, rfl⟩ := info_of_size hn
    obtain ⟨Z, hZ, rZ⟩ := zero_of hz ρ W hi
    obtain ⟨R, hf, hRL⟩ := fill_ok (fun j => some (j * i.size, i.size)) (evParts_ok he _ _ hvs) (zeros_ok rZ (n := len) c2 c0) l hl
    have hll := fillA_length _ _ _ _ hl
    rw [flat_length, c2] at hll
    have hRl : R.length = len * i.size := by have := hRL.length; omega
    have hpos : 0 < len * i.size := Nat.mul_pos c1 c0
    have hlm : len ≤ len * i.size := Nat.le_mul_of_pos_right _ c0
    refine wp_buildSlice t el len ps hop R.toArray i Z hu hi hZ (by omega) (by omega) (by rw [Array.toList_map]; rw [Array.toArray_toList] at hf; exact hf) ?_
    obtain ⟨k1, k2, k3⟩ := makeF_ok hR hnm (w' := w.alloc (.cells R.toArray el)) (World.grownBy_alloc w _ none) (x := .own true el i.size l) (b := w.heap.size) (o := len) (Nat.le_refl _) (by simp)
      (holds_own hR.bel.size (by unfold maxLen; omega) (heap_alloc_new w _) (by simpa using hRl) (fun _ => rfl) (fun x _ => by simp) (by simp; omega) (by simp only []; rw [List.take_of_length_le (by omega)]; exact hRL.ext (Names.with_ext (hR.free_none hnm))))
    exact hK _ _ _ k1 (.gs _ _ k3 (Nat.le_refl _)) k2
  case h_24 t l c hop =>
    split at hv
    case h_2 => cases hv
    rename_i x y hl hc
    unfold makeOut at hv
    split at hv
    case h_2 => cases hv
    rename_i el kl n kc m hu
    split at hv
    case h_2 => cases hv
    rename_i i z hi hz
    split at hv
    case isFalse => cases hv
    rename_i hcc
    obtain ⟨rfl, c0, c2, c3, c4⟩ := hcc
    simp at hv
    obtain ⟨rfl, rfl⟩ := hv
    obtain ⟨Z, hZ, rZ⟩ := zero_of hz ρ W hi
    have hl' := he _ _ hl
    have hc' := he _ _ hc
    generalize hL : a.eval l = L at hl'
    generalize hC : a.eval c = C at hc'
    cases hl'; cases hc'
    have hr := run_make (P := P) w t el i Z hu hi hZ kl kc (n : Int) (n : Int) (by omega) (Int.le_refl _) (by
      have : ((i.bytes * n : Nat) : Int) ≤ 281474976710656 := by omega
      rwa [Int.natCast_mul] at this) (by unfold maxLen at c4; omega)
    simp only [Int.toNat_natCast] at hr
    refine wp_value (w' := w.alloc (.cells (madeCells Z.cells (n * i.size)) el)) (V := .slice (some ⟨w.heap.size, 0, none⟩) n n) (by simp only [execOp, hop, hL, hC]; simp only [Int.ofNat_eq_natCast, Sem.run_bind, hr, Result.andThen_ok, Sem.run_pure]) ?_
    have hzl := zeros_ok rZ (n := n) c2 c0
    have hzn : ((List.replicate n z.cells).flatten).length = n * i.size := by rw [flat_length, c2]
    obtain ⟨k1, k2, k3⟩ := makeF_ok hR hnm (w' := w.alloc (.cells (madeCells Z.cells (n * i.size)) el)) (World.grownBy_alloc w _ none) (x := .own true el i.size ((List.replicate n z.cells).flatten)) (b := w.heap.size) (o := n) (Nat.le_refl _) (by simp)
      (holds_own hR.bel.size c4 (heap_alloc_new w _) (size_madeCells _ _) (fun _ => rfl) (fun x _ => by simp) (by rw [size_madeCells, hzn]; exact Nat.le_refl _) (by
        rw [List.take_of_length_le (by rw [hzn, Array.length_toList, size_madeCells]; exact Nat.le_refl _)]
        exact hzl.ext (Names.with_ext (hR.free_none hnm))))
    exact hK _ _ _ k1 (.gs _ _ k3 (Nat.le_refl _)) k2
  case h_25 t x ix ok hop =>
    split at hv
    case h_2 => cases hv
    rename_i xa ka hx hk
    obtain ⟨h1, h2⟩ := plain hv
    obtain ⟨V, g1, g2⟩ := lookA_ok (X := a.eval x) (Kv := a.eval ix) hR hrd (he _ _ hx) (he _ _ hk) h1
    exact wp_value (w' := w) (V := V) (by simp only [execOp, hop, Sem.run_bind, g1, Result.andThen_ok, Sem.run_pure]) (done h2 g2)
  case h_26 t hop =>
    split at hv
    case h_2 => cases hv
    rename_i kt et hu
    simp at hv
    obtain ⟨rfl, rfl⟩ := hv
    refine wp_value (w' := w.alloc (.map #[] 0)) (V := .map (some w.heap.size)) (by simp only [execOp, hop, Option.map_none, Sem.run_bind, run_makeMap, Result.andThen_ok, Sem.run_pure]) ?_
    obtain ⟨k1, k2, k3⟩ := makeF_ok hR hnm (w' := w.alloc (.map #[] 0)) (World.grownBy_alloc w _ none) (x := .mapo [] 0) (b := w.heap.size) (o := 0) (Nat.le_refl _) (by simp) ⟨hR.bel.size, [], heap_alloc_new w _, .nil⟩
    exact hK _ _ _ k1 (.mp k3) k2
  case h_27 => cases hv
end Go.Proofs.Ytlpnbbonbclddaa.A

/- The abstract machine: code and calls; a function's contract out of what its body comes to. -/
import Derived.Test.YtlpnbbonbclddaaQipckjfaegb
import Derived.Test.YtlpnbbonbclddaaQfbhbpfohlf
namespace Go.Proofs.Ytlpnbbonbclddaa.A
open Go Go.RowKit
set_option linter.unusedVariables false
set_option linter.unusedSimpArgs false
variable {P : Program} {ρ : Names} {W w : World} {T : Tab}
def Ex.is : Ex → Exit → Prop
  | .normal, .normal => True
  | .exit i, .exit j => i = j
  | .ret, .ret => True
  | _, _ => False
/-- What holds behind a piece of code, in the model. -/
def Post (ρ : Names) (W : World) (Q : Ex → St → Prop) : Exit → Act → World → Prop := fun e a w => ∃ e' st' ρ', e'.is e ∧ Ext ρ ρ' ∧ RelS ρ' W st' a w ∧ Q e' st'
theorem Post.ext {ρ' : Names} {Q : Ex → St → Prop} {e : Exit} {a : Act} (he : Ext ρ ρ') (h : Post ρ' W Q e a w) : Post ρ W Q e a w :=
  let ⟨e', st', ρ2, h1, h2, h3, h4⟩ := h; ⟨e', st', ρ2, h1, he.trans h2, h3, h4⟩
/-- A range over a function. -/
def RfOk (P : Program) (r : Option Nat) (rf : Rf Prop) : Prop :=
  ∀ f ps sg bo (st : St) (Q : Ex → St → Prop) (ρ : Names) (W w : World) (a : Act), rf f ps sg bo st Q → RelS ρ W st a w → ∀ n, (Code.rangeFunc f ps sg bo).wpIn (FR r) n P (Post ρ W Q) a w
theorem noRf_ok (P : Program) (r : Option Nat) : RfOk P r (noRf PA) := fun _ _ _ _ _ _ _ _ _ _ h => no_elim h
/-- A loop's rounds hold in the model, from its head. -/
def LoopsOk (P : Program) (r : Option Nat) (lp : Code → St → (Ex → St → Prop) → Prop) : Prop :=
  ∀ (c : Code) (st : St) (Q : Ex → St → Prop) (ρ : Names) (W w : World) (a : Act), lp c st Q → RelS ρ W st a w → ∀ (b : Frame) (k : List Item) (cs : List Frame), b.roundOf = r →
    ∃ e a' w', Post ρ W Q e a' w' ∧ ArrivesIn (Machine.fenced P (FR r)) P (lone (b.atR a (.code c :: .inLoop c :: k)) cs w) b k cs e a' w'
/-- A loop's contract holds. -/
def LcOk (P : Program) (b : Code) (lc : St → (Ex → St → Prop) → Prop) : Prop := ∀ (st : St) (Q : Ex → St → Prop) (ρ : Names) (W w : World) (a : Act), lc st Q → RelS ρ W st a w → ∀ (r : Option Nat) (n : Nat), (Code.loop b).wpIn (FR r) n P (Post ρ W Q) a w
theorem codeA_ok (hm : P.follows .mixedOrders = true) (hT : TabOk P T) {r : Option Nat} {LT : LTab Prop} {lp : Code → St → (Ex → St → Prop) → Prop} (hr : LoopsOk P r lp) {inl : Inl Prop} (hI : InlOk P inl) {rf : Rf Prop} (hrf : RfOk P r rf) :
    ∀ (c : Code), (∀ b ∈ Code.loops c, ∀ lc, LT (Code.first b) = some lc → LcOk P b lc) → ∀ (st : St) (Q : Ex → St → Prop) (ρ : Names) (W w : World) (a : Act), codeA PA P T LT lp inl rf c st Q → RelS ρ W st a w → ∀ n, c.wpIn (FR r) n P (Post ρ W Q) a w := by
  intro c
  induction c with
  | skip => intro hL st Q ρ W w a h hs n; exact wpIn_skip ⟨.normal, st, ρ, trivial, Ext.refl ρ, hs, h⟩
  | label l => intro hL st Q ρ W w a h hs n; exact wpIn_label ⟨.normal, st, ρ, trivial, Ext.refl ρ, hs, h⟩
  | seq x y ihx ihy =>
    intro hL st Q ρ W w a h hs n
    refine wpIn_seq (wpIn_mono (ihx (fun b hb => hL b (by simp [Code.loops, hb])) _ _ ρ W w a h hs n) fun e a' w' hp => ?_)
    obtain ⟨e', st', ρ', h1, h2, h3, h4⟩ := hp
    cases e' with
    | normal =>
      cases e <;> try exact h1.elim
      exact wpIn_mono (ihy (fun b hb => hL b (by simp [Code.loops, hb])) _ _ ρ' W w' a' h4 h3 n) fun e a w hp => hp.ext h2
    | exit i =>
      cases e <;> try exact h1.elim
      exact ⟨.exit i, st', ρ', h1, h2, h3, h4⟩
    | ret =>
      cases e <;> try exact h1.elim
      exact ⟨.ret, st', ρ', h1, h2, h3, h4⟩
  | cond c x y ihx ihy =>
    intro hL st Q ρ W w a h hs n
    simp only [codeA] at h
    split at h
    · rename_i b hb
      have hv := hs.ev0 _ _ hb
      generalize hX : a.eval c = X at hv
      cases hv
      refine wpIn_cond_split hX (fun hb => ?_) (fun hb => ?_)
      · subst hb; rename_i hb
        have h' : fst (refC st c true) (fun st => codeA PA P T LT lp inl rf x st Q) := h
        rw [fst_eq, refC_eq hb] at h'
        exact ihx (fun b hb => hL b (by simp [Code.loops, hb])) _ _ ρ W w a h' hs n
      · subst hb; rename_i hb
        have h' : fst (refC st c false) (fun st => codeA PA P T LT lp inl rf y st Q) := h
        rw [fst_eq, refC_eq hb] at h'
        exact ihy (fun b hb => hL b (by simp [Code.loops, hb])) _ _ ρ W w a h' hs n
    · exact no_elim h
  | block id b ih =>
    intro hL st Q ρ W w a h hs n
    refine wpIn_block (wpIn_mono (ih (fun b hb => hL b (by simpa [Code.loops] using hb)) _ _ ρ W w a h hs n) fun e a' w' hp => ?_)
    obtain ⟨e', st', ρ', h1, h2, h3, h4⟩ := hp
    cases e' with
    | normal =>
      cases e <;> try exact h1.elim
      exact ⟨.normal, st', ρ', trivial, h2, h3, h4⟩
    | exit i =>
      cases e <;> try exact h1.elim
      rename_i j
      have h1' : i = j := h1
      subst h1'
      simp only [Exit.inBlock]
      simp only at h4
      by_cases hid : i = id
      · rw [if_pos hid] at h4 ⊢; exact ⟨.normal, st', ρ', trivial, h2, h3, h4⟩
      · rw [if_neg hid] at h4 ⊢; exact ⟨.exit i, st', ρ', rfl, h2, h3, h4⟩
    | ret =>
      cases e <;> try exact h1.elim
      exact ⟨.ret, st', ρ', h1, h2, h3, h4⟩
  | loop b ih =>
    intro hL st Q ρ W w a h hs n
    simp only [codeA] at h
    split at h
    · rename_i lc hlc
      exact hL b (by simp [Code.loops]) lc hlc st Q ρ W w a h hs r n
    · intro bf k cs hro hb hroom
      obtain ⟨e, a', w', h1, h2⟩ := hr b st Q ρ W w a h hs bf k cs hro
      exact ⟨e, a', w', h1, .of_steps (.one (fencedFR P r _) stepR_loop) h2⟩
  | rangeFunc f ps sg bo _ _ =>
    intro hL st Q ρ W w a h hs n
    exact hrf f ps sg bo st Q ρ W w a h hs n
  | exit id => intro hL st Q ρ W w a h hs n; exact wpIn_exit ⟨.exit id, st, ρ, rfl, Ext.refl ρ, hs, h⟩
  | ret => intro hL st Q ρ W w a h hs n; exact wpIn_ret ⟨.ret, st, ρ, trivial, Ext.refl ρ, hs, h⟩
  | region id ops draw =>
    intro hL st Q ρ W w a h hs n
    exact regionA_ok hm hT hI hs h fun ρ' st' a' w' he hs' hq => ⟨.normal, st', ρ', trivial, he, hs', hq⟩
  | _ => intro hL st Q ρ W w a h hs n; exact no_elim h
theorem codeA_ok0 (hm : P.follows .mixedOrders = true) (hT : TabOk P T) {r : Option Nat} {lp : Code → St → (Ex → St → Prop) → Prop} (hr : LoopsOk P r lp) {inl : Inl Prop} (hI : InlOk P inl) {rf : Rf Prop} (hrf : RfOk P r rf) (c : Code) (st : St) (Q : Ex → St → Prop) (ρ : Names) (W w : World) (a : Act) (h : codeA PA P T noLoops lp inl rf c st Q) (hs : RelS ρ W st a w) (n : Nat) : c.wpIn (FR r) n P (Post ρ W Q) a w :=
  codeA_ok hm hT hr hI hrf c (fun _ _ _ h => by cases h) st Q ρ W w a h hs n
theorem loopsA_ok (hm : P.follows .mixedOrders = true) (hT : TabOk P T) {r : Option Nat} {lp : Code → St → (Ex → St → Prop) → Prop} (hr : LoopsOk P r lp) {inl : Inl Prop} (hI : InlOk P inl) {rf : Rf Prop} (hrf : RfOk P r rf) :
    LoopsOk P r fun b st Q => codeA PA P T noLoops lp inl rf b st fun e st' => match e with | .normal => lp b st' Q | e => Q e st' := by
  intro b st Q ρ W w a h hs bf k cs hro
  obtain ⟨e, a1, w1, hp, harr⟩ := codeA_ok0 hm hT hr hI hrf b _ _ ρ W w a h hs 0 bf (.inLoop b :: k) cs hro trivial (roomFR r _)
  obtain ⟨e', st', ρ', g1, g2, g3, g4⟩ := hp
  cases e' with
  | normal =>
    cases e <;> try exact g1.elim
    obtain ⟨e2, a2, w2, hp2, harr2⟩ := hr b st' Q ρ' W w1 a1 g4 g3 bf k cs hro
    exact ⟨e2, a2, w2, hp2.ext g2, .of_steps (StepsIn.trans harr (.one (fencedFR P r _) stepR_inLoop)) harr2⟩
  | exit i =>
    cases e <;> try exact g1.elim
    exact ⟨_, a1, w1, ⟨.exit i, st', ρ', g1, g2, g3, g4⟩, .pass (x := .inLoop b) rfl (fun _ _ => .inl (by simp)) harr⟩
  | ret =>
    cases e <;> try exact g1.elim
    exact ⟨_, a1, w1, ⟨.ret, st', ρ', g1, g2, g3, g4⟩, .pass (x := .inLoop b) rfl (fun _ _ => .inl (by simp)) harr⟩
theorem entry_ok {fn : Func} {args : List AV} {A : List Value} (h : RL ρ W args A) : TR ρ W (entryT fn args) (A.toArray ++ Array.replicate (fn.ntmps - A.toArray.size) undef) := by
  have hl := h.length
  refine ⟨by simp [entryT, hl], fun i v hv => ?_⟩
  simp only [entryT] at hv
  rw [List.getElem?_append] at hv
  split at hv
  · simp only [List.getElem?_map, Option.map_eq_some_iff] at hv
    obtain ⟨u, h1, h2⟩ := hv
    simp at h2; subst h2
    obtain ⟨V, g1, g2⟩ := h.get i u h1
    refine ⟨V, ?_, g2⟩
    rw [Array.getElem?_append_left (by rename_i hlt; simp at hlt; simp; omega)]
    simpa using g1
  · simp [List.getElem?_replicate] at hv
def resSem (tmps : Array Value) : ResultVar → Sem Value
  | .tmp t => pure (tmps.getD t undef)
  | .cell a t => do loadVar t (← asAddr (tmps.getD a undef))
theorem results_eq (fn : Func) (tmps : Array Value) : results fn tmps = (do let vs ← fn.results.mapM (resSem tmps); pure (if h : vs.size = 1 then vs[0] else .tuple vs)) := by
  unfold results
  congr 1
theorem res_ok {st : St} {a : Act} (hs : RelS ρ W st a w) : ∀ (l : List ResultVar) (r : List AV), resA P st l = some r → ∃ R, (l.mapM (resSem a.tmps)).run P w = .ok R w ∧ RL ρ W r R
  | [], r, hq => by simp [resA] at hq; subst hq; exact ⟨[], by simp, .nil⟩
  | .tmp t :: l, r, hq => by
    simp only [resA] at hq
    split at hq
    · rename_i v vs h1 h2
      simp at hq; subst hq
      obtain ⟨R, g1, g2⟩ := res_ok hs l vs h2
      have hv := hs.ev0 (.tmp t) v h1
      exact ⟨_ :: R, by simp [List.mapM_cons, g1, resSem, Act.eval], .cons hv g2⟩
    · cases hq
  | .cell c t :: l, r, hq => by
    simp only [resA] at hq
    split at hq
    · rename_i m i s j vs h1 h2
      split at hq
      · rename_i v hl
        simp at hq; subst hq
        obtain ⟨R, g1, g2⟩ := res_ok hs l vs h2
        have hv := hs.ev0 (.tmp c) _ h1
        obtain ⟨V, g3, g4⟩ := loadA_ok (P := P) hs.h (rdFlat_ok st.h) hv hl
        refine ⟨V :: R, ?_, .cons g4 g2⟩
        generalize hC : a.eval (.tmp c) = C at hv
        cases hv with | ptr i s j hp =>
        simp only [Act.eval] at hC
        simp only [Instr.loadAt, Instr.sureAddr, Sem.run_bind, Sem.run_pure, Result.andThen_ok, hC, Act.eval] at g3
        simp [List.mapM_cons, resSem, g1, hC, asAddr, g3]
      · cases hq
    · cases hq
theorem resV_ok {r : List AV} {R : List Value} (h : RL ρ W r R) : RV ρ W (resV r) (if hh : R.toArray.size = 1 then R.toArray[0] else .tuple R.toArray) := by
  cases h with
  | nil => simp; exact .tup .nil
  | cons h t =>
    cases t with
    | nil => simpa [resV] using h
    | cons h2 t2 => simp [resV]; exact .tup (.cons h (.cons h2 t2))
/-- The blocks for deferred calls are shut. -/
theorem shut_ok {fn : Func} {tmps : Array Value} {R : Ending → World → Prop} {n : Nat} : ∀ {ds : List Nat} {D : List Deferred} {h h2 : Heap} {w : World}, Rel ρ W h w → RD ρ ds D → shut ds h = some h2 →
    (∀ w2, Rel ρ W h2 w2 → LeavesInM (FR none) n P fn tmps R [] .returning w2) → LeavesInM (FR none) n P fn tmps R D .returning w
  | _, _, h, h2, w, hR, .nil, hq, hK => by
    simp only [shut, Option.some.injEq] at hq
    subst hq
    exact hK w hR
  | _, _, h, h2, w, hR, .cons (n := m) (r := r) hp hd, hq, hK => by
    simp only [shut] at hq
    split at hq
    · rename_i hm
      have hm0 := rdFlat_some hm
      obtain ⟨b, o, e1, hW0, ho, h4⟩ := hR.ob m _ hm0
      rw [hp] at e1
      cases e1
      have hlt : r < w.heap.size := (Array.getElem?_eq_some_iff.1 h4).1
      have hR2 : Rel ρ W (h.set m (some .dead)) (w.putObj r (.deferred none)) :=
        hR.put hm0 rfl hp (fun k hk => World.putObj_heap_other hk) World.putObj_size rfl rfl rfl trivial
      exact ⟨by simp, .inl ⟨r, _, rfl, run_takeDeferred h4, shut_ok hR2 hd hq hK⟩⟩
    · cases hq
theorem body_ok {LT : LTab Prop} {lp : Code → St → (Ex → St → Prop) → Prop} {inl : Inl Prop} {rf : Rf Prop} {g : FuncId} {fn : Func} (hf : P.funcs[g]? = some fn)
    (hc : ∀ c, fn.body = some c → ∀ (st : St) (Q : Ex → St → Prop) (ρ : Names) (W w : World) (a : Act), codeA PA P T LT lp inl rf c st Q → RelS ρ W st a w → ∀ n, c.wpIn (FR none) n P (Post ρ W Q) a w)
    {args : List AV} {A : List Value} {h : Heap} {K : AV → Heap → Prop} (hA : RL ρ W args A) (hR : Rel ρ W h w) (hq : bodyA PA P T LT lp inl rf fn args h K) :
    Calls P g A.toArray w fun e w' => ∃ V, e = .returned V ∧ ∃ ρ' v h', Ext ρ ρ' ∧ RV ρ' W v V ∧ Rel ρ' W h' w' ∧ K v h' := by
  unfold bodyA at hq
  split at hq
  case h_2 => exact no_elim hq
  rename_i c hb
  rw [fl_eq, fst_eq] at hq
  refine (callsIn_wide (n := 0)).1 (callsIn_of_wp_marks (F := FR none) hf hb trivial (wpIn_mono (hc c hb _ _ ρ W w _ hq ⟨entry_ok hA, hR, .nil⟩ 0) fun e a' w' hp => ?_))
  obtain ⟨e', st', ρ', g1, g2, g3, g4⟩ := hp
  have fin : (match shut st'.d st'.h with
      | some h2 => match resA P ⟨st'.t, h2, []⟩ fn.results.toList with
        | some l => fl PA l fun l => K (resV l) h2
        | none => False
      | none => False) → LeavesInM (FR none) 0 P fn a'.tmps (fun e w' => ∃ V, e = .returned V ∧ ∃ ρ' v h', Ext ρ ρ' ∧ RV ρ' W v V ∧ Rel ρ' W h' w' ∧ K v h') a'.defers .returning w' := fun hk => by
    split at hk
    · rename_i h2 hs2
      split at hk
      · rename_i l hl
        rw [fl_eq] at hk
        refine shut_ok g3.h g3.d hs2 fun w2 hR2 => ?_
        obtain ⟨R, r1, r2⟩ := res_ok (P := P) (st := ⟨st'.t, h2, []⟩) (a := ⟨a'.tmps, []⟩) ⟨g3.t, hR2, .nil⟩ _ _ hl
        refine ⟨_, ?_, _, rfl, ρ', _, h2, g2, resV_ok r2, hR2, hk⟩
        rw [results_eq, Sem.run_bind, Array.mapM_eq_mapM_toList, Sem.run_map, r1]
        rfl
      · exact no_elim hk
    · exact no_elim hk
  cases e' with
  | normal =>
    cases e <;> try exact g1.elim
    exact fin g4
  | ret =>
    cases e <;> try exact g1.elim
    exact fin g4
  | exit i => exact no_elim g4
theorem callFunc_enter {g : FuncId} {fn : Func} (hf : P.funcs[g]? = some fn) (hb : fn.body.isSome = true) (hn : (fn.name == "runtime.NumGoroutine") = false) (A : Array Value) (w : World) : (callFunc g A).run P w = .ok (.enter g A) w := by
  have h1 : fn.name ≠ "runtime.NumGoroutine" := by simpa using hn
  have h2 : fn.body ≠ none := by cases h : fn.body <;> simp_all
  simp [callFunc, hf, h1, h2]
theorem bodyA_some {LT : LTab Prop} {rec : Code → St → (Ex → St → Prop) → Prop} {inl : Inl Prop} {rf : Rf Prop} {fn : Func} {args : List AV} {h : Heap} {K : AV → Heap → Prop} (hq : bodyA PA P T LT rec inl rf fn args h K) : fn.body.isSome = true := by
  unfold bodyA at hq
  split at hq
  · rename_i hb; simp [hb]
  · exact no_elim hq
/-- A function's call. -/
def CallOk (P : Program) (call : FuncId → List AV → Heap → (AV → Heap → Prop) → Prop) : Prop :=
  ∀ g args h (K : AV → Heap → Prop), call g args h K → ∀ (ρ : Names) (W w : World) (A : List Value), Rel ρ W h w → RL ρ W args A →
    (∀ w', (callFunc g A.toArray).run P w' = .ok (.enter g A.toArray) w') ∧ Calls P g A.toArray w fun e w' => ∃ V, e = .returned V ∧ ∃ ρ' v h', Ext ρ ρ' ∧ RV ρ' W v V ∧ Rel ρ' W h' w' ∧ K v h'
/-- A loop's record. -/
theorem loop_put {h : Heap} (hR : Rel ρ W h w) {n : Nat} {s : LoopState} {pe : Option Code} {t : List (Option AV)} {ps : List Nat} {sg bo : Code} (hn : h[n]? = some (some (.loop s pe t ps sg bo))) :
    ∃ b o r, ρ n = some (b, o) ∧ w.heap[b]? = some (.loop r) ∧ r.state = s ∧ r.pending = pe ∧ r.params.toList = ps ∧ r.assign = sg ∧ r.body = bo ∧ TR ρ W t r.tmps ∧
      ∀ s' pe', Rel ρ W (h.set n (some (.loop s' pe' t ps sg bo))) (w.putObj b (.loop { r with state := s', pending := pe' })) := by
  obtain ⟨b, o, e1, hW0, r, h4, h5, h6, h7, h8, h9, h10⟩ := hR.ob n _ hn
  have hlt : b < w.heap.size := (Array.getElem?_eq_some_iff.1 h4).1
  exact ⟨b, o, r, e1, h4, h5, h6, h7, h8, h9, h10, fun s' pe' => hR.put hn rfl e1 (fun k hk => World.putObj_heap_other hk) World.putObj_size rfl rfl rfl ⟨hW0, _, World.putObj_heap_same hlt, rfl, rfl, h7, h8, h9, h10⟩⟩
theorem setPs_ok : ∀ {ps : List Nat} {vs : List AV} {A : List Value}, RL ρ W vs A → ∀ {t : List (Option AV)} {a : Array Value}, TR ρ W t a → vs.length = ps.length → TR ρ W (setPs t ps vs) ((ps.zip A).foldl (fun tmps (t, a) => tmps.setIfInBounds t a) a)
  | [], _, _, .nil, t, a, h, _ => by simpa [setPs] using h
  | [], _, _, .cons _ _, _, _, _, hl => by simp at hl
  | p :: ps, _, _, .nil, _, _, _, hl => by simp at hl
  | p :: ps, _, _, .cons (v := v) (V := V) hv tl, t, a, h, hl => by
    simp only [setPs, List.zip_cons_cons, List.foldl_cons]
    have := TR.put (a := ⟨a, []⟩) h (Ext.refl ρ) hv (some p)
    exact setPs_ok tl this (by simpa using hl)
/-- A round, where a function calls what the loop handed it. -/
theorem round_ok {cd : Code → St → (Ex → St → Prop) → Prop} (hcd : ∀ (b : Nat) (c : Code) (st : St) (Q : Ex → St → Prop) (ρ : Names) (W w : World) (a : Act), cd c st Q → RelS ρ W st a w → ∀ n, c.wpIn (FR (some b)) n P (Post ρ W Q) a w)
    {o : Oper} {c : Call} {f : Operand} (hc : o.op = .call c) (hcal : c.callee = .value f) {n : Nat} {args : List AV} {h : Heap} {a : Act} {A : List Value} (hR : Rel ρ W h w) (hf : RV ρ W (.yl n) (a.eval f)) (hA : RL ρ W args A) (hAe : c.args.toList.map a.eval = A)
    {Kx : AV → Heap → Prop} (hq : roundA PA cd n args h Kx) {K : Act → World → Prop} {Q : Exit → Act → World → Prop} (hK : ∀ ρ' V w' v h', Ext ρ ρ' → RV ρ' W v V → Rel ρ' W h' w' → Kx v h' → K (a.put o.dst V) w') (r : Option Nat) (dp : Nat) : o.wpIn (FR r) dp P a w K Q := by
  unfold roundA at hq
  split at hq
  case h_2 => exact no_elim hq
  rename_i pe t ps sg bo hrd
  split at hq
  case isFalse => exact no_elim hq
  rename_i hlen
  have hn := rdFlat_some hrd
  obtain ⟨b, o', lr, e1, h4, h5, h6, h7, h8, h9, h10, _⟩ := loop_put hR hn
  generalize hF : a.eval f = F at hf
  cases hf with | yl hp =>
  rename_i b2 o2
  obtain ⟨hbb, hoo⟩ : b2 = b ∧ o2 = o' := by rw [hp] at e1; simpa using e1
  subst hbb; subst hoo
  rw [fst_eq] at hq
  have e0 : c.args.map a.eval = A.toArray := by apply Array.ext'; simpa using hAe
  have hsz : A.toArray.size = lr.params.size := by
    have := hA.length
    have h2 : lr.params.toList.length = ps.length := by rw [h7]
    simp at h2 ⊢
    omega
  have hrun : (execOp a.eval o).run P w = .ok (.round b2 lr.fn ((lr.params.zip A.toArray).foldl (fun tmps (t, a) => tmps.setIfInBounds t a) lr.tmps) lr.assign lr.body) w := by
    have := run_yield (P := P) h4 hsz
    simp only [execOp, hc, resolve, hcal, hF, Deferred.ofValue, e0, Sem.run_bind, Sem.run_pure, Result.andThen_ok, invoke, Array.empty_append]
    exact this
  unfold Oper.wpIn
  refine ⟨fun _ _ => trivial, ?_⟩
  rw [Oper.semAt_eq _ _ _ (fun c' e => by rw [hc] at e; cases e), hrun]
  refine ⟨fun e => by simp [Fence.wide] at e, roundIn_of_wpIn (F := FR r) trivial ?_⟩
  have htm : TR ρ W (setPs t ps args) ((lr.params.zip A.toArray).foldl (fun tmps (t, a) => tmps.setIfInBounds t a) lr.tmps) := by
    have := setPs_ok hA h10 hlen
    rw [← Array.foldl_toList, Array.toList_zip, h7]
    exact this
  rw [h8, h9]
  refine wpIn_mono (hcd b2 sg _ _ ρ W w ⟨_, []⟩ hq ⟨htm, hR, .nil⟩ (dp - 1)) fun e a1 w1 hp1 => ?_
  obtain ⟨e', st1, ρ1, g1, g2, g3, g4⟩ := hp1
  cases e' with
  | exit i => exact no_elim g4
  | ret => exact no_elim g4
  | normal =>
    cases e <;> try exact g1.elim
    show ∃ w₂, _
    dsimp only at g4
    split at g4
    case h_2 => exact no_elim g4
    rename_i p1 t1 ps1 as1 b1 hrd1
    have hn1 := rdFlat_some hrd1
    obtain ⟨c1, d1, lr1, k1, k2, k3, k4, k5, k6, k7, k8, k9⟩ := loop_put g3.h hn1
    have hb : c1 = b2 := by
      have := g2 _ _ hp
      rw [this] at k1
      cases k1; rfl
    subst hb
    have hbr := run_beginRound (P := P) k2 k3
    refine ⟨_, hbr, ?_⟩
    have hR1 := k9 .busy p1
    have hrec : ({ lr1 with state := .busy } : Loop) = { lr1 with state := .busy, pending := p1 } := by rw [← k4]
    rw [hrec]
    refine wpIn_mono (hcd c1 bo _ _ ρ1 W _ a1 g4 ⟨g3.t, hR1, g3.d⟩ (dp - 1)) fun e2 a2 w2 hp2 => ?_
    obtain ⟨e2', st2, ρ2, m1, m2, m3, m4⟩ := hp2
    split at m4
    case h_2 => exact no_elim m4
    rename_i s2 p2 t2 ps2 as2 bo2 hrd2
    have hn2 := rdFlat_some hrd2
    obtain ⟨c2, d2, lr2, q1, q2, q3, q4, q5, q6, q7, q8, q9⟩ := loop_put m3.h hn2
    have hb : c2 = c1 := by
      have := m2 _ _ (g2 _ _ hp)
      rw [this] at q1
      cases q1; rfl
    subst hb
    have hext : Ext ρ ρ2 := g2.trans m2
    cases e2' with
    | normal =>
      cases e2 <;> try exact m1.elim
      exact ⟨_, _, run_endRound (P := P) none q2, hK ρ2 _ _ _ _ hext (.bool true) (q9 .ready none) m4⟩
    | ret =>
      cases e2 <;> try exact m1.elim
      exact ⟨_, _, run_endRound (P := P) (some .ret) q2, hK ρ2 _ _ _ _ hext (.bool false) (q9 .done (some .ret)) m4⟩
    | exit i =>
      cases e2 <;> try exact m1.elim
      rename_i i'
      have m1' : i = i' := m1
      subst m1'
      exact ⟨_, _, run_endRound (P := P) (some (.exit i)) q2, hK ρ2 _ _ _ _ hext (.bool false) (q9 .done (some (.exit i))) m4⟩
/-- A range over a function. -/
theorem range_ok {call : FuncId → List AV → Heap → (AV → Heap → Prop) → Prop} (hcall : CallOk P call) : RfOk P none (rangeA PA call) := by
  intro f ps sg bo st Q ρ W w a hq hs n
  simp only [rangeA] at hq
  split at hq
  case h_2 => exact no_elim hq
  rename_i g first cap hf
  have hfv := hs.ev0 _ _ hf
  generalize hF : a.eval f = F at hfv
  cases hfv with | fn _ hfirst hcap =>
  rename_i FA CA
  refine wpIn_rangeFunc fun fn _ => ?_
  have he := run_enterLoop_outer (P := P) (w := w) fn a.tmps ps sg bo
  -- the two blocks
  obtain ⟨x1, x2, x3⟩ := makeF_ok hs.h (nm := st.h.length) (.inl rfl) (w' := w.alloc (.deferred (some []))) (World.grownBy_alloc w _ none) (x := .dfr) (b := w.heap.size) (o := 0) (Nat.le_refl _) (by simp) ⟨hs.h.bel.size, rfl, heap_alloc_new w _⟩
  have l1 : effH st.h st.h.length (.alloc .dfr) = st.h ++ [some .dfr] := by simp [effH]
  rw [l1] at x2
  generalize ρ.with st.h.length w.heap.size 0 = ρ1 at x1 x2 x3
  have hw1 : (w.alloc (.deferred (some []))).heap.size = w.heap.size + 1 := by simp
  obtain ⟨L, hL⟩ : ∃ L : Loop, L = { state := .ready, pending := none, fn, tmps := a.tmps, params := ps, assign := sg, body := bo, defers := w.heap.size } := ⟨_, rfl⟩
  rw [← hL] at he
  have hl2 : ((w.alloc (.deferred (some []))).alloc (.loop L)).heap[w.heap.size + 1]? = some (.loop L) := by
    have := heap_alloc_new (w.alloc (.deferred (some []))) (.loop L)
    rw [hw1] at this
    exact this
  have hTL : TR (ρ1.with (st.h.length + 1) (w.heap.size + 1) 0) W st.t L.tmps := by
    rw [hL]
    exact (hs.t.ext x1).ext (Names.with_ext (x2.free_none (.inl (by simp))))
  obtain ⟨y1, y2, y3⟩ := makeF_ok x2 (nm := st.h.length + 1) (.inl (by simp)) (w' := (w.alloc (.deferred (some []))).alloc (.loop L)) (World.grownBy_alloc _ _ none) (x := .loop .ready none st.t ps.toList sg bo) (b := w.heap.size + 1) (o := 0) (by omega) (by simp)
    ⟨by have := hs.h.bel.size; omega, L, hl2, by rw [hL], by rw [hL], by rw [hL], by rw [hL], by rw [hL], hTL⟩
  have l2 : effH (st.h ++ [some .dfr]) (st.h.length + 1) (.alloc (.loop .ready none st.t ps.toList sg bo)) = st.h ++ [some .dfr, some (.loop .ready none st.t ps.toList sg bo)] := by simp [effH]
  rw [l2] at y2
  generalize ρ1.with (st.h.length + 1) (w.heap.size + 1) 0 = ρ2 at y1 y2 y3
  clear hTL
  have hext := x1.trans y1
  obtain ⟨henter, hcalls⟩ := hcall _ _ _ _ hq _ W _ (FA ++ ([.func (.yield (w.heap.size + 1)) #[] #[]] ++ CA)) y2 (by
    rw [List.append_assoc]
    exact (hfirst.ext hext).append ((RL.cons (.yl y3) .nil).append (hcap.ext hext)))
  refine ⟨w.heap.size + 1, _, _, { target := .fn (.func g) CA.toArray, args := FA.toArray ++ #[Value.func (.yield (w.heap.size + 1)) #[] #[]] }, (w.alloc (.deferred (some []))).alloc (.loop L), g, (FA ++ ([Value.func (.yield (w.heap.size + 1)) #[] #[]] ++ CA)).toArray, (w.alloc (.deferred (some []))).alloc (.loop L), he, ?_, fun _ _ => trivial, ?_, fun e => by simp [Fence.wide] at e, ?_⟩
  · have hmap : Array.map a.eval #[Operand.const (Value.func (.yield (w.heap.size + 1)) #[] #[])] = #[Value.func (.yield (w.heap.size + 1)) #[] #[]] := by simp [Act.eval]
    simp only [resolve, Sem.run_bind, hF, Deferred.ofValue, Sem.run_pure, Result.andThen_ok, hmap]
  · have : FA.toArray ++ #[Value.func (.yield (w.heap.size + 1)) #[] #[]] ++ CA.toArray = (FA ++ ([Value.func (.yield (w.heap.size + 1)) #[] #[]] ++ CA)).toArray := by simp
    simp only [invoke, this]
    exact henter _
  · refine callsFR (hcalls.mono ?_)
    intro e w3 hp
    obtain ⟨V, rfl, ρ3, v3, h3, z1, z2, z3, z4⟩ := hp
    show ∃ jump w₄, _
    split at z4
    case h_2 => exact no_elim z4
    rename_i s3 pe3 t3 ps3 as3 bo3 hrd3
    split at z4
    case isTrue => exact no_elim z4
    rename_i hbusy
    have hn3 := rdFlat_some hrd3
    obtain ⟨b3, o3, lr3, k1, k2, k3, k4, k5, k6, k7, k8, k9⟩ := loop_put z3 hn3
    have hb : b3 = w.heap.size + 1 := by
      have := z1 _ _ y3
      rw [this] at k1
      cases k1; rfl
    subst hb
    have hext3 : Ext ρ ρ3 := hext.trans z1
    have hend := run_endLoop (P := P) k2 (by rw [k3]; exact hbusy)
    have hlt : w.heap.size + 1 < w3.heap.size := (Array.getElem?_eq_some_iff.1 k2).1
    have hR4 : Rel ρ3 W (h3.set (st.h.length + 1) (some .dead)) (w3.putObj (w.heap.size + 1) (.loop { lr3 with state := .exhausted })) :=
      z3.put hn3 rfl k1 (fun k hk => World.putObj_heap_other hk) World.putObj_size rfl rfl rfl trivial
    have hS : RelS ρ3 W ⟨st.t, h3.set (st.h.length + 1) (some .dead), st.h.length :: st.d⟩ { a with defers := [{ target := .collected w.heap.size, args := #[] }] ++ a.defers } (w3.putObj (w.heap.size + 1) (.loop { lr3 with state := .exhausted })) :=
      ⟨hs.t.ext hext3, hR4, .cons (z1 _ _ (y1 _ _ x3)) (hs.d.ext hext3)⟩
    refine ⟨_, _, hend, ?_⟩
    clear hend
    generalize w3.putObj (w.heap.size + 1) (.loop { lr3 with state := .exhausted }) = w4 at hS ⊢
    rw [k4]
    split at z4
    · rw [fst_eq] at z4; exact ⟨.normal, _, ρ3, trivial, hext3, hS, z4⟩
    · rw [fst_eq] at z4; exact wpIn_ret ⟨.ret, _, ρ3, trivial, hext3, hS, z4⟩
    · rw [fst_eq] at z4; exact wpIn_exit ⟨.exit _, _, ρ3, rfl, hext3, hS, z4⟩
    · exact no_elim z4
theorem callOf_ok {o : Oper} {e : Operand → Option AV} {g : FuncId} {args : List AV} (hq : callOf P o e = some (g, args)) : ∃ c, o.op = .call c ∧ targetA P e c = some (g, args) := by
  unfold callOf at hq
  split at hq
  · rename_i c hc; exact ⟨c, hc, hq⟩
  · cases hq
theorem yieldOf_ok {o : Oper} {e : Operand → Option AV} {n : Nat} {args : List AV} (hq : yieldOf o e = some (n, args)) : ∃ c f, o.op = .call c ∧ c.callee = .value f ∧ e f = some (.yl n) ∧ evAll e c.args.toList = some args := by
  unfold yieldOf at hq
  split at hq
  · rename_i c hc
    split at hq
    · rename_i f hf
      split at hq
      · rename_i n' args' h1 h2
        simp at hq
        obtain ⟨rfl, rfl⟩ := hq
        exact ⟨c, f, hc, hf, h1, h2⟩
      · cases hq
    · cases hq
  · cases hq
theorem xop_nodefer {o : Oper} {e : Operand → Option AV} {rd : Nat → Option Ob} {nm : Nat} {x : Bool × AV × Option (Nat × Ob) × Option Ob} (hq : xop P o e rd nm = some x) : ∀ c, o.op ≠ .defer c := fun c h => by
  simp [xop, h] at hq
theorem all_ok (hm : P.follows .mixedOrders = true) (hT : TabOk P T) : ∀ n, (∀ r rf, RfOk P r rf → LoopsOk P r (alp PA P T rf n)) ∧ InlOk P (ainl PA P T n) ∧ CallOk P (acall PA P T n)
  | 0 => ⟨fun _ _ _ _ _ _ _ _ _ _ h => no_elim h, fun _ _ _ _ h => no_elim h, fun _ _ _ _ h => no_elim h⟩
  | n + 1 => by
    obtain ⟨h1, h2, h3⟩ := all_ok hm hT n
    refine ⟨fun r rf hrf => loopsA_ok hm hT (h1 r rf hrf) h2 hrf, ?_, ?_⟩
    · intro o e h Kx hq ρ W w a hR he K Q hK r dp
      simp only [ainl] at hq
      split at hq
      · rename_i p v s al hx
        obtain ⟨rfl, hq⟩ := brc_false.1 hq
        rw [fso_eq, fao_eq] at hq
        exact wpIn_of_wp (xop_nodefer hx) (xop_ok hR he hx fun ρ' w' V he' hV hR' => hK ρ' V w' v _ he' hV hR' hq)
      split at hq
      · rename_i g args hta
        obtain ⟨c, hc, hta⟩ := callOf_ok hta
        obtain ⟨A, hA, hrun⟩ := target_ok (P := P) he hta o.type
        obtain ⟨henter, hcalls⟩ := h3 _ _ _ _ hq ρ W w A hR hA
        refine wpIn_of_wp (fun c' e' => by rw [hc] at e'; cases e') (wp_gives (R := fun V w' => ∃ ρ' v h', Ext ρ ρ' ∧ RV ρ' W v V ∧ Rel ρ' W h' w' ∧ Kx v h') (.inl ⟨henter _, hcalls.mono fun e w' he => he⟩) (by simp only [execOp, hc]; exact hrun w) fun V w' hVw => ?_)
        obtain ⟨ρ', v, h', g1, g2, g3, g4⟩ := hVw
        exact hK ρ' V w' v h' g1 g2 g3 g4
      · split at hq
        case h_2 => exact no_elim hq
        rename_i nl args hy
        obtain ⟨c, f, hc, hcal, hf, hargs⟩ := yieldOf_ok hy
        exact round_ok (fun b c st Q ρ W w a hcode hs n => codeA_ok0 hm hT (h1 (some b) _ (noRf_ok P _)) h2 (noRf_ok P _) c st Q ρ W w a hcode hs n) hc hcal hR (he _ _ hf) (evAll_ok he _ _ hargs) rfl hq hK r dp
    · intro g args h K hq ρ W w A hR hA
      simp only [acall] at hq
      split at hq
      case h_2 => exact no_elim hq
      rename_i fn hf
      split at hq
      case isTrue => exact no_elim hq
      rename_i hn
      have hrf := range_ok (P := P) h3
      exact ⟨fun w' => callFunc_enter hf (bodyA_some hq) (by simpa using hn) _ _, body_ok hf (fun c _ => codeA_ok0 hm hT (h1 none _ hrf) h2 hrf c) hA hR hq⟩
/-- The contracts of a function's loops. -/
def LtOk (P : Program) (g : FuncId) (LT : LTab Prop) : Prop := ∀ fn c, P.funcs[g]? = some fn → fn.body = some c → ∀ b ∈ Code.loops c, ∀ lc, LT (Code.first b) = some lc → LcOk P b lc
theorem ltOk_none (P : Program) (g : FuncId) : LtOk P g noLoops := fun _ _ _ _ _ _ _ h => by cases h
/-- **A function's contract**: what its body comes to from an empty heap of its own. -/
theorem afn_ok (hm : P.follows .mixedOrders = true) (hT : TabOk P T) {n : Nat} {g : FuncId} {LT : LTab Prop} (hLT : LtOk P g LT) {args : List AV} {K : AV → Heap → Prop} (hq : afn PA P T LT n g args K) {A : List Value} {w : World} (hA : RL noNames w args A) :
    Calls P g A.toArray w fun e w' => ∃ V, e = .returned V ∧ ∃ ρ' v h', RV ρ' w v V ∧ Rel ρ' w h' w' ∧ K v h' := by
  unfold afn at hq
  split at hq
  case h_2 => exact no_elim hq
  rename_i fn hf
  obtain ⟨h1, h2, h3⟩ := all_ok (P := P) (T := T) hm hT n
  have hrf := range_ok (P := P) h3
  refine (body_ok hf (fun c hc => codeA_ok hm hT (h1 none _ hrf) h2 hrf c (hLT fn c hf hc)) hA (Rel.start w) hq).mono fun e w' he => ?_
  obtain ⟨V, g1, ρ', v, h', g2, g3, g4, g5⟩ := he
  exact ⟨V, g1, ρ', v, h', g3, g4, g5⟩
/-- A result whose slices are told by what they hold. -/
theorem toNul_ok {W w : World} {ρ : Names} {h : Heap} {n : Nat} (ih : ∀ {v : AV} {V : Value}, RV ρ W v V → (toNu h n v).okN n = true → RV noNames w (toNu h n v) V ∧ Fr W.heap.size n (toNu h n v) V) :
    ∀ {l : List AV} {L : List Value}, RL ρ W l L → (l.map (toNu h n)).all (AV.okN n) = true → RL noNames w (l.map (toNu h n)) L ∧ ∀ (i : Nat) (v : AV) (V : Value), (l.map (toNu h n))[i]? = some v → L[i]? = some V → Fr W.heap.size n v V
  | _, _, .nil, _ => ⟨.nil, fun i v V a => by simp at a⟩
  | _, _, .cons g t, ha => by
    simp only [List.map_cons, List.all_cons, Bool.and_eq_true] at ha
    obtain ⟨g1, g2⟩ := ih g ha.1
    obtain ⟨g3, g4⟩ := toNul_ok ih t ha.2
    refine ⟨.cons g1 g3, fun i v V a b => ?_⟩
    cases i with
    | zero => simp at a b; subst a; subst b; exact g2
    | succ i => exact g4 i v V (by simpa using a) (by simpa using b)
theorem toNu_gs {W w : World} {ρ : Names} {h : Heap} (hR : Rel ρ W h w) {m n s len : Nat} {V : Value} (hv : RV ρ W (.gs m s len) V) (ho : (toNu h n (.gs m s len)).okN n = true) : RV noNames w (toNu h n (.gs m s len)) V ∧ Fr W.heap.size n (toNu h n (.gs m s len)) V := by
  have e : toNu h n (.gs m s len) = match rdFlat h m with
    | some (.own true e s' l) => if s = s' ∧ l.length = len * s then .nu e s len l else .gs m s len
    | _ => .gs m s len := by cases n <;> rfl
  rw [e] at ho ⊢
  have bad : (AV.gs m s len).okN n = false := by cases n <;> rfl
  split at ho
  · rename_i e' s' l hl
    try simp only [hl]
    split at ho
    · rename_i hc
      rw [if_pos hc]
      obtain ⟨rfl, hlen⟩ := hc
      cases hv with | gs s len hp hle =>
      rename_i b cap
      obtain ⟨b', o', e1, e2⟩ := hR.ob m _ (rdFlat_ok _ _ _ hl)
      rw [hp] at e1; cases e1
      obtain ⟨hW0, hcap, L, fz, h4, h5, h6, _, h7, h8⟩ := e2
      have hfz := h6 rfl
      subst hfz
      have ho' : l.all (AV.flat 4) = true := by cases n <;> simp [AV.okN] at ho <;> simpa using ho.1
      exact ⟨.nu e' s len (hR.dom m _ hp).2 hcap hle h4 h5 hlen (h8.flat_move 4 ho'), by cases n <;> simpa [Fr] using hW0⟩
    · rw [bad] at ho; cases ho
  · rw [bad] at ho; cases ho
theorem toNu_ok {W w : World} {ρ : Names} {h : Heap} (hR : Rel ρ W h w) : ∀ (n : Nat) {v : AV} {V : Value}, RV ρ W v V → (toNu h n v).okN n = true → RV noNames w (toNu h n v) V ∧ Fr W.heap.size n (toNu h n v) V := by
  intro n
  induction n with
  | zero =>
    intro v V hv ho
    cases v
    case gs => exact toNu_gs hR hv ho
    case nu e s len l => simp [toNu, AV.okN, AV.flat] at ho
    all_goals exact ⟨hv.flat_move 0 ho, Fr.flat 0 ho⟩
  | succ n ih =>
    intro v V hv ho
    cases v
    case gs => exact toNu_gs hR hv ho
    case nu e s len l => simp [toNu, AV.okN, AV.flat] at ho
    case agg l =>
      cases hv with | agg hl =>
      obtain ⟨g1, g2⟩ := toNul_ok ih hl ho
      exact ⟨.agg g1, fun i v V a b => g2 i v V a (by simpa using b)⟩
    case tup l =>
      cases hv with | tup hl =>
      obtain ⟨g1, g2⟩ := toNul_ok ih hl ho
      exact ⟨.tup g1, fun i v V a b => g2 i v V a (by simpa using b)⟩
    all_goals exact ⟨hv.flat_move (n + 1) ho, Fr.flat (n + 1) ho⟩
/-- A contract's result. -/
theorem givesN_ok (hm : P.follows .mixedOrders = true) (hT : TabOk P T) {g : FuncId} (hn : (P.funcs[g]?).any (fun fn => !(fn.name == "runtime.NumGoroutine")) = true) {LT : LTab Prop} (hLT : LtOk P g LT) {args : List AV} {v : AV} (hok : v.okN 4 = true) {n : Nat}
    (hq : afn PA P T LT n g args fun u h => toNu h 4 u = v) {A : List Value} (hA : RL noNames w args A) : Gives P g A.toArray w fun V w' => (RV noNames w' v V ∧ Below w.heap.size w w') ∧ Fr w.heap.size 4 v V := by
  cases hf : P.funcs[g]? with
  | none => simp [hf] at hn
  | some fn =>
    simp [hf] at hn
    have hb : fn.body.isSome = true := by
      unfold afn at hq
      simp only [hf] at hq
      exact bodyA_some hq
    refine .inl ⟨callFunc_enter hf hb (by simpa using hn) _ _, (afn_ok hm hT hLT hq hA).mono fun e w' he => ?_⟩
    obtain ⟨V, g1, ρ', u, h', g2, g3, rfl⟩ := he
    obtain ⟨k1, k2⟩ := toNu_ok g3 4 g2 hok
    exact ⟨V, g1, ⟨k1, g3.bel⟩, k2⟩
end Go.Proofs.Ytlpnbbonbclddaa.A

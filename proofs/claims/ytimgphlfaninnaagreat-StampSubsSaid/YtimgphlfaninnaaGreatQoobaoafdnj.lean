import Derived.Test.YtimgphlfaninnaaGreatQcbicogmanf
import Derived.Test.YtimgphlfaninnaaGreatProg
import Derived.Laws.Externs
import Derived.Test.YtimgphlfaninnaaGreatQdjbmgjoodh
import Derived.Below
import Derived.Deep.Draws
import Derived.Deep.AppendLies
import Derived.Maps.AppendAt
import Derived.OwnWalk
import Derived.Laws.BytesArg
import Derived.Laws.MakeOwn
import Derived.Laws.OwnMore
import Derived.Deep.OwnRows
import Derived.Tactics
import Derived.Lib.ConvBytes
import Derived.Laws.Slices
import Derived.WalkKit
import Derived.KernelRfl
import Derived.RowKit3
import Derived.Deep.LoopGhost
import Derived.Deep.QuietTactic
import Derived.BigQuiet
import Derived.WideLaws
import Derived.Deep.DeepCutAuto
import Derived.Deep.CutBlock
import Derived.Deep.RegionHeld3
import Derived.Laws.Rows
import Derived.Lib.AppendStr
import Derived.ArgAppend
import Derived.Laws.IdiomCopy
import Derived.OrdersHeld
import Derived.Laws.BitsLemmas
import Derived.RowKit
import Derived.Laws.RangeString
import Derived.Laws.RangeAny
import Derived.Lib.OthersKept
import Derived.Lib.SlBytesRow
namespace Go.Proofs.YtimgphlfaninnaaGreat.A
open Go Go.RowKit
set_option linter.unusedVariables false
set_option linter.unusedSimpArgs false
variable {P : Program} {ρ : Names} {W w : World} {T : Tab}
def Ex.is : Ex → Exit → Prop
 | .normal, .normal => True
 | .exit i, .exit j => i = j
 | .ret, .ret => True
 | _, _ => False
def Post (ρ : Names) (W : World) (Q : Ex → St → Prop) : Exit → Act → World → Prop := fun e a w => ∃ e' st' ρ', e'.is e ∧ Ext ρ ρ' ∧ RelS ρ' W st' a w ∧ Q e' st'
theorem Post.ext {ρ' : Names} {Q : Ex → St → Prop} {e : Exit} {a : Act} (he : Ext ρ ρ') (h : Post ρ' W Q e a w) : Post ρ W Q e a w :=
 let ⟨e', st', ρ2, h1, h2, h3, h4⟩ := h; ⟨e', st', ρ2, h1, he.trans h2, h3, h4⟩
def RfOk (P : Program) (r : Option Nat) (rf : Rf Prop) : Prop :=
 ∀ f ps sg bo (st : St) (Q : Ex → St → Prop) (ρ : Names) (W w : World) (a : Act), rf f ps sg bo st Q → RelS ρ W st a w → ∀ n, (Code.rangeFunc f ps sg bo).wpIn (FR r) n P (Post ρ W Q) a w
theorem noRf_ok (P : Program) (r : Option Nat) : RfOk P r (noRf PA) := fun _ _ _ _ _ _ _ _ _ _ h => qY h
def LoopsOk (P : Program) (r : Option Nat) (lp : Code → St → (Ex → St → Prop) → Prop) : Prop :=
 ∀ (c : Code) (st : St) (Q : Ex → St → Prop) (ρ : Names) (W w : World) (a : Act), lp c st Q → RelS ρ W st a w → ∀ (b : Frame) (k : List Item) (cs : List Frame), b.roundOf = r →
  ∃ e a' w', Post ρ W Q e a' w' ∧ ArrivesIn (Machine.fenced P (FR r)) P (lone (b.atR a (.code c :: .inLoop c :: k)) cs w) b k cs e a' w'
def LcOk (P : Program) (b : Code) (lc : St → (Ex → St → Prop) → Prop) : Prop := ∀ (st : St) (Q : Ex → St → Prop) (ρ : Names) (W w : World) (a : Act), lc st Q → RelS ρ W st a w → ∀ (r : Option Nat) (n : Nat), (Code.loop b).wpIn (FR r) n P (Post ρ W Q) a w
theorem codeA_ok (hm : P.follows .mixedOrders = true) (hT : TabOk P T) {r : Option Nat} {LT : LTab Prop} {lp : Code → St → (Ex → St → Prop) → Prop} (hr : LoopsOk P r lp) {inl : Inl Prop} (hI : InlOk P inl) {rf : Rf Prop} (hrf : RfOk P r rf) :
 ∀ (c : Code), (∀ b ∈ Code.loops c, ∀ lc, LT (Code.first b) = some lc → LcOk P b lc) → ∀ (st : St) (Q : Ex → St → Prop) (ρ : Names) (W w : World) (a : Act), codeA PA P T LT lp inl rf c st Q → RelS ρ W st a w → ∀ n, c.wpIn (FR r) n P (Post ρ W Q) a w := by
 intro c
 induction c with
 | skip => intro hL st Q ρ W w a h hs n; exact wpIn_skip ⟨.normal, st, ρ, trivial, Ext.refl ρ, hs, h⟩
 | label l => intro hL st Q ρ W w a h hs n; exact wpIn_label ⟨.normal, st, ρ, trivial, Ext.refl ρ, hs, h⟩
 | seq x y ihx ihy =>
  intro hL st Q ρ W w a h hs n
  refine wpIn_seq (wpIn_mono (ihx (fun b hb => hL b (by simp [Code.loops, hb])) _ _ ρ W w a h hs n) fun e a' w' hp => ?_)
  obtain ⟨e', st', ρ', h1, h2, h3, h4⟩ := hp
  cases e' with
  | normal =>
   cases e <;> try exact h1.elim
   exact wpIn_mono (ihy (fun b hb => hL b (by simp [Code.loops, hb])) _ _ ρ' W w' a' h4 h3 n) fun e a w hp => hp.ext h2
  | exit i =>
   cases e <;> try exact h1.elim
   exact ⟨.exit i, st', ρ', h1, h2, h3, h4⟩
  | ret =>
   cases e <;> try exact h1.elim
   exact ⟨.ret, st', ρ', h1, h2, h3, h4⟩
 | cond c x y ihx ihy =>
  intro hL st Q ρ W w a h hs n
  simp only [codeA] at h
  split at h
  · rename_i b hb
    have hv := hs.ev0 _ _ hb
    generalize hX : a.eval c = X at hv
    cases hv
    refine wpIn_cond_split hX (fun hb => ?_) (fun hb => ?_)
    · subst hb; rename_i hb
      have h' : fst (refC st c true) (fun st => codeA PA P T LT lp inl rf x st Q) := h
      rw [fst_eq, refC_eq hb] at h'
      exact ihx (fun b hb => hL b (by simp [Code.loops, hb])) _ _ ρ W w a h' hs n
    · subst hb; rename_i hb
      have h' : fst (refC st c false) (fun st => codeA PA P T LT lp inl rf y st Q) := h
      rw [fst_eq, refC_eq hb] at h'
      exact ihy (fun b hb => hL b (by simp [Code.loops, hb])) _ _ ρ W w a h' hs n
  · exact qY h
 | block id b ih =>
  intro hL st Q ρ W w a h hs n
  refine wpIn_block (wpIn_mono (ih (fun b hb => hL b (by simpa [Code.loops] using hb)) _ _ ρ W w a h hs n) fun e a' w' hp => ?_)
  obtain ⟨e', st', ρ', h1, h2, h3, h4⟩ := hp
  cases e' with
  | normal =>
   cases e <;> try exact h1.elim
   exact ⟨.normal, st', ρ', trivial, h2, h3, h4⟩
  | exit i =>
   cases e <;> try exact h1.elim
   rename_i j
   have h1' : i = j := h1
   subst h1'
   simp only [Exit.inBlock]
   simp only at h4
   by_cases hid : i = id
   · rw [if_pos hid] at h4 ⊢; exact ⟨.normal, st', ρ', trivial, h2, h3, h4⟩
   · rw [if_neg hid] at h4 ⊢; exact ⟨.exit i, st', ρ', rfl, h2, h3, h4⟩
  | ret =>
   cases e <;> try exact h1.elim
   exact ⟨.ret, st', ρ', h1, h2, h3, h4⟩
 | loop b ih =>
  intro hL st Q ρ W w a h hs n
  simp only [codeA] at h
  split at h
  · rename_i lc hlc
    exact hL b (by simp [Code.loops]) lc hlc st Q ρ W w a h hs r n
  · intro bf k cs hro hb hroom
    obtain ⟨e, a', w', h1, h2⟩ := hr b st Q ρ W w a h hs bf k cs hro
    exact ⟨e, a', w', h1, .of_steps (.one (fencedFR P r _) stepR_loop) h2⟩
 | rangeFunc f ps sg bo _ _ =>
  intro hL st Q ρ W w a h hs n
  exact hrf f ps sg bo st Q ρ W w a h hs n
 | exit id => intro hL st Q ρ W w a h hs n; exact wpIn_exit ⟨.exit id, st, ρ, rfl, Ext.refl ρ, hs, h⟩
 | ret => intro hL st Q ρ W w a h hs n; exact wpIn_ret ⟨.ret, st, ρ, trivial, Ext.refl ρ, hs, h⟩
 | region id ops draw =>
  intro hL st Q ρ W w a h hs n
  exact regionA_ok hm hT hI hs h fun ρ' st' a' w' he hs' hq => ⟨.normal, st', ρ', trivial, he, hs', hq⟩
 | _ => intro hL st Q ρ W w a h hs n; exact qY h
theorem codeA_ok0 (hm : P.follows .mixedOrders = true) (hT : TabOk P T) {r : Option Nat} {lp : Code → St → (Ex → St → Prop) → Prop} (hr : LoopsOk P r lp) {inl : Inl Prop} (hI : InlOk P inl) {rf : Rf Prop} (hrf : RfOk P r rf) (c : Code) (st : St) (Q : Ex → St → Prop) (ρ : Names) (W w : World) (a : Act) (h : codeA PA P T noLoops lp inl rf c st Q) (hs : RelS ρ W st a w) (n : Nat) : c.wpIn (FR r) n P (Post ρ W Q) a w :=
 codeA_ok hm hT hr hI hrf c (fun _ _ _ h => by cases h) st Q ρ W w a h hs n
theorem loopsA_ok (hm : P.follows .mixedOrders = true) (hT : TabOk P T) {r : Option Nat} {lp : Code → St → (Ex → St → Prop) → Prop} (hr : LoopsOk P r lp) {inl : Inl Prop} (hI : InlOk P inl) {rf : Rf Prop} (hrf : RfOk P r rf) :
 LoopsOk P r fun b st Q => codeA PA P T noLoops lp inl rf b st fun e st' => match e with | .normal => lp b st' Q | e => Q e st' := by
 intro b st Q ρ W w a h hs bf k cs hro
 obtain ⟨e, a1, w1, hp, harr⟩ := codeA_ok0 hm hT hr hI hrf b _ _ ρ W w a h hs 0 bf (.inLoop b :: k) cs hro trivial (roomFR r _)
 obtain ⟨e', st', ρ', g1, g2, g3, g4⟩ := hp
 cases e' with
 | normal =>
  cases e <;> try exact g1.elim
  obtain ⟨e2, a2, w2, hp2, harr2⟩ := hr b st' Q ρ' W w1 a1 g4 g3 bf k cs hro
  exact ⟨e2, a2, w2, hp2.ext g2, .of_steps (StepsIn.trans harr (.one (fencedFR P r _) stepR_inLoop)) harr2⟩
 | exit i =>
  cases e <;> try exact g1.elim
  exact ⟨_, a1, w1, ⟨.exit i, st', ρ', g1, g2, g3, g4⟩, .pass (x := .inLoop b) rfl (fun _ _ => .inl (by simp)) harr⟩
 | ret =>
  cases e <;> try exact g1.elim
  exact ⟨_, a1, w1, ⟨.ret, st', ρ', g1, g2, g3, g4⟩, .pass (x := .inLoop b) rfl (fun _ _ => .inl (by simp)) harr⟩
theorem entry_ok {fn : Func} {args : List AV} {A : List Value} (h : RL ρ W args A) : TR ρ W (entryT fn args) (A.toArray ++ Array.replicate (fn.ntmps - A.toArray.size) undef) := by
 have hl := h.length
 refine ⟨by simp [entryT, hl], fun i v hv => ?_⟩
 simp only [entryT] at hv
 rw [List.getElem?_append] at hv
 split at hv
 · simp only [List.getElem?_map, Option.map_eq_some_iff] at hv
   obtain ⟨u, h1, h2⟩ := hv
   simp at h2; subst h2
   obtain ⟨V, g1, g2⟩ := h.get i u h1
   refine ⟨V, ?_, g2⟩
   rw [Array.getElem?_append_left (by rename_i hlt; simp at hlt; simp; omega)]
   simpa using g1
 · simp [List.getElem?_replicate] at hv
def resSem (tmps : Array Value) : ResultVar → Sem Value
 | .tmp t => pure (tmps.getD t undef)
 | .cell a t => do loadVar t (← asAddr (tmps.getD a undef))
theorem results_eq (fn : Func) (tmps : Array Value) : results fn tmps = (do let vs ← fn.results.mapM (resSem tmps); pure (if h : vs.size = 1 then vs[0] else .tuple vs)) := by
 unfold results
 congr 1
theorem res_ok {st : St} {a : Act} (hs : RelS ρ W st a w) : ∀ (l : List ResultVar) (r : List AV), resA P st l = some r → ∃ R, (l.mapM (resSem a.tmps)).run P w = .ok R w ∧ RL ρ W r R
 | [], r, hq => by simp [resA] at hq; subst hq; exact ⟨[], by simp, .nil⟩
 | .tmp t :: l, r, hq => by
  simp only [resA] at hq
  split at hq
  · rename_i v vs h1 h2
    simp at hq; subst hq
    obtain ⟨R, g1, g2⟩ := res_ok hs l vs h2
    have hv := hs.ev0 (.tmp t) v h1
    exact ⟨_ :: R, by simp [List.mapM_cons, g1, resSem, Act.eval], .cons hv g2⟩
  · cases hq
 | .cell c t :: l, r, hq => by
  simp only [resA] at hq
  split at hq
  · rename_i m i s j vs h1 h2
    split at hq
    · rename_i v hl
      simp at hq; subst hq
      obtain ⟨R, g1, g2⟩ := res_ok hs l vs h2
      have hv := hs.ev0 (.tmp c) _ h1
      obtain ⟨V, g3, g4⟩ := loadA_ok (P := P) hs.h (rdFlat_ok st.h) hv hl
      refine ⟨V :: R, ?_, .cons g4 g2⟩
      generalize hC : a.eval (.tmp c) = C at hv
      cases hv with | ptr i s j hp =>
      simp only [Act.eval] at hC
      simp only [Instr.loadAt, Instr.sureAddr, Sem.run_bind, Sem.run_pure, Result.andThen_ok, hC, Act.eval] at g3
      simp [List.mapM_cons, resSem, g1, hC, asAddr, g3]
    · cases hq
  · cases hq
theorem resV_ok {r : List AV} {R : List Value} (h : RL ρ W r R) : RV ρ W (resV r) (if hh : R.toArray.size = 1 then R.toArray[0] else .tuple R.toArray) := by
 cases h with
 | nil => simp; exact .tup .nil
 | cons h t =>
  cases t with
  | nil => simpa [resV] using h
  | cons h2 t2 => simp [resV]; exact .tup (.cons h (.cons h2 t2))
theorem shut_ok {fn : Func} {tmps : Array Value} {R : Ending → World → Prop} {n : Nat} : ∀ {ds : List Nat} {D : List Deferred} {h h2 : Heap} {w : World}, Rel ρ W h w → RD ρ ds D → shut ds h = some h2 →
 (∀ w2, Rel ρ W h2 w2 → LeavesInM (FR none) n P fn tmps R [] .returning w2) → LeavesInM (FR none) n P fn tmps R D .returning w
 | _, _, h, h2, w, hR, .nil, hq, hK => by
  simp only [shut, Option.some.injEq] at hq
  subst hq
  exact hK w hR
 | _, _, h, h2, w, hR, .cons (n := m) (r := r) hp hd, hq, hK => by
  simp only [shut] at hq
  split at hq
  · rename_i hm
    have hm0 := vG hm
    obtain ⟨b, o, e1, hW0, ho, h4⟩ := hR.ob m _ hm0
    rw [hp] at e1
    cases e1
    have hlt : r < w.heap.size := (Array.getElem?_eq_some_iff.1 h4).1
    have hR2 : Rel ρ W (h.set m (some .dead)) (w.putObj r (.deferred none)) :=
     hR.put hm0 rfl hp (fun k hk => World.putObj_heap_other hk) World.putObj_size rfl rfl rfl trivial
    exact ⟨by simp, .inl ⟨r, _, rfl, run_takeDeferred h4, shut_ok hR2 hd hq hK⟩⟩
  · cases hq
theorem body_ok {LT : LTab Prop} {lp : Code → St → (Ex → St → Prop) → Prop} {inl : Inl Prop} {rf : Rf Prop} {g : FuncId} {fn : Func} (hf : P.funcs[g]? = some fn)
 (hc : ∀ c, fn.body = some c → ∀ (st : St) (Q : Ex → St → Prop) (ρ : Names) (W w : World) (a : Act), codeA PA P T LT lp inl rf c st Q → RelS ρ W st a w → ∀ n, c.wpIn (FR none) n P (Post ρ W Q) a w)
 {args : List AV} {A : List Value} {h : Heap} {K : AV → Heap → Prop} (hA : RL ρ W args A) (hR : Rel ρ W h w) (hq : bodyA PA P T LT lp inl rf fn args h K) :
 Calls P g A.toArray w fun e w' => ∃ V, e = .returned V ∧ ∃ ρ' v h', Ext ρ ρ' ∧ RV ρ' W v V ∧ Rel ρ' W h' w' ∧ K v h' := by
 unfold bodyA at hq
 split at hq
 case h_2 => exact qY hq
 rename_i c hb
 rw [fl_eq, fst_eq] at hq
 refine (callsIn_wide (n := 0)).1 (callsIn_of_wp_marks (F := FR none) hf hb trivial (wpIn_mono (hc c hb _ _ ρ W w _ hq ⟨entry_ok hA, hR, .nil⟩ 0) fun e a' w' hp => ?_))
 obtain ⟨e', st', ρ', g1, g2, g3, g4⟩ := hp
 have fin : (match shut st'.d st'.h with
  | some h2 => match resA P ⟨st'.t, h2, []⟩ fn.results.toList with
   | some l => fl PA l fun l => K (resV l) h2
   | none => False
  | none => False) → LeavesInM (FR none) 0 P fn a'.tmps (fun e w' => ∃ V, e = .returned V ∧ ∃ ρ' v h', Ext ρ ρ' ∧ RV ρ' W v V ∧ Rel ρ' W h' w' ∧ K v h') a'.defers .returning w' := fun hk => by
  split at hk
  · rename_i h2 hs2
    split at hk
    · rename_i l hl
      rw [fl_eq] at hk
      refine shut_ok g3.h g3.d hs2 fun w2 hR2 => ?_
      obtain ⟨R, r1, r2⟩ := res_ok (P := P) (st := ⟨st'.t, h2, []⟩) (a := ⟨a'.tmps, []⟩) ⟨g3.t, hR2, .nil⟩ _ _ hl
      refine ⟨_, ?_, _, rfl, ρ', _, h2, g2, resV_ok r2, hR2, hk⟩
      rw [results_eq, Sem.run_bind, Array.mapM_eq_mapM_toList, Sem.run_map, r1]
      rfl
    · exact qY hk
  · exact qY hk
 cases e' with
 | normal =>
  cases e <;> try exact g1.elim
  exact fin g4
 | ret =>
  cases e <;> try exact g1.elim
  exact fin g4
 | exit i => exact qY g4
theorem callFunc_enter {g : FuncId} {fn : Func} (hf : P.funcs[g]? = some fn) (hb : fn.body.isSome = true) (hn : (fn.name == "runtime.NumGoroutine") = false) (A : Array Value) (w : World) : (callFunc g A).run P w = .ok (.enter g A) w := by
 have h1 : fn.name ≠ "runtime.NumGoroutine" := by simpa using hn
 have h2 : fn.body ≠ none := by cases h : fn.body <;> simp_all
 simp [callFunc, hf, h1, h2]
theorem bodyA_some {LT : LTab Prop} {rec : Code → St → (Ex → St → Prop) → Prop} {inl : Inl Prop} {rf : Rf Prop} {fn : Func} {args : List AV} {h : Heap} {K : AV → Heap → Prop} (hq : bodyA PA P T LT rec inl rf fn args h K) : fn.body.isSome = true := by
 unfold bodyA at hq
 split at hq
 · rename_i hb; simp [hb]
 · exact qY hq
def CallOk (P : Program) (call : FuncId → List AV → Heap → (AV → Heap → Prop) → Prop) : Prop :=
 ∀ g args h (K : AV → Heap → Prop), call g args h K → ∀ (ρ : Names) (W w : World) (A : List Value), Rel ρ W h w → RL ρ W args A →
  (∀ w', (callFunc g A.toArray).run P w' = .ok (.enter g A.toArray) w') ∧ Calls P g A.toArray w fun e w' => ∃ V, e = .returned V ∧ ∃ ρ' v h', Ext ρ ρ' ∧ RV ρ' W v V ∧ Rel ρ' W h' w' ∧ K v h'
theorem loop_put {h : Heap} (hR : Rel ρ W h w) {n : Nat} {s : LoopState} {pe : Option Code} {t : List (Option AV)} {ps : List Nat} {sg bo : Code} (hn : h[n]? = some (some (.loop s pe t ps sg bo))) :
 ∃ b o r, ρ n = some (b, o) ∧ w.heap[b]? = some (.loop r) ∧ r.state = s ∧ r.pending = pe ∧ r.params.toList = ps ∧ r.assign = sg ∧ r.body = bo ∧ TR ρ W t r.tmps ∧
  ∀ s' pe', Rel ρ W (h.set n (some (.loop s' pe' t ps sg bo))) (w.putObj b (.loop { r with state := s', pending := pe' })) := by
 obtain ⟨b, o, e1, hW0, r, h4, h5, h6, h7, h8, h9, h10⟩ := hR.ob n _ hn
 have hlt : b < w.heap.size := (Array.getElem?_eq_some_iff.1 h4).1
 exact ⟨b, o, r, e1, h4, h5, h6, h7, h8, h9, h10, fun s' pe' => hR.put hn rfl e1 (fun k hk => World.putObj_heap_other hk) World.putObj_size rfl rfl rfl ⟨hW0, _, World.putObj_heap_same hlt, rfl, rfl, h7, h8, h9, h10⟩⟩
theorem setPs_ok : ∀ {ps : List Nat} {vs : List AV} {A : List Value}, RL ρ W vs A → ∀ {t : List (Option AV)} {a : Array Value}, TR ρ W t a → vs.length = ps.length → TR ρ W (setPs t ps vs) ((ps.zip A).foldl (fun tmps (t, a) => tmps.setIfInBounds t a) a)
 | [], _, _, .nil, t, a, h, _ => by simpa [setPs] using h
 | [], _, _, .cons _ _, _, _, _, hl => by simp at hl
 | p :: ps, _, _, .nil, _, _, _, hl => by simp at hl
 | p :: ps, _, _, .cons (v := v) (V := V) hv tl, t, a, h, hl => by
  simp only [setPs, List.zip_cons_cons, List.foldl_cons]
  have := TR.put (a := ⟨a, []⟩) h (Ext.refl ρ) hv (some p)
  exact setPs_ok tl this (by simpa using hl)
theorem round_ok {cd : Code → St → (Ex → St → Prop) → Prop} (hcd : ∀ (b : Nat) (c : Code) (st : St) (Q : Ex → St → Prop) (ρ : Names) (W w : World) (a : Act), cd c st Q → RelS ρ W st a w → ∀ n, c.wpIn (FR (some b)) n P (Post ρ W Q) a w)
 {o : Oper} {c : Call} {f : Operand} (hc : o.op = .call c) (hcal : c.callee = .value f) {n : Nat} {args : List AV} {h : Heap} {a : Act} {A : List Value} (hR : Rel ρ W h w) (hf : RV ρ W (.yl n) (a.eval f)) (hA : RL ρ W args A) (hAe : c.args.toList.map a.eval = A)
 {Kx : AV → Heap → Prop} (hq : roundA PA cd n args h Kx) {K : Act → World → Prop} {Q : Exit → Act → World → Prop} (hK : ∀ ρ' V w' v h', Ext ρ ρ' → RV ρ' W v V → Rel ρ' W h' w' → Kx v h' → K (a.put o.dst V) w') (r : Option Nat) (dp : Nat) : o.wpIn (FR r) dp P a w K Q := by
 unfold roundA at hq
 split at hq
 case h_2 => exact qY hq
 rename_i pe t ps sg bo hrd
 split at hq
 case isFalse => exact qY hq
 rename_i hlen
 have hn := vG hrd
 obtain ⟨b, o', lr, e1, h4, h5, h6, h7, h8, h9, h10, _⟩ := loop_put hR hn
 generalize hF : a.eval f = F at hf
 cases hf with | yl hp =>
 rename_i b2 o2
 obtain ⟨hbb, hoo⟩ : b2 = b ∧ o2 = o' := by rw [hp] at e1; simpa using e1
 subst hbb; subst hoo
 rw [fst_eq] at hq
 have e0 : c.args.map a.eval = A.toArray := by apply Array.ext'; simpa using hAe
 have hsz : A.toArray.size = lr.params.size := by
  have := hA.length
  have h2 : lr.params.toList.length = ps.length := by rw [h7]
  simp at h2 ⊢
  omega
 have hrun : (execOp a.eval o).run P w = .ok (.round b2 lr.fn ((lr.params.zip A.toArray).foldl (fun tmps (t, a) => tmps.setIfInBounds t a) lr.tmps) lr.assign lr.body) w := by
  have := run_yield (P := P) h4 hsz
  simp only [execOp, hc, resolve, hcal, hF, Deferred.ofValue, e0, Sem.run_bind, Sem.run_pure, Result.andThen_ok, invoke, Array.empty_append]
  exact this
 unfold Oper.wpIn
 refine ⟨fun _ _ => trivial, ?_⟩
 rw [Oper.semAt_eq _ _ _ (fun c' e => by rw [hc] at e; cases e), hrun]
 refine ⟨fun e => by simp [Fence.wide] at e, roundIn_of_wpIn (F := FR r) trivial ?_⟩
 have htm : TR ρ W (setPs t ps args) ((lr.params.zip A.toArray).foldl (fun tmps (t, a) => tmps.setIfInBounds t a) lr.tmps) := by
  have := setPs_ok hA h10 hlen
  rw [← Array.foldl_toList, Array.toList_zip, h7]
  exact this
 rw [h8, h9]
 refine wpIn_mono (hcd b2 sg _ _ ρ W w ⟨_, []⟩ hq ⟨htm, hR, .nil⟩ (dp - 1)) fun e a1 w1 hp1 => ?_
 obtain ⟨e', st1, ρ1, g1, g2, g3, g4⟩ := hp1
 cases e' with
 | exit i => exact qY g4
 | ret => exact qY g4
 | normal =>
  cases e <;> try exact g1.elim
  show ∃ w₂, _
  dsimp only at g4
  split at g4
  case h_2 => exact qY g4
  rename_i p1 t1 ps1 as1 b1 hrd1
  have hn1 := vG hrd1
  obtain ⟨c1, d1, lr1, k1, k2, k3, k4, k5, k6, k7, k8, k9⟩ := loop_put g3.h hn1
  have hb : c1 = b2 := by
   have := g2 _ _ hp
   rw [this] at k1
   cases k1; rfl
  subst hb
  have hbr := run_beginRound (P := P) k2 k3
  refine ⟨_, hbr, ?_⟩
  have hR1 := k9 .busy p1
  have hrec : ({ lr1 with state := .busy } : Loop) = { lr1 with state := .busy, pending := p1 } := by rw [← k4]
  rw [hrec]
  refine wpIn_mono (hcd c1 bo _ _ ρ1 W _ a1 g4 ⟨g3.t, hR1, g3.d⟩ (dp - 1)) fun e2 a2 w2 hp2 => ?_
  obtain ⟨e2', st2, ρ2, m1, m2, m3, m4⟩ := hp2
  split at m4
  case h_2 => exact qY m4
  rename_i s2 p2 t2 ps2 as2 bo2 hrd2
  have hn2 := vG hrd2
  obtain ⟨c2, d2, lr2, q1, q2, q3, q4, q5, q6, q7, q8, q9⟩ := loop_put m3.h hn2
  have hb : c2 = c1 := by
   have := m2 _ _ (g2 _ _ hp)
   rw [this] at q1
   cases q1; rfl
  subst hb
  have hext : Ext ρ ρ2 := g2.trans m2
  cases e2' with
  | normal =>
   cases e2 <;> try exact m1.elim
   exact ⟨_, _, run_endRound (P := P) none q2, hK ρ2 _ _ _ _ hext (.bool true) (q9 .ready none) m4⟩
  | ret =>
   cases e2 <;> try exact m1.elim
   exact ⟨_, _, run_endRound (P := P) (some .ret) q2, hK ρ2 _ _ _ _ hext (.bool false) (q9 .done (some .ret)) m4⟩
  | exit i =>
   cases e2 <;> try exact m1.elim
   rename_i i'
   have m1' : i = i' := m1
   subst m1'
   exact ⟨_, _, run_endRound (P := P) (some (.exit i)) q2, hK ρ2 _ _ _ _ hext (.bool false) (q9 .done (some (.exit i))) m4⟩
theorem range_ok {call : FuncId → List AV → Heap → (AV → Heap → Prop) → Prop} (hcall : CallOk P call) : RfOk P none (rangeA PA call) := by
 intro f ps sg bo st Q ρ W w a hq hs n
 simp only [rangeA] at hq
 split at hq
 case h_2 => exact qY hq
 rename_i g first cap hf
 have hfv := hs.ev0 _ _ hf
 generalize hF : a.eval f = F at hfv
 cases hfv with | fn _ hfirst hcap =>
 rename_i FA CA
 refine wpIn_rangeFunc fun fn _ => ?_
 have he := run_enterLoop_outer (P := P) (w := w) fn a.tmps ps sg bo
 obtain ⟨x1, x2, x3⟩ := makeF_ok hs.h (nm := st.h.length) (.inl rfl) (w' := w.alloc (.deferred (some []))) (World.grownBy_alloc w _ none) (x := .dfr) (b := w.heap.size) (o := 0) (Nat.le_refl _) (by simp) ⟨hs.h.bel.size, rfl, heap_alloc_new w _⟩
 have l1 : effH st.h st.h.length (.alloc .dfr) = st.h ++ [some .dfr] := by simp [effH]
 rw [l1] at x2
 generalize ρ.with st.h.length w.heap.size 0 = ρ1 at x1 x2 x3
 have hw1 : (w.alloc (.deferred (some []))).heap.size = w.heap.size + 1 := by simp
 obtain ⟨L, hL⟩ : ∃ L : Loop, L = { state := .ready, pending := none, fn, tmps := a.tmps, params := ps, assign := sg, body := bo, defers := w.heap.size } := ⟨_, rfl⟩
 rw [← hL] at he
 have hl2 : ((w.alloc (.deferred (some []))).alloc (.loop L)).heap[w.heap.size + 1]? = some (.loop L) := by
  have := heap_alloc_new (w.alloc (.deferred (some []))) (.loop L)
  rw [hw1] at this
  exact this
 have hTL : TR (ρ1.with (st.h.length + 1) (w.heap.size + 1) 0) W st.t L.tmps := by
  rw [hL]
  exact (hs.t.ext x1).ext (Names.with_ext (x2.free_none (.inl (by simp))))
 obtain ⟨y1, y2, y3⟩ := makeF_ok x2 (nm := st.h.length + 1) (.inl (by simp)) (w' := (w.alloc (.deferred (some []))).alloc (.loop L)) (World.grownBy_alloc _ _ none) (x := .loop .ready none st.t ps.toList sg bo) (b := w.heap.size + 1) (o := 0) (by omega) (by simp)
  ⟨by have := hs.h.bel.size; omega, L, hl2, by rw [hL], by rw [hL], by rw [hL], by rw [hL], by rw [hL], hTL⟩
 have l2 : effH (st.h ++ [some .dfr]) (st.h.length + 1) (.alloc (.loop .ready none st.t ps.toList sg bo)) = st.h ++ [some .dfr, some (.loop .ready none st.t ps.toList sg bo)] := by simp [effH]
 rw [l2] at y2
 generalize ρ1.with (st.h.length + 1) (w.heap.size + 1) 0 = ρ2 at y1 y2 y3
 clear hTL
 have hext := x1.trans y1
 obtain ⟨henter, hcalls⟩ := hcall _ _ _ _ hq _ W _ (FA ++ ([.func (.yield (w.heap.size + 1)) #[] #[]] ++ CA)) y2 (by
  rw [List.append_assoc]
  exact (hfirst.ext hext).append ((RL.cons (.yl y3) .nil).append (hcap.ext hext)))
 refine ⟨w.heap.size + 1, _, _, { target := .fn (.func g) CA.toArray, args := FA.toArray ++ #[Value.func (.yield (w.heap.size + 1)) #[] #[]] }, (w.alloc (.deferred (some []))).alloc (.loop L), g, (FA ++ ([Value.func (.yield (w.heap.size + 1)) #[] #[]] ++ CA)).toArray, (w.alloc (.deferred (some []))).alloc (.loop L), he, ?_, fun _ _ => trivial, ?_, fun e => by simp [Fence.wide] at e, ?_⟩
 · have hmap : Array.map a.eval #[Operand.const (Value.func (.yield (w.heap.size + 1)) #[] #[])] = #[Value.func (.yield (w.heap.size + 1)) #[] #[]] := by simp [Act.eval]
   simp only [resolve, Sem.run_bind, hF, Deferred.ofValue, Sem.run_pure, Result.andThen_ok, hmap]
 · have : FA.toArray ++ #[Value.func (.yield (w.heap.size + 1)) #[] #[]] ++ CA.toArray = (FA ++ ([Value.func (.yield (w.heap.size + 1)) #[] #[]] ++ CA)).toArray := by simp
   simp only [invoke, this]
   exact henter _
 · refine callsFR (hcalls.mono ?_)
   intro e w3 hp
   obtain ⟨V, rfl, ρ3, v3, h3, z1, z2, z3, z4⟩ := hp
   show ∃ jump w₄, _
   split at z4
   case h_2 => exact qY z4
   rename_i s3 pe3 t3 ps3 as3 bo3 hrd3
   split at z4
   case isTrue => exact qY z4
   rename_i hbusy
   have hn3 := vG hrd3
   obtain ⟨b3, o3, lr3, k1, k2, k3, k4, k5, k6, k7, k8, k9⟩ := loop_put z3 hn3
   have hb : b3 = w.heap.size + 1 := by
    have := z1 _ _ y3
    rw [this] at k1
    cases k1; rfl
   subst hb
   have hext3 : Ext ρ ρ3 := hext.trans z1
   have hend := run_endLoop (P := P) k2 (by rw [k3]; exact hbusy)
   have hlt : w.heap.size + 1 < w3.heap.size := (Array.getElem?_eq_some_iff.1 k2).1
   have hR4 : Rel ρ3 W (h3.set (st.h.length + 1) (some .dead)) (w3.putObj (w.heap.size + 1) (.loop { lr3 with state := .exhausted })) :=
    z3.put hn3 rfl k1 (fun k hk => World.putObj_heap_other hk) World.putObj_size rfl rfl rfl trivial
   have hS : RelS ρ3 W ⟨st.t, h3.set (st.h.length + 1) (some .dead), st.h.length :: st.d⟩ { a with defers := [{ target := .collected w.heap.size, args := #[] }] ++ a.defers } (w3.putObj (w.heap.size + 1) (.loop { lr3 with state := .exhausted })) :=
    ⟨hs.t.ext hext3, hR4, .cons (z1 _ _ (y1 _ _ x3)) (hs.d.ext hext3)⟩
   refine ⟨_, _, hend, ?_⟩
   clear hend
   generalize w3.putObj (w.heap.size + 1) (.loop { lr3 with state := .exhausted }) = w4 at hS ⊢
   rw [k4]
   split at z4
   · rw [fst_eq] at z4; exact ⟨.normal, _, ρ3, trivial, hext3, hS, z4⟩
   · rw [fst_eq] at z4; exact wpIn_ret ⟨.ret, _, ρ3, trivial, hext3, hS, z4⟩
   · rw [fst_eq] at z4; exact wpIn_exit ⟨.exit _, _, ρ3, rfl, hext3, hS, z4⟩
   · exact qY z4
theorem callOf_ok {o : Oper} {e : Operand → Option AV} {g : FuncId} {args : List AV} (hq : callOf P o e = some (g, args)) : ∃ c, o.op = .call c ∧ targetA P e c = some (g, args) := by
 unfold callOf at hq
 split at hq
 · rename_i c hc; exact ⟨c, hc, hq⟩
 · cases hq
theorem yieldOf_ok {o : Oper} {e : Operand → Option AV} {n : Nat} {args : List AV} (hq : yieldOf o e = some (n, args)) : ∃ c f, o.op = .call c ∧ c.callee = .value f ∧ e f = some (.yl n) ∧ evAll e c.args.toList = some args := by
 unfold yieldOf at hq
 split at hq
 · rename_i c hc
   split at hq
   · rename_i f hf
     split at hq
     · rename_i n' args' h1 h2
       simp at hq
       obtain ⟨rfl, rfl⟩ := hq
       exact ⟨c, f, hc, hf, h1, h2⟩
     · cases hq
   · cases hq
 · cases hq
theorem xop_nodefer {o : Oper} {e : Operand → Option AV} {rd : Nat → Option Ob} {nm : Nat} {x : Bool × AV × Option (Nat × Ob) × Option Ob} (hq : xop P o e rd nm = some x) : ∀ c, o.op ≠ .defer c := fun c h => by
 simp [xop, h] at hq
theorem all_ok (hm : P.follows .mixedOrders = true) (hT : TabOk P T) : ∀ n, (∀ r rf, RfOk P r rf → LoopsOk P r (alp PA P T rf n)) ∧ InlOk P (ainl PA P T n) ∧ CallOk P (acall PA P T n)
 | 0 => ⟨fun _ _ _ _ _ _ _ _ _ _ h => qY h, fun _ _ _ _ h => qY h, fun _ _ _ _ h => qY h⟩
 | n + 1 => by
  obtain ⟨h1, h2, h3⟩ := all_ok hm hT n
  refine ⟨fun r rf hrf => loopsA_ok hm hT (h1 r rf hrf) h2 hrf, ?_, ?_⟩
  · intro o e h Kx hq ρ W w a hR he K Q hK r dp
    simp only [ainl] at hq
    split at hq
    · rename_i p v s al hx
      obtain ⟨rfl, hq⟩ := brc_false.1 hq
      rw [fso_eq, fao_eq] at hq
      exact wpIn_of_wp (xop_nodefer hx) (xop_ok hR he hx fun ρ' w' V he' hV hR' => hK ρ' V w' v _ he' hV hR' hq)
    split at hq
    · rename_i g args hta
      obtain ⟨c, hc, hta⟩ := callOf_ok hta
      obtain ⟨A, hA, hrun⟩ := target_ok (P := P) he hta o.type
      obtain ⟨henter, hcalls⟩ := h3 _ _ _ _ hq ρ W w A hR hA
      refine wpIn_of_wp (fun c' e' => by rw [hc] at e'; cases e') (wp_gives (R := fun V w' => ∃ ρ' v h', Ext ρ ρ' ∧ RV ρ' W v V ∧ Rel ρ' W h' w' ∧ Kx v h') (.inl ⟨henter _, hcalls.mono fun e w' he => he⟩) (by simp only [execOp, hc]; exact hrun w) fun V w' hVw => ?_)
      obtain ⟨ρ', v, h', g1, g2, g3, g4⟩ := hVw
      exact hK ρ' V w' v h' g1 g2 g3 g4
    · split at hq
      case h_2 => exact qY hq
      rename_i nl args hy
      obtain ⟨c, f, hc, hcal, hf, hargs⟩ := yieldOf_ok hy
      exact round_ok (fun b c st Q ρ W w a hcode hs n => codeA_ok0 hm hT (h1 (some b) _ (noRf_ok P _)) h2 (noRf_ok P _) c st Q ρ W w a hcode hs n) hc hcal hR (he _ _ hf) (evAll_ok he _ _ hargs) rfl hq hK r dp
  · intro g args h K hq ρ W w A hR hA
    simp only [acall] at hq
    split at hq
    case h_2 => exact qY hq
    rename_i fn hf
    split at hq
    case isTrue => exact qY hq
    rename_i hn
    have hrf := range_ok (P := P) h3
    exact ⟨fun w' => callFunc_enter hf (bodyA_some hq) (by simpa using hn) _ _, body_ok hf (fun c _ => codeA_ok0 hm hT (h1 none _ hrf) h2 hrf c) hA hR hq⟩
def LtOk (P : Program) (g : FuncId) (LT : LTab Prop) : Prop := ∀ fn c, P.funcs[g]? = some fn → fn.body = some c → ∀ b ∈ Code.loops c, ∀ lc, LT (Code.first b) = some lc → LcOk P b lc
theorem ltOk_none (P : Program) (g : FuncId) : LtOk P g noLoops := fun _ _ _ _ _ _ _ h => by cases h
theorem afn_ok (hm : P.follows .mixedOrders = true) (hT : TabOk P T) {n : Nat} {g : FuncId} {LT : LTab Prop} (hLT : LtOk P g LT) {args : List AV} {K : AV → Heap → Prop} (hq : afn PA P T LT n g args K) {A : List Value} {w : World} (hA : RL noNames w args A) :
 Calls P g A.toArray w fun e w' => ∃ V, e = .returned V ∧ ∃ ρ' v h', RV ρ' w v V ∧ Rel ρ' w h' w' ∧ K v h' := by
 unfold afn at hq
 split at hq
 case h_2 => exact qY hq
 rename_i fn hf
 obtain ⟨h1, h2, h3⟩ := all_ok (P := P) (T := T) hm hT n
 have hrf := range_ok (P := P) h3
 refine (body_ok hf (fun c hc => codeA_ok hm hT (h1 none _ hrf) h2 hrf c (hLT fn c hf hc)) hA (Rel.start w) hq).mono fun e w' he => ?_
 obtain ⟨V, g1, ρ', v, h', g2, g3, g4, g5⟩ := he
 exact ⟨V, g1, ρ', v, h', g3, g4, g5⟩
theorem toNul_ok {W w : World} {ρ : Names} {h : Heap} {n : Nat} (ih : ∀ {v : AV} {V : Value}, RV ρ W v V → (toNu h n v).okN n = true → RV noNames w (toNu h n v) V ∧ Fr W.heap.size n (toNu h n v) V) :
 ∀ {l : List AV} {L : List Value}, RL ρ W l L → (l.map (toNu h n)).all (AV.okN n) = true → RL noNames w (l.map (toNu h n)) L ∧ ∀ (i : Nat) (v : AV) (V : Value), (l.map (toNu h n))[i]? = some v → L[i]? = some V → Fr W.heap.size n v V
 | _, _, .nil, _ => ⟨.nil, fun i v V a => by simp at a⟩
 | _, _, .cons g t, ha => by
  simp only [List.map_cons, List.all_cons, Bool.and_eq_true] at ha
  obtain ⟨g1, g2⟩ := ih g ha.1
  obtain ⟨g3, g4⟩ := toNul_ok ih t ha.2
  refine ⟨.cons g1 g3, fun i v V a b => ?_⟩
  cases i with
  | zero => simp at a b; subst a; subst b; exact g2
  | succ i => exact g4 i v V (by simpa using a) (by simpa using b)
theorem toNu_gs {W w : World} {ρ : Names} {h : Heap} (hR : Rel ρ W h w) {m n s len : Nat} {V : Value} (hv : RV ρ W (.gs m s len) V) (ho : (toNu h n (.gs m s len)).okN n = true) : RV noNames w (toNu h n (.gs m s len)) V ∧ Fr W.heap.size n (toNu h n (.gs m s len)) V := by
 have e : toNu h n (.gs m s len) = match rdFlat h m with
  | some (.own true e s' l) => if s = s' ∧ l.length = len * s then .nu e s len l else .gs m s len
  | _ => .gs m s len := by cases n <;> rfl
 rw [e] at ho ⊢
 have bad : (AV.gs m s len).okN n = false := by cases n <;> rfl
 split at ho
 · rename_i e' s' l hl
   try simp only [hl]
   split at ho
   · rename_i hc
     rw [if_pos hc]
     obtain ⟨rfl, hlen⟩ := hc
     cases hv with | gs s len hp hle =>
     rename_i b cap
     obtain ⟨b', o', e1, e2⟩ := hR.ob m _ (rdFlat_ok _ _ _ hl)
     rw [hp] at e1; cases e1
     obtain ⟨hW0, hcap, L, fz, h4, h5, h6, _, h7, h8⟩ := e2
     have hfz := h6 rfl
     subst hfz
     have ho' : l.all (AV.flat 4) = true := by cases n <;> simp [AV.okN] at ho <;> simpa using ho.1
     exact ⟨.nu e' s len (hR.dom m _ hp).2 hcap hle h4 h5 hlen (h8.flat_move 4 ho'), by cases n <;> simpa [Fr] using hW0⟩
   · rw [bad] at ho; cases ho
 · rw [bad] at ho; cases ho
theorem toNu_ok {W w : World} {ρ : Names} {h : Heap} (hR : Rel ρ W h w) : ∀ (n : Nat) {v : AV} {V : Value}, RV ρ W v V → (toNu h n v).okN n = true → RV noNames w (toNu h n v) V ∧ Fr W.heap.size n (toNu h n v) V := by
 intro n
 induction n with
 | zero =>
  intro v V hv ho
  cases v
  case gs => exact toNu_gs hR hv ho
  case nu e s len l => simp [toNu, AV.okN, AV.flat] at ho
  all_goals exact ⟨hv.flat_move 0 ho, Fr.flat 0 ho⟩
 | succ n ih =>
  intro v V hv ho
  cases v
  case gs => exact toNu_gs hR hv ho
  case nu e s len l => simp [toNu, AV.okN, AV.flat] at ho
  case agg l =>
   cases hv with | agg hl =>
   obtain ⟨g1, g2⟩ := toNul_ok ih hl ho
   exact ⟨.agg g1, fun i v V a b => g2 i v V a (by simpa using b)⟩
  case tup l =>
   cases hv with | tup hl =>
   obtain ⟨g1, g2⟩ := toNul_ok ih hl ho
   exact ⟨.tup g1, fun i v V a b => g2 i v V a (by simpa using b)⟩
  all_goals exact ⟨hv.flat_move (n + 1) ho, Fr.flat (n + 1) ho⟩
theorem givesN_ok (hm : P.follows .mixedOrders = true) (hT : TabOk P T) {g : FuncId} (hn : (P.funcs[g]?).any (fun fn => !(fn.name == "runtime.NumGoroutine")) = true) {LT : LTab Prop} (hLT : LtOk P g LT) {args : List AV} {v : AV} (hok : v.okN 4 = true) {n : Nat}
 (hq : afn PA P T LT n g args fun u h => toNu h 4 u = v) {A : List Value} (hA : RL noNames w args A) : Gives P g A.toArray w fun V w' => (RV noNames w' v V ∧ Below w.heap.size w w') ∧ Fr w.heap.size 4 v V := by
 cases hf : P.funcs[g]? with
 | none => simp [hf] at hn
 | some fn =>
  simp [hf] at hn
  have hb : fn.body.isSome = true := by
   unfold afn at hq
   simp only [hf] at hq
   exact bodyA_some hq
  refine .inl ⟨callFunc_enter hf hb (by simpa using hn) _ _, (afn_ok hm hT hLT hq hA).mono fun e w' he => ?_⟩
  obtain ⟨V, g1, ρ', u, h', g2, g3, rfl⟩ := he
  obtain ⟨k1, k2⟩ := toNu_ok g3 4 g2 hok
  exact ⟨V, g1, ⟨k1, g3.bel⟩, k2⟩
end Go.Proofs.YtimgphlfaninnaaGreat.A
namespace Go.Proofs.YtimgphlfaninnaaGreat.A
open Go Go.RowKit
set_option linter.unusedVariables false
set_option linter.unusedSimpArgs false
set_option maxRecDepth 100000
variable {ρ : Names} {W w : World}
theorem kK {L : List Value} : RL ρ W [] L ↔ L = [] := ⟨fun h => by cases h; rfl, fun h => by subst h; exact .nil⟩
theorem kG {v : AV} {l : List AV} {L : List Value} : RL ρ W (v :: l) L ↔ ∃ V L', L = V :: L' ∧ RV ρ W v V ∧ RL ρ W l L' :=
 ⟨fun h => by cases h with | cons h t => exact ⟨_, _, rfl, h, t⟩, fun ⟨_, _, e, h, t⟩ => by subst e; exact .cons h t⟩
theorem kL {k : IntKind} {n : Int} {V : Value} : RV ρ W (.int k n) V ↔ V = .int k n := ⟨fun h => by cases h; rfl, fun h => by subst h; exact .int _ _⟩
theorem kH {b : Bool} {V : Value} : RV ρ W (.bool b) V ↔ V = .bool b := ⟨fun h => by cases h; rfl, fun h => by subst h; exact .bool _⟩
theorem kS {s : ByteArray} {V : Value} : RV ρ W (.str s) V ↔ V = .string s := ⟨fun h => by cases h; rfl, fun h => by subst h; exact .str _⟩
theorem kM {l : List AV} {V : Value} : RV ρ W (.agg l) V ↔ ∃ L, V = .agg L.toArray ∧ RL ρ W l L := ⟨fun h => by cases h with | agg h => exact ⟨_, rfl, h⟩, fun ⟨_, e, h⟩ => by subst e; exact .agg h⟩
theorem bU {l : List AV} {V : Value} : RV ρ W (.tup l) V ↔ ∃ L, V = .tuple L.toArray ∧ RL ρ W l L := ⟨fun h => by cases h with | tup h => exact ⟨_, rfl, h⟩, fun ⟨_, e, h⟩ => by subst e; exact .tup h⟩
theorem jR {f : Fn} {V : Value} : RV ρ W (.fn f [] []) V ↔ V = .func f #[] #[] := ⟨fun h => by cases h with | fn f ha hb => cases ha; cases hb; rfl, fun h => by subst h; exact .fn f .nil .nil⟩
theorem zM {b : Bool} {A B : Prop} : brc b A B ↔ (b = true → A) ∧ (b = false → B) := by cases b <;> simp [brc]
theorem bS {α : Type} {c : Prop} [Decidable c] {a b : Option α} {r : α} : (if c then a else b) = some r ↔ (c ∧ a = some r) ∨ (¬ c ∧ b = some r) := by split <;> simp_all
noncomputable def gd {α : Type} [Inhabited α] (o : Option α) : α := o.getD default
theorem kD {α : Type} [Inhabited α] (a : α) : gd (some a) = a := rfl
theorem wrap_i64 (x : Int) : IntKind.i64.wrap x = wrap64 x := by rw [IntKind.wrap_i64]; unfold wrap64; rfl
theorem mixed : Tryz.prog.follows .mixedOrders = true := by kernel_rfl
def tab : List (FuncId × Con) → Tab
 | [], _ => none
 | (g, c) :: r, f => if f = g then some c else tab r f
theorem jV {P : Program} : TabOk P (tab []) := fun _ _ h => by cases h
theorem kP {P : Program} {g : FuncId} {c : Con} {r : List (FuncId × Con)} (h : COk P g c) (t : TabOk P (tab r)) : TabOk P (tab ((g, c) :: r)) := fun f con hq => by
 simp only [tab] at hq
 split at hq
 · rename_i e; subst e; simp at hq; subst hq; exact h
 · exact t f con hq
theorem kT {g : FuncId} {fn : Func} (hf : Tryz.prog.funcs[g]? = some fn) (hb : fn.body.isSome = true) (hn : (fn.name == "runtime.NumGoroutine") = false) {A : List Value} {v : AV} {V : Value} {R : World → World → Prop}
 (h : Calls Tryz.prog g A.toArray w fun e w' => e = .returned V ∧ R w w') (hV : ∀ w', RV noNames w' v V) (hR : ∀ w', R w w' → Below w.heap.size w w') (hfl : v.flat 4 = true := by rfl) : Gives Tryz.prog g A.toArray w fun V w' => (RV noNames w' v V ∧ Below w.heap.size w w') ∧ Fr w.heap.size 4 v V :=
 .inl ⟨callFunc_enter hf hb hn _ _, h.mono fun e w' he => ⟨V, he.1, ⟨hV w', hR w' he.2⟩, Fr.flat 4 hfl⟩⟩
theorem gives_of_run {g : FuncId} {A : List Value} {v : AV} {V : Value} (h : (callFunc g A.toArray).run Tryz.prog w = .ok (.value V) w) (hV : ∀ w', RV noNames w' v V) (hfl : v.flat 4 = true := by rfl) : Gives Tryz.prog g A.toArray w fun V w' => (RV noNames w' v V ∧ Below w.heap.size w w') ∧ Fr w.heap.size 4 v V :=
 .inr ⟨V, h, ⟨hV w, Below.refl _ _⟩, Fr.flat 4 hfl⟩
theorem bZ {T : Tab} (hT : TabOk Tryz.prog T) {n : Nat} {g : FuncId} {args : List AV} {v : AV} {V : Value} {A : List Value} (hq : afv PA Tryz.prog T noLoops n g args fun u => u = v) (hA : RL noNames w args A) (hV : ∀ ρ V', RV ρ w v V' → V' = V) :
 Calls Tryz.prog g A.toArray w fun e w' => e = .returned V ∧ Below w.heap.size w w' := by
 have h1 : afn PA Tryz.prog T noLoops n g args fun u _ => u = v := by rw [afv] at hq; exact hq
 have h2 := afn_ok mixed hT (ltOk_none Tryz.prog g) h1 hA
 refine h2.mono fun e w' he => ?_
 obtain ⟨V', e1, ρ', u, h', g2, g3, g4⟩ := he
 subst g4; subst e1
 exact ⟨by rw [hV ρ' V' g2], g3.bel⟩
end Go.Proofs.YtimgphlfaninnaaGreat.A
namespace Go.Proofs.YtimgphlfaninnaaGreat.A
open Go Go.RowKit
set_option linter.unusedVariables false
set_option linter.unusedSimpArgs false
variable {P : Program} {T : Tab} {β : Type} {x : β}
theorem bro_some {b : Bool} {A B : Option β} (h : bro b A B = some x) : (b = true ∧ A = some x) ∨ (b = false ∧ B = some x) := by cases b <;> simp_all [bro]
def InlAd (x : β) (i : Inl (Option β)) (j : Inl Prop) : Prop := ∀ c e h (K : AV → Heap → Option β) (K' : AV → Heap → Prop), i c e h K = some x → (∀ v h', K v h' = some x → K' v h') → j c e h K'
def RecAd (x : β) (i : Code → St → (Ex → St → Option β) → Option β) (j : Code → St → (Ex → St → Prop) → Prop) : Prop :=
 ∀ c st (K : Ex → St → Option β) (K' : Ex → St → Prop), i c st K = some x → (∀ e s, K e s = some x → K' e s) → j c st K'
theorem step_ad {ok : Nat → Nat → Bool} {lk : Lk} (hlk : LkOk lk) {ops : Array Oper} {rd : Nat → Heap → Nat → Option Ob} {nm : Nat → Heap → Nat} {i : Inl (Option β)} {j : Inl Prop} (hi : InlAd x i j) {n : Nat} {st : St} {K : St → Option β} {K' : St → Prop}
 (h : stepA (OA β) P T ok lk ops rd nm i n K st = some x) (hK : ∀ s, K s = some x → K' s) : stepA PA P T ok lk ops rd nm j n K' st := by
 rw [stepA_eq _ P T ok hlk] at h ⊢
 unfold stepB at h ⊢
 split at h
 · rename_i ho; exact hK _ h
 · rename_i o ho
   try simp only [ho]
   split at h
   · cases h
   · rename_i b hb
     try simp only [hb]
     rcases bro_some h with ⟨rfl, h⟩ | ⟨rfl, h⟩
     · simp only [PA, brc]
       split at h
       · rename_i p v f hv
         try simp only [hv]
         cases hok : effOk (ok n) f with
         | false => rw [hok] at h; cases h
         | true =>
         rw [hok] at h
         simp only [Bool.cond_true] at h ⊢
         rcases bro_some h with ⟨rfl, h⟩ | ⟨rfl, h⟩
         · simp only [brc]
           rw [fx_eq, fy_eq, fst_eq] at h ⊢
           exact hK _ h
         · cases h
       · rename_i hv
         try simp only [hv]
         refine hi _ _ _ _ _ h fun v h' hk => ?_
         rw [fv_eq, fst_eq] at hk ⊢
         exact hK _ hk
     · simp only [PA, brc]
       rw [fst_eq] at h ⊢
       exact hK _ h
theorem ops_ad {ok : Nat → Nat → Bool} {lk : Lk} (hlk : LkOk lk) {ops : Array Oper} {rd : Nat → Heap → Nat → Option Ob} {nm : Nat → Heap → Nat} {i : Inl (Option β)} {j : Inl Prop} (hi : InlAd x i j) {K : St → Option β} {K' : St → Prop} (hK : ∀ s, K s = some x → K' s) :
 ∀ (l : List Nat) (st : St), opsA (OA β) P T ok lk ops rd nm i l st K = some x → opsA PA P T ok lk ops rd nm j l st K'
 | [], st, h => hK _ h
 | n :: l, st, h => step_ad hlk hi h fun s hs => ops_ad hlk hi hK l s hs
theorem noInl_ad0 : InlAd x (noInl (OA β)) (noInl PA) := fun _ _ _ _ _ h _ => by cases h
theorem seg_ad {inl : Inl (Option β)} {inl' : Inl Prop} (hi : InlAd x inl inl') {ops : Array Oper} {bf : List Nat} {mask : Nat} {K : St → Option β} {K' : St → Prop} : ∀ (f : Nat) (todo : List Nat) (st : St) (_ : Unit), segA (OA β) P T inl ops bf mask f todo st K = some x → (∀ s, K s = some x → K' s) → segA PA P T inl' ops bf mask f todo st K'
 | 0, _, _, _, h, _ => by cases h
 | f + 1, todo, st, u, h, hK => by
  simp only [segA] at h ⊢
  refine ops_ad (lkOf_ok ops) noInl_ad0 (fun s hs => ?_) _ _ h
  split at hs
  · exact hK _ hs
  · exact step_ad lkAll_ok hi hs fun s2 hs2 => seg_ad hi f _ s2 u hs2 hK
def RfAd (x : β) (i : Rf (Option β)) (j : Rf Prop) : Prop :=
 ∀ f ps a b st (K : Ex → St → Option β) (K' : Ex → St → Prop), i f ps a b st K = some x → (∀ e s, K e s = some x → K' e s) → j f ps a b st K'
def CallAd (x : β) (i : FuncId → List AV → Heap → (AV → Heap → Option β) → Option β) (j : FuncId → List AV → Heap → (AV → Heap → Prop) → Prop) : Prop :=
 ∀ g args h (K : AV → Heap → Option β) (K' : AV → Heap → Prop), i g args h K = some x → (∀ v h', K v h' = some x → K' v h') → j g args h K'
theorem noRf_ad : RfAd x (noRf (OA β)) (noRf PA) := fun _ _ _ _ _ _ _ h _ => by cases h
theorem code_ad {r : Code → St → (Ex → St → Option β) → Option β} {r' : Code → St → (Ex → St → Prop) → Prop} (hr : RecAd x r r') {i : Inl (Option β)} {j : Inl Prop} (hi : InlAd x i j) {rf : Rf (Option β)} {rf' : Rf Prop} (hf : RfAd x rf rf') : RecAd x (codeA (OA β) P T noLoops r i rf) (codeA PA P T noLoops r' j rf') := by
 intro c
 induction c with
 | skip => intro st K K' h hK; exact hK _ _ h
 | label l => intro st K K' h hK; exact hK _ _ h
 | exit id => intro st K K' h hK; exact hK _ _ h
 | ret => intro st K K' h hK; exact hK _ _ h
 | seq a b iha ihb =>
  intro st K K' h hK
  refine iha _ _ _ h fun e s hs => ?_
  cases e with
  | normal => exact ihb _ _ _ hs hK
  | exit n => exact hK _ _ hs
  | ret => exact hK _ _ hs
 | cond c a b iha ihb =>
  intro st K K' h hK
  simp only [codeA] at h ⊢
  split at h
  · rename_i q hq
    try simp only [hq]
    rcases bro_some h with ⟨rfl, h⟩ | ⟨rfl, h⟩
    · have h2 : fst (refC st c true) (fun st => codeA (OA β) P T noLoops r i rf a st K) = some x := h
      rw [fst_eq, refC_eq hq] at h2
      rw [PA.br_t, fst_eq, refC_eq hq]
      exact iha _ _ _ h2 hK
    · have h2 : fst (refC st c false) (fun st => codeA (OA β) P T noLoops r i rf b st K) = some x := h
      rw [fst_eq, refC_eq hq] at h2
      rw [PA.br_f, fst_eq, refC_eq hq]
      exact ihb _ _ _ h2 hK
  · cases h
 | block id b ih =>
  intro st K K' h hK
  refine ih _ _ _ h fun e s hs => ?_
  cases e with
  | normal => exact hK _ _ hs
  | exit n =>
   simp only at hs ⊢
   split at hs
   · rename_i hn; rw [if_pos hn]; exact hK _ _ hs
   · rename_i hn; rw [if_neg hn]; exact hK _ _ hs
  | ret => exact hK _ _ hs
 | loop b ih =>
  intro st K K' h hK
  exact hr _ _ _ _ h hK
 | rangeFunc f ps a b iha ihb =>
  intro st K K' h hK
  exact hf _ _ _ _ _ _ _ h hK
 | region id ops draw =>
  intro st K K' h hK
  simp only [codeA, regionA] at h ⊢
  split at h
  · rename_i hd
    rw [if_pos hd]
    split at h
    · rename_i hok
      rw [if_pos hok]
      exact seg_ad hi _ _ _ () h (fun s hs => hK _ _ hs)
    · cases h
  · rename_i hd
    rw [if_neg hd]
    exact ops_ad lkAll_ok hi (fun s hs => hK _ _ hs) _ _ h
 | _ => intro st K K' h hK; cases h
theorem body_ad {r : Code → St → (Ex → St → Option β) → Option β} {r' : Code → St → (Ex → St → Prop) → Prop} (hr : RecAd x r r') {i : Inl (Option β)} {j : Inl Prop} (hi : InlAd x i j) {rf : Rf (Option β)} {rf' : Rf Prop} (hf : RfAd x rf rf') {fn : Func} {args : List AV} {hp : Heap} {K : AV → Heap → Option β} {K' : AV → Heap → Prop}
 (h : bodyA (OA β) P T noLoops r i rf fn args hp K = some x) (hK : ∀ v h', K v h' = some x → K' v h') : bodyA PA P T noLoops r' j rf' fn args hp K' := by
 unfold bodyA at h ⊢
 split at h
 · rename_i c hc
   try simp only [hc]
   rw [fl_eq, fst_eq] at h ⊢
   refine code_ad hr hi hf _ _ _ _ h fun e s hs => ?_
   have fin : (match shut s.d s.h with | some h2 => (match resA P ⟨s.t, h2, []⟩ fn.results.toList with | some l => fl (OA β) l fun l => K (resV l) h2 | none => (OA β).no) | none => (OA β).no) = some x → (match shut s.d s.h with | some h2 => (match resA P ⟨s.t, h2, []⟩ fn.results.toList with | some l => fl PA l fun l => K' (resV l) h2 | none => PA.no) | none => PA.no) := fun h => by
    split at h
    · rename_i h2 hs2
      try simp only [hs2]
      split at h
      · rename_i l hl
        try simp only [hl]
        rw [fl_eq] at h ⊢
        exact hK _ _ h
      · cases h
    · cases h
   cases e with
   | normal => exact fin hs
   | ret => exact fin hs
   | exit n => cases hs
 · cases h
theorem round_ad {cd : Code → St → (Ex → St → Option β) → Option β} {cd' : Code → St → (Ex → St → Prop) → Prop} (hc : RecAd x cd cd') {n : Nat} {args : List AV} {hp : Heap} {K : AV → Heap → Option β} {K' : AV → Heap → Prop}
 (h : roundA (OA β) cd n args hp K = some x) (hK : ∀ v h', K v h' = some x → K' v h') : roundA PA cd' n args hp K' := by
 unfold roundA at h ⊢
 split at h
 case h_2 => cases h
 rename_i p t ps sg bo hrd
 try simp only [hrd]
 split at h
 case isFalse => cases h
 rename_i hl
 rw [if_pos hl]
 rw [fst_eq] at h ⊢
 refine hc _ _ _ _ h fun e1 s1 h1 => ?_
 cases e1 with
 | exit n => cases h1
 | ret => cases h1
 | normal =>
  dsimp only at h1 ⊢
  split at h1
  case h_2 => cases h1
  rename_i p1 t1 ps1 as1 b1 hrd1
  try simp only [hrd1]
  refine hc _ _ _ _ h1 fun e2 s2 h2 => ?_
  split at h2
  case h_2 => cases h2
  rename_i hrd2
  try simp only [hrd2]
  cases e2 <;> exact hK _ _ h2
theorem range_ad {call : FuncId → List AV → Heap → (AV → Heap → Option β) → Option β} {call' : FuncId → List AV → Heap → (AV → Heap → Prop) → Prop} (hc : CallAd x call call') : RfAd x (rangeA (OA β) call) (rangeA PA call') := by
 intro f ps a b st K K' h hK
 unfold rangeA at h ⊢
 split at h
 case h_2 => cases h
 rename_i g first cap hf
 try simp only [hf]
 refine hc _ _ _ _ _ h fun v h2 hq => ?_
 try dsimp only at hq ⊢
 split at hq
 case h_2 => cases hq
 rename_i s pe t1 ps1 as1 b1 hrd
 try simp only [hrd]
 split at hq
 case isTrue => cases hq
 rename_i hb
 rw [if_neg hb]
 split at hq
 · rw [fst_eq] at hq ⊢; exact hK _ _ hq
 · rw [fst_eq] at hq ⊢; exact hK _ _ hq
 · rw [fst_eq] at hq ⊢; exact hK _ _ hq
 · cases hq
theorem all_ad : ∀ n, (∀ rf rf', RfAd x rf rf' → RecAd x (alp (OA β) P T rf n) (alp PA P T rf' n)) ∧ InlAd x (ainl (OA β) P T n) (ainl PA P T n) ∧ CallAd x (acall (OA β) P T n) (acall PA P T n)
 | 0 => by
  refine ⟨fun rf rf' _ c st K K' h hK => ?_, fun c e hp K K' h hK => ?_, fun g args hp K K' h hK => ?_⟩
  all_goals
   have : (none : Option β) = some x := h
   cases this
 | n + 1 => by
  obtain ⟨h1, h2, h3⟩ := all_ad n
  refine ⟨fun rf rf' hrf c st K K' h hK => ?_, fun c e h K K' hq hK => ?_, fun g args h K K' hq hK => ?_⟩
  · refine code_ad (h1 _ _ hrf) h2 hrf c _ _ _ h fun e s hs => ?_
    cases e with
    | normal => exact h1 _ _ hrf _ _ _ _ hs hK
    | exit n => exact hK _ _ hs
    | ret => exact hK _ _ hs
  · simp only [ainl] at hq ⊢
    split at hq
    · rename_i p v s al hx
      try simp only [hx]
      rcases bro_some hq with ⟨rfl, hq⟩ | ⟨rfl, hq⟩
      · simp only [PA, brc]
        rw [fso_eq, fao_eq] at hq ⊢
        exact hK _ _ hq
      · cases hq
    rename_i hx
    try simp only [hx]
    split at hq
    · rename_i g args hg
      try simp only [hg]
      exact h3 _ _ _ _ _ hq hK
    · rename_i hg
      try simp only [hg]
      split at hq
      · rename_i nl args hy
        try simp only [hy]
        exact round_ad (code_ad (h1 _ _ noRf_ad) h2 noRf_ad) hq hK
      · cases hq
  · simp only [acall] at hq ⊢
    split at hq
    · rename_i fn hf
      try simp only [hf]
      split at hq
      · cases hq
      · rename_i hn
        rw [if_neg hn]
        have hrf := range_ad h3
        exact body_ad (h1 _ _ hrf) h2 hrf hq hK
    · cases hq
theorem afn_ad {n : Nat} {g : FuncId} {args : List AV} {K : AV → Heap → Option β} {K' : AV → Heap → Prop} (h : afn (OA β) P T noLoops n g args K = some x) (hK : ∀ v h', K v h' = some x → K' v h') : afn PA P T noLoops n g args K' := by
 unfold afn at h ⊢
 split at h
 · rename_i fn hf
   try simp only [hf]
   obtain ⟨h1, h2, h3⟩ := all_ad (P := P) (T := T) (x := x) n
   have hrf := range_ad h3
   exact body_ad (h1 _ _ hrf) h2 hrf h hK
 · cases h
theorem runC_ok (hm : P.follows .mixedOrders = true) (rounds : Nat) (hT : TabOk P T) (g : FuncId) : COk P g (runC P rounds T g) := by
 intro args p v hcv hp w A hA
 simp only [runC] at hcv
 split at hcv
 case isFalse => cases hcv
 rename_i hname
 split at hcv
 case h_2 => cases hcv
 rename_i u hu
 split at hcv
 case isFalse => cases hcv
 rename_i hok
 simp at hcv
 obtain ⟨_, rfl⟩ := hcv
 simp only [Bool.and_eq_true] at hok
 have hP : afn PA P T noLoops rounds g args fun z h => toNu h 4 z = u := afn_ad hu fun v h' hk => by rw [fv_eq] at hk; simpa using hk
 exact givesN_ok hm hT hname (ltOk_none P g) hok.1 hP hA
theorem runT_ok (hm : P.follows .mixedOrders = true) (rounds : Nat) {T0 : Tab} (h0 : TabOk P T0) : ∀ k, TabOk P (runT P rounds T0 k)
 | 0 => h0
 | k + 1 => by
  intro g con hc
  simp only [runT] at hc
  split at hc
  · exact h0 g con (by rename_i c hq; rw [hq]; exact hc)
  · simp at hc
    subst hc
    exact runC_ok hm rounds (runT_ok hm rounds h0 k) g
def AV.eqb : Nat → AV → AV → Bool
 | _, .bool a, .bool b => a == b
 | _, .int k a, .int k' b => decide (k = k') && decide (a = b)
 | _, .str a, .str b => decide (a.data.toList = b.data.toList)
 | _, .nilp, .nilp | _, .nilsl, .nilsl | _, .nilmap, .nilmap | _, .nilf, .nilf | _, .nili, .nili => true
 | n + 1, .agg l, .agg m => eql n l m
 | _, _, _ => false
where
 eql (n : Nat) : List AV → List AV → Bool
  | [], [] => true
  | x :: l, y :: m => AV.eqb n x y && eql n l m
  | _, _ => false
mutual
theorem eqb_ok : ∀ (n : Nat) (x y : AV), x.eqb n y = true → x = y
 | n, x, y, h => by
  unfold AV.eqb at h
  split at h
  · simp at h; rw [h]
  · simp at h; obtain ⟨rfl, rfl⟩ := h; rfl
  · rename_i a b
    simp at h
    have : a = b := by
     obtain ⟨⟨a⟩⟩ := a; obtain ⟨⟨b⟩⟩ := b
     simp at h; rw [h]
    rw [this]
  all_goals first | rfl | (cases h; done) | skip
  rw [eql_ok _ _ _ h]
theorem eql_ok : ∀ (n : Nat) (l m : List AV), AV.eqb.eql n l m = true → l = m
 | _, [], [], _ => rfl
 | n, x :: l, y :: m, h => by
  simp only [AV.eqb.eql, Bool.and_eq_true] at h
  rw [eqb_ok n x y h.1, eql_ok n l m h.2]
 | _, [], _ :: _, h => by simp [AV.eqb.eql] at h
 | _, _ :: _, [], h => by simp [AV.eqb.eql] at h
end
def memo : List (List AV × AV) → Con
 | [], _ => none
 | (a, v) :: r, args => if AV.eqb.eql 4 a args then some (true, v) else memo r args
theorem memo_ok (hm : P.follows .mixedOrders = true) {rounds : Nat} (hT : TabOk P T) {g : FuncId} : ∀ {l : List (List AV × AV)}, (∀ x ∈ l, runC P rounds T g x.1 = some (true, x.2)) → COk P g (memo l)
 | [], _ => fun args p v hc => by simp [memo] at hc
 | (a, u) :: r, h => fun args p v hc hp w A hA => by
  simp only [memo] at hc
  split at hc
  · rename_i he
    simp at hc
    obtain ⟨rfl, rfl⟩ := hc
    have hae := eql_ok _ _ _ he
    subst hae
    exact runC_ok hm rounds hT g a true u (h (a, u) (by simp)) rfl w A hA
  · exact memo_ok hm hT (fun x hx => h x (by simp [hx])) args p v hc hp w A hA
theorem memo_nil {g : FuncId} {rounds : Nat} : ∀ x ∈ ([] : List (List AV × AV)), runC P rounds T g x.1 = some (true, x.2) := by simp
theorem memo_cons {g : FuncId} {rounds : Nat} {a : List AV} {v : AV} {r : List (List AV × AV)} (h : runC P rounds T g a = some (true, v)) (t : ∀ x ∈ r, runC P rounds T g x.1 = some (true, x.2)) : ∀ x ∈ (a, v) :: r, runC P rounds T g x.1 = some (true, x.2) := fun x hx => by
 rcases List.mem_cons.1 hx with rfl | hx
 · exact h
 · exact t x hx
theorem flat_okN : ∀ (n : Nat) {v : AV}, v.flat n = true → v.okN n = true := by
 intro n
 induction n with
 | zero => intro v h; cases v <;> simp_all [AV.flat, AV.okN]
 | succ n ih =>
  intro v h
  cases v <;> simp only [AV.flat, AV.okN, Bool.false_eq_true] at h ⊢
  case agg l => exact List.all_eq_true.2 fun x hx => ih (List.all_eq_true.1 h x hx)
  case tup l => exact List.all_eq_true.2 fun x hx => ih (List.all_eq_true.1 h x hx)
  all_goals first | exact h | trivial
theorem calls_of_runC (hm : P.follows .mixedOrders = true) {rounds : Nat} (hT : TabOk P T) {g : FuncId} {args : List AV} {v : AV} (hr : runC P rounds T g args = some (true, v)) (hfl : v.flat 4 = true) {A : List Value} {w : World} (hA : RL noNames w args A) {V : Value} (hV : ∀ {W : World} (V' : Value), RV noNames W v V' → V' = V) :
 Calls P g A.toArray w fun e w' => e = .returned V ∧ Below w.heap.size w w' := by
 simp only [runC] at hr
 split at hr
 case isFalse => cases hr
 split at hr
 case h_2 => cases hr
 rename_i u hu
 split at hr
 case isFalse => cases hr
 simp at hr
 subst hr
 have hP : afn PA P T noLoops rounds g args fun z h => toNu h 4 z = u := afn_ad hu fun v h' hk => by rw [fv_eq] at hk; simpa using hk
 refine (afn_ok hm hT (ltOk_none P g) hP hA).mono fun e w' he => ?_
 obtain ⟨V', g1, ρ', z, h', g2, g3, rfl⟩ := he
 have hok : (toNu h' 4 z).okN 4 = true := flat_okN 4 hfl
 obtain ⟨k1, k2⟩ := toNu_ok g3 4 g2 hok
 subst g1
 exact ⟨by rw [hV V' k1], g3.bel⟩
end Go.Proofs.YtimgphlfaninnaaGreat.A
namespace Go.Proofs.YtimgphlfaninnaaGreat.A
open Go Go.RowKit Go.Proofs
set_option linter.unusedVariables false
set_option maxRecDepth 100000
theorem add64_run (a0 a1 a2 : Int) (w : World) (h0 : 0 ≤ a0) (h1 : 0 ≤ a1) (h2 : 0 ≤ a2) (h3 : a2 ≤ 1) :
 (callFunc 149 #[.int .u64 a0, .int .u64 a1, .int .u64 a2]).run Tryz.prog w = .ok (.value (.tuple #[.int .u64 ((a0 + a1 + a2) % 18446744073709551616), .int .u64 ((a0 + a1 + a2) / 18446744073709551616)])) w := by
 rw [run_callFunc_extern Tryz.func149 (by kernel_rfl) (by kernel_rfl) (by kernel_rfl) (e := add64Entry) (by kernel_rfl), run_add64 a0 a1 a2 h0 h1 h2 h3]
 rfl
def addCon : Con
 | [.int .u64 a, .int .u64 b, .int .u64 c] => some (decide (0 ≤ a) && decide (0 ≤ b) && decide (0 ≤ c) && decide (c ≤ 1), .tup [.int .u64 ((a + b + c) % 18446744073709551616), .int .u64 ((a + b + c) / 18446744073709551616)])
 | _ => none
theorem addCon_ok : COk Tryz.prog 149 addCon := by
 intro args p v hc hp w A hA
 unfold addCon at hc
 split at hc
 · rename_i a b c
   simp only [Option.some.injEq, Prod.mk.injEq] at hc
   obtain ⟨rfl, rfl⟩ := hc
   simp only [Bool.and_eq_true, decide_eq_true_eq] at hp
   obtain ⟨⟨⟨h0, h1⟩, h2⟩, h3⟩ := hp
   obtain rfl : A = [.int .u64 a, .int .u64 b, .int .u64 c] := by simpa [kG, kK, kL] using hA
   exact gives_of_run (add64_run a b c w h0 h1 h2 h3) (fun _ => by simp [kG, kK, kL, bU])
 · cases hc
noncomputable def TK0 : Tab := tab [(149, addCon)]
theorem TK0_ok : TabOk Tryz.prog TK0 := kP addCon_ok jV
def M0 : List (List AV × AV) := [([], .int .i64 (-2453698))]
theorem M0_0 : runC Tryz.prog 450 (runT Tryz.prog 450 TK0 8) 108 [] = some (true, .int .i64 (-2453698)) := by kernel_rfl
theorem M0_ok : COk Tryz.prog 108 (memo M0) := memo_ok mixed (runT_ok mixed 450 TK0_ok 8) (memo_cons M0_0 (memo_nil))
noncomputable def TK1 : Tab := tab [(149, addCon), (108, memo M0)]
theorem TK1_ok : TabOk Tryz.prog TK1 := kP addCon_ok (kP M0_ok (jV))
def M1 : List (List AV × AV) := [([], .int .i64 106754173)]
theorem M1_0 : runC Tryz.prog 450 (runT Tryz.prog 450 TK1 8) 166 [] = some (true, .int .i64 106754173) := by kernel_rfl
theorem M1_ok : COk Tryz.prog 166 (memo M1) := memo_ok mixed (runT_ok mixed 450 TK1_ok 8) (memo_cons M1_0 (memo_nil))
noncomputable def TK2 : Tab := tab [(149, addCon), (108, memo M0), (166, memo M1)]
theorem TK2_ok : TabOk Tryz.prog TK2 := kP addCon_ok (kP M0_ok (kP M1_ok (jV)))
def M2 : List (List AV × AV) := [([(.int .i64 2024)], .int .i64 8766)]
theorem M2_0 : runC Tryz.prog 450 (runT Tryz.prog 450 TK2 8) 167 [(.int .i64 2024)] = some (true, .int .i64 8766) := by kernel_rfl
theorem M2_ok : COk Tryz.prog 167 (memo M2) := memo_ok mixed (runT_ok mixed 450 TK2_ok 8) (memo_cons M2_0 (memo_nil))
noncomputable def TK3 : Tab := tab [(149, addCon), (108, memo M0), (166, memo M1), (167, memo M2)]
theorem TK3_ok : TabOk Tryz.prog TK3 := kP addCon_ok (kP M0_ok (kP M1_ok (kP M2_ok (jV))))
def M3 : List (List AV × AV) := [([(.int .i64 2024), (.int .i64 10), (.int .i64 27), (.int .i64 1800000000)], .agg [.int .i64 0, .int .i64 783304200000000]), ([(.int .i64 2024), (.int .i64 3), (.int .i64 30), (.int .i64 39600000000)], .agg [.int .i64 0, .int .i64 765111600000000]), ([(.int .i64 2024), (.int .i64 3), (.int .i64 1), (.int .i64 0)], .agg [.int .i64 0, .int .i64 762566400000000]), ([(.int .i64 2024), (.int .i64 1), (.int .i64 31), (.int .i64 0)], .agg [.int .i64 0, .int .i64 759974400000000]), ([(.int .i64 2024), (.int .i64 10), (.int .i64 27), (.int .i64 9000000000)], .agg [.int .i64 0, .int .i64 783311400000000]), ([(.int .i64 2024), (.int .i64 3), (.int .i64 31), (.int .i64 36000000000)], .agg [.int .i64 0, .int .i64 765194400000000]), ([(.int .i64 2024), (.int .i64 3), (.int .i64 31), (.int .i64 39600000000)], .agg [.int .i64 0, .int .i64 765198000000000])]
theorem M3_0 : runC Tryz.prog 450 (runT Tryz.prog 450 TK3 8) 41 [(.int .i64 2024), (.int .i64 10), (.int .i64 27), (.int .i64 1800000000)] = some (true, .agg [.int .i64 0, .int .i64 783304200000000]) := by kernel_rfl
theorem M3_1 : runC Tryz.prog 450 (runT Tryz.prog 450 TK3 8) 41 [(.int .i64 2024), (.int .i64 3), (.int .i64 30), (.int .i64 39600000000)] = some (true, .agg [.int .i64 0, .int .i64 765111600000000]) := by kernel_rfl
theorem M3_2 : runC Tryz.prog 450 (runT Tryz.prog 450 TK3 8) 41 [(.int .i64 2024), (.int .i64 3), (.int .i64 1), (.int .i64 0)] = some (true, .agg [.int .i64 0, .int .i64 762566400000000]) := by kernel_rfl
theorem M3_3 : runC Tryz.prog 450 (runT Tryz.prog 450 TK3 8) 41 [(.int .i64 2024), (.int .i64 1), (.int .i64 31), (.int .i64 0)] = some (true, .agg [.int .i64 0, .int .i64 759974400000000]) := by kernel_rfl
theorem M3_4 : runC Tryz.prog 450 (runT Tryz.prog 450 TK3 8) 41 [(.int .i64 2024), (.int .i64 10), (.int .i64 27), (.int .i64 9000000000)] = some (true, .agg [.int .i64 0, .int .i64 783311400000000]) := by kernel_rfl
theorem M3_5 : runC Tryz.prog 450 (runT Tryz.prog 450 TK3 8) 41 [(.int .i64 2024), (.int .i64 3), (.int .i64 31), (.int .i64 36000000000)] = some (true, .agg [.int .i64 0, .int .i64 765194400000000]) := by kernel_rfl
theorem M3_6 : runC Tryz.prog 450 (runT Tryz.prog 450 TK3 8) 41 [(.int .i64 2024), (.int .i64 3), (.int .i64 31), (.int .i64 39600000000)] = some (true, .agg [.int .i64 0, .int .i64 765198000000000]) := by kernel_rfl
theorem M3_ok : COk Tryz.prog 41 (memo M3) := memo_ok mixed (runT_ok mixed 450 TK3_ok 8) (memo_cons M3_0 (memo_cons M3_1 (memo_cons M3_2 (memo_cons M3_3 (memo_cons M3_4 (memo_cons M3_5 (memo_cons M3_6 (memo_nil))))))))
noncomputable def TK4 : Tab := tab [(149, addCon), (108, memo M0), (166, memo M1), (167, memo M2), (41, memo M3)]
theorem TK4_ok : TabOk Tryz.prog TK4 := kP addCon_ok (kP M0_ok (kP M1_ok (kP M2_ok (kP M3_ok (jV)))))
def M4 : List (List AV × AV) := [([(.agg [.int .i64 0, .int .i64 762566400000000]), (.agg [.int .i64 0, .int .i64 759974400000000])], .tup [.agg [.int .i64 0, .int .i64 1, .int .i64 1, .int .i64 0], .int .i64 0])]
theorem M4_0 : runC Tryz.prog 450 (runT Tryz.prog 450 TK4 8) 23 [(.agg [.int .i64 0, .int .i64 762566400000000]), (.agg [.int .i64 0, .int .i64 759974400000000])] = some (true, .tup [.agg [.int .i64 0, .int .i64 1, .int .i64 1, .int .i64 0], .int .i64 0]) := by kernel_rfl
theorem M4_ok : COk Tryz.prog 23 (memo M4) := memo_ok mixed (runT_ok mixed 450 TK4_ok 8) (memo_cons M4_0 (memo_nil))
noncomputable def TK5 : Tab := tab [(149, addCon), (108, memo M0), (166, memo M1), (167, memo M2), (41, memo M3), (23, memo M4)]
theorem TK5_ok : TabOk Tryz.prog TK5 := kP addCon_ok (kP M0_ok (kP M1_ok (kP M2_ok (kP M3_ok (kP M4_ok (jV))))))
theorem known_run : runC Tryz.prog 450 (runT Tryz.prog 450 TK5 8) 16 [] = some (true, .bool true) := by kernel_rfl
theorem known_calls (w : World) : Calls Tryz.prog 16 #[] w fun e w' => e = .returned (.bool true) ∧ Below w.heap.size w w' := calls_of_runC mixed (runT_ok mixed 450 TK5_ok 8) known_run rfl .nil (fun V hV => by simpa [kH] using hV)
end Go.Proofs.YtimgphlfaninnaaGreat.A
namespace Go.Proofs.YtimgphlfaninnaaGreat.P
open Go.RowKit Go.Proofs.YtimgphlfaninnaaGreatW.PrintWords Go.Proofs.YtimgphlfaninnaaGreatW.PrintLast Go.Proofs.YtimgphlfaninnaaGreatW.PrintMore
 attribute [local go_sem] jQ jP zB zC jE jD jO jN
set_option linter.unusedVariables false
set_option linter.unusedSimpArgs false
def errW : Option Int → Value
 | none => .nilIface
 | some c => .iface 0 (.int .i64 c)
theorem zR : errW none = .nilIface := rfl
theorem zS (c : Int) : errW (some c) = .iface 0 (.int .i64 c) := rfl
theorem setCell_drewN_ (w : World) (n : Nat) (a : Addr) (v : Value) : (w.drewN n).setCell a v = (w.setCell a v).drewN n := rfl
theorem info2 : (Tryz.prog.info? 2).map (fun i => (i.zero, i.size, i.bytes)) = some (some (.int .i64 0), 1, 8) := by kernel_rfl
theorem info3 : (Tryz.prog.info? 3).map (fun i => (i.zero, i.size, i.bytes)) = some (some (.int .i64 0), 1, 8) := by kernel_rfl
theorem info23 : (Tryz.prog.info? 23).map (fun i => (i.zero, i.size, i.bytes)) = some (some (.agg #[(.int .i64 0), (.int .i64 0), (.bool false), (.string ⟨#[]⟩)]), 4, 40) := by kernel_rfl
theorem info155 : (Tryz.prog.info? 155).map (fun i => (i.zero, i.size, i.bytes)) = some (some (.int .u64 0), 1, 8) := by kernel_rfl
structure S23 where
 f0 : Int
 f1 : Int
 f2 : Bool
 f3 : ByteArray
def z23 : S23 := ⟨(0 : Int), (0 : Int), false, (⟨#[]⟩ : ByteArray)⟩
def k23 : Kd S23 := Kd.iso (Kd.pair (Kd.int .i64) (Kd.pair (Kd.int .i64) (Kd.pair Kd.bool Kd.string))) (fun x : S23 => (x.f0, x.f1, x.f2, x.f3))
theorem k23_open {w : World} {x : S23} {cs : List Value} (h : k23.K w x cs) : cs = [.int .i64 x.f0, .int .i64 x.f1, .bool x.f2, .string x.f3] := by
 obtain ⟨_, _, rfl, rfl, ⟨_, _, rfl, rfl, ⟨_, _, rfl, rfl, rfl⟩⟩⟩ := h
 exact rfl
theorem k23_openM {w : World} {base : Nat} {ok : Nat → Prop} {x : S23} {cs : List Value} (h : k23.M w base ok x cs) : cs = [.int .i64 x.f0, .int .i64 x.f1, .bool x.f2, .string x.f3] := by
 obtain ⟨_, _, rfl, rfl, ⟨_, _, rfl, rfl, ⟨_, _, rfl, rfl, rfl⟩⟩⟩ := h
 exact rfl
theorem k23_mk (w : World) (x : S23)  : k23.K w x [.int .i64 x.f0, .int .i64 x.f1, .bool x.f2, .string x.f3] := ⟨[.int .i64 x.f0], [.int .i64 x.f1, .bool x.f2, .string x.f3], rfl, rfl, ⟨[.int .i64 x.f1], [.bool x.f2, .string x.f3], rfl, rfl, ⟨[.bool x.f2], [.string x.f3], rfl, rfl, rfl⟩⟩⟩
theorem k23_mkM (w : World) (base : Nat) (ok : Nat → Prop) (x : S23)  : k23.M w base ok x [.int .i64 x.f0, .int .i64 x.f1, .bool x.f2, .string x.f3] := ⟨[.int .i64 x.f0], [.int .i64 x.f1, .bool x.f2, .string x.f3], rfl, rfl, ⟨[.int .i64 x.f1], [.bool x.f2, .string x.f3], rfl, rfl, ⟨[.bool x.f2], [.string x.f3], rfl, rfl, rfl⟩⟩⟩
def rd_T23 (xs : List S23) (i : Int) : S23 := xs.getD i.toNat z23
theorem at_T23 {w : World} {A : Option Addr} {n : Nat} {xs : List S23} (h : Kd.C k23 w A n xs) (i : Int) (h0 : 0 ≤ i) (h1 : i < n) : ∃ ad , A = some ad ∧ w.cell? (ad.add (i.toNat * 4)) = some (.int .i64 (rd_T23 xs i).f0) ∧ w.cell? ⟨(ad.add (i.toNat * 4)).block, (ad.add (i.toNat * 4)).off + 1, none⟩ = some (.int .i64 (rd_T23 xs i).f1) ∧ w.cell? ⟨(ad.add (i.toNat * 4)).block, (ad.add (i.toNat * 4)).off + 2, none⟩ = some (.bool (rd_T23 xs i).f2) ∧ w.cell? ⟨(ad.add (i.toNat * 4)).block, (ad.add (i.toNat * 4)).off + 3, none⟩ = some (.string (rd_T23 xs i).f3) := by
 obtain ⟨ad, c, e, _, hK, hc0⟩ := Kd.C_get h z23 i h0 h1
 have hc : ∀ j u, c[j]? = some u → w.cell? (ad.add (i.toNat * 4 + j)) = some u := hc0
 obtain rfl := k23_open hK
 exact ⟨ad, e, hc 0 _ rfl, by rw [← add_field _ _ 1 (by omega)]; exact hc 1 _ rfl, by rw [← add_field _ _ 2 (by omega)]; exact hc 2 _ rfl, by rw [← add_field _ _ 3 (by omega)]; exact hc 3 _ rfl⟩
theorem eqA59 (d : Nat) (w : World) (x0 y0 : Int) (x1 y1 : Int) (x2 y2 : Int) (x3 y3 : Int) :
 (Op.equalIn (d + 2) 59 (.agg #[.int .i64 x0, .int .i64 x1, .int .i64 x2, .int .i64 x3]) (.agg #[.int .i64 y0, .int .i64 y1, .int .i64 y2, .int .i64 y3])).run Tryz.prog w = .ok (x0 == y0 && (x1 == y1 && (x2 == y2 && (x3 == y3)))) w := by
 refine eqA_of Tryz.underlying59 (by kernel_rfl) ?_
 refine eqf_cons (by rfl) (by go_simp; rfl) (by go_simp; rfl) (by go_simp) ?_
 refine eqf_cons (by rfl) (by go_simp; rfl) (by go_simp; rfl) (by go_simp) ?_
 refine eqf_cons (by rfl) (by go_simp; rfl) (by go_simp; rfl) (by go_simp) ?_
 exact eqf_last (by rfl) (by go_simp; rfl) (by go_simp; rfl) (by go_simp)
theorem eqA36 (d : Nat) (w : World) (x0 y0 : Int) (x1 y1 : Int) :
 (Op.equalIn (d + 2) 36 (.agg #[.int .i64 x0, .int .i64 x1]) (.agg #[.int .i64 y0, .int .i64 y1])).run Tryz.prog w = .ok (x0 == y0 && (x1 == y1)) w := by
 refine eqA_of Tryz.underlying36 (by kernel_rfl) ?_
 refine eqf_cons (by rfl) (by go_simp; rfl) (by go_simp; rfl) (by go_simp) ?_
 exact eqf_last (by rfl) (by go_simp; rfl) (by go_simp; rfl) (by go_simp)
end Go.Proofs.YtimgphlfaninnaaGreat.P
namespace Go.Proofs.YtimgphlfaninnaaGreat.P
open Go.RowKit Go.Proofs.YtimgphlfaninnaaGreatW.PrintWords Go.Proofs.YtimgphlfaninnaaGreatW.PrintLast Go.Proofs.YtimgphlfaninnaaGreatW.PrintMore
open Go.Proofs.YtimgphlfaninnaaGreat.A
 attribute [local go_sem] jQ jP zB zC jE jD jO jN
set_option linter.unusedVariables false
set_option linter.unusedSimpArgs false
def bX.j0 : Nat → Bool → Bool → Int → Int → Option (Int × Int)
 | 0, _, _, _, _ => none
 | k + 1, x0, x10, x102000, x102001 => if x10 = true then (some (wrap64 (IntKind.u64.wrap (-x102001)), 0)) else (if x0 = true then (some (0, 10)) else (if x102001 > 9223372036854775807 then (some (0, 10)) else (some (wrap64 (x102001), 0))))
def bX.f (k : Nat) (a0 : Bool) (a1_0 : Int) (a1_1 : Int) : Option (Int × Int) := if a1_0 = 0 then (if a0 = true then (bX.j0 k a0 (decide (a1_1 ≤ 9223372036854775808)) a1_0 a1_1) else (bX.j0 k a0 false a1_0 a1_1)) else (some (0, 10))
theorem bX.mono_l : ∀ k, (∀ y0 y1 y2 y3, LeO (bX.j0 k y0 y1 y2 y3) (bX.j0 (k + 1) y0 y1 y2 y3))
 | 0 => fun _ _ _ _ r h => by simp [bX.j0] at h
 | k + 1 => by
  have ih0 := bX.mono_l k
  · intro y0 y1 y2 y3
    unfold bX.j0
    repeat' first
    | (with_reducible exact ih0 _ _ _ _)
    | (with_reducible exact LeO.refl _)
    | (with_reducible exact LeO.none _)
    | (with_reducible refine LeO.ite ?_ ?_)
    | (with_reducible refine LeO.bind ?_ (fun _ => ?_))
    | exact ih0 _ _ _ _
    | exact LeO.none _
    | refine LeO.ite ?_ ?_
    | refine LeO.bind ?_ (fun _ => ?_)
theorem bX.mono : ∀ a0 a1 a2 k, LeO (bX.f k a0 a1 a2) (bX.f (k + 1) a0 a1 a2) := by
 intro a0 a1 a2 k
 have ih0 := bX.mono_l k
 unfold bX.f
 repeat' first
  | (with_reducible exact ih0 _ _ _ _)
  | (with_reducible exact LeO.refl _)
  | (with_reducible exact LeO.none _)
  | (with_reducible refine LeO.ite ?_ ?_)
  | (with_reducible refine LeO.bind ?_ (fun _ => ?_))
  | exact ih0 _ _ _ _
  | exact LeO.none _
  | refine LeO.ite ?_ ?_
  | refine LeO.bind ?_ (fun _ => ?_)
set_option maxRecDepth 100000 in
theorem bX.vc (k : Nat) (a0 : Bool) (a1_0 : Int) (a1_1 : Int) (K : AV → Prop) : afv PA Tryz.prog (tab []) noLoops 2 116 [.bool a0, .agg [.int .u64 a1_0, .int .u64 a1_1]] K = (brc (a1_0 != 0) (K (AV.tup [AV.int IntKind.i64 0, AV.int IntKind.i64 10])) (brc a0 (brc (decide (a1_1 ≤ 9223372036854775808)) (K (AV.tup [AV.int IntKind.i64 (IntKind.wrap IntKind.i64 (IntKind.wrap IntKind.u64 (0 - a1_1))), AV.int IntKind.i64 0])) (brc a0 (K (AV.tup [AV.int IntKind.i64 0, AV.int IntKind.i64 10])) (brc (decide (a1_1 > 9223372036854775807)) (K (AV.tup [AV.int IntKind.i64 0, AV.int IntKind.i64 10])) (K (AV.tup [AV.int IntKind.i64 (IntKind.wrap IntKind.i64 a1_1), AV.int IntKind.i64 0]))))) (brc a0 (K (AV.tup [AV.int IntKind.i64 0, AV.int IntKind.i64 10])) (brc (decide (a1_1 > 9223372036854775807)) (K (AV.tup [AV.int IntKind.i64 0, AV.int IntKind.i64 10])) (K (AV.tup [AV.int IntKind.i64 (IntKind.wrap IntKind.i64 a1_1), AV.int IntKind.i64 0])))))) := by kernel_rfl
set_option maxHeartbeats 1000000 in
set_option maxRecDepth 100000 in
theorem bX.calls (k : Nat) (a0 : Bool) (a1_0 : Int) (a1_1 : Int) (r1 : Int) (r2 : Int) (w : World) (h : bX.f k a0 a1_0 a1_1 = some (r1, r2)) :
 Calls Tryz.prog 116 #[.bool a0, .agg #[.int .u64 a1_0, .int .u64 a1_1]] w fun e w' => e = .returned (.tuple #[.int .i64 r1, .int .i64 r2]) ∧ Below w.heap.size w w' := by
 refine bZ (A := [.bool a0, .agg #[.int .u64 a1_0, .int .u64 a1_1]]) (v := .tup [.int .i64 r1, .int .i64 r2]) (jV) ((bX.vc k a0 a1_0 a1_1 _).mpr ?_) (by simp [kG, kK, kL, kH, kS, kM, jR]) (fun ρ V' hV => by simpa [kG, kK, kL, kH, kS, kM, bU] using hV)
 unfold bX.f at h
 cases k with
 | zero =>
  (try simp only [bX.j0] at h)
  (try simp only [bne, Option.bind_eq_some_iff, bS] at h)
  (try simp only [bne, zM, wrap_i64])
  first
   | grind (splits := 60) [kD]
   | ((repeat' (first | (have or_ : Or _ _ := h; clear or_; rcases h with h | h) | (have or_ : Exists _ := h; clear or_; obtain ⟨_, h⟩ := h) | (have or_ : And _ _ := h; clear or_; obtain ⟨hq_, h⟩ := h))) <;> (try simp only [Option.some.injEq, Prod.mk.injEq, reduceCtorEq] at h) <;> (try subst_vars) <;> first | (simp_all [kD] <;> (try omega) <;> rcases hb0 : decide (a1_1 ≤ 9223372036854775808) with _ | _ <;> rcases hb1 : decide (a1_1 > 9223372036854775807) with _ | _ <;> simp_all [kD] <;> done) | grind (splits := 60) [kD])
   | (intros; subst_vars; simp_all [kD]; done)
 | succ k =>
  (try simp only [bX.j0] at h)
  (try simp only [bne, Option.bind_eq_some_iff, bS] at h)
  (try simp only [bne, zM, wrap_i64])
  first
   | grind (splits := 60) [kD]
   | ((repeat' (first | (have or_ : Or _ _ := h; clear or_; rcases h with h | h) | (have or_ : Exists _ := h; clear or_; obtain ⟨_, h⟩ := h) | (have or_ : And _ _ := h; clear or_; obtain ⟨hq_, h⟩ := h))) <;> (try simp only [Option.some.injEq, Prod.mk.injEq, reduceCtorEq] at h) <;> (try subst_vars) <;> first | (simp_all [kD] <;> (try omega) <;> rcases hb0 : decide (a1_1 ≤ 9223372036854775808) with _ | _ <;> rcases hb1 : decide (a1_1 > 9223372036854775807) with _ | _ <;> simp_all [kD] <;> done) | grind (splits := 60) [kD])
   | (intros; subst_vars; simp_all [kD]; done)
noncomputable def bX.con (k : Nat) : Con
 | [.bool a0, .agg [.int .u64 a1_0, .int .u64 a1_1]] => some ((bX.f k a0 a1_0 a1_1).isSome, .tup [.int .i64 (gd (bX.f k a0 a1_0 a1_1)).1, .int .i64 (gd (bX.f k a0 a1_0 a1_1)).2])
 | _ => none
set_option maxRecDepth 100000 in
theorem bX.cok (k : Nat) : COk Tryz.prog 116 (bX.con k) := by
 intro args p v hc hp w A hA
 unfold bX.con at hc
 split at hc
 · rename_i a0 a1_0 a1_1
   simp only [Option.some.injEq, Prod.mk.injEq] at hc
   obtain ⟨rfl, rfl⟩ := hc
   rcases hf : bX.f k a0 a1_0 a1_1 with _ | ⟨r1, r2⟩
   · rw [hf] at hp; cases hp
   obtain rfl : A = [.bool a0, .agg #[.int .u64 a1_0, .int .u64 a1_1]] := by simpa [kG, kK, kL, kH, kS, kM, jR] using hA
   exact kT (fn := Tryz.f116) Tryz.func116 (by kernel_rfl) (by kernel_rfl) (bX.calls _ _ _ _ _ _ w hf) (fun _ => by simp [kD, kG, kK, kL, kH, kS, kM, bU]) (fun _ h => h)
 · cases hc
def qX.f (a0 : Int) : Option (Int) := if a0 < 0 then (some (IntKind.u64.wrap (-(IntKind.u64.wrap (a0))))) else (some (IntKind.u64.wrap (a0)))
set_option maxHeartbeats 8000000 in
set_option maxRecDepth 100000 in
theorem qX.calls (a0 : Int) (r : Int) (w : World) (h : qX.f a0 = some r) :
 Calls Tryz.prog 147 #[.int .i64 a0] w fun e w' => e = .returned (.int .u64 r) ∧ Drawn0 w w' := by
 have H : (if a0 < 0 then (some (IntKind.u64.wrap (-(IntKind.u64.wrap (a0))))) else (some (IntKind.u64.wrap (a0)))) = some r := h
 clear h
 by_cases c2 : a0 < 0
 · rw [if_pos c2] at H
   have c2b0 : decide (a0 < 0) = true := decide_eq_true c2
   clear c2
   obtain rfl := Option.some.inj H
   go_enter Tryz.func147, Tryz.ntmps147
   go_wp2
   go_ret
   exact ⟨by first | rfl | (simp; done) | (simp [*]; done), by repeat (first | exact Drawn0.refl _ | apply Drawn0.step)⟩
 · rw [if_neg c2] at H
   have c2b0 : decide (a0 < 0) = false := decide_eq_false c2
   clear c2
   obtain rfl := Option.some.inj H
   go_enter Tryz.func147, Tryz.ntmps147
   go_wp2
   go_ret
   exact ⟨by first | rfl | (simp; done) | (simp [*]; done), by repeat (first | exact Drawn0.refl _ | apply Drawn0.step)⟩
noncomputable def qX.con : Con
 | [.int .i64 a0] => some ((qX.f a0).isSome, .int .u64 (gd (qX.f a0)))
 | _ => none
set_option maxRecDepth 100000 in
theorem qX.cok : COk Tryz.prog 147 (qX.con) := by
 intro args p v hc hp w A hA
 unfold qX.con at hc
 split at hc
 · rename_i a0
   simp only [Option.some.injEq, Prod.mk.injEq] at hc
   obtain ⟨rfl, rfl⟩ := hc
   rcases hf : qX.f a0 with _ | r
   · rw [hf] at hp; cases hp
   obtain rfl : A = [.int .i64 a0] := by simpa [kG, kK, kL, kH, kS, kM, jR] using hA
   exact kT (fn := Tryz.f147) Tryz.func147 (by kernel_rfl) (by kernel_rfl) (qX.calls _ _ w hf) (fun _ => by simp [kD, kG, kK, kL, kH, kS, kM, bU]) (fun _ h => h.below)
 · cases hc
def qW.f (a0 : Int) (a1 : Int) : Option (Int × Int) := some (IntKind.u64.wrap ((IntKind.u64.wrap ((IntKind.u64.wrap ((a0 / 4294967296) * (a1 / 4294967296))) + ((IntKind.u64.wrap ((IntKind.u64.wrap ((a0 / 4294967296) * (Go.bits .and .u64 a1 4294967295))) + ((IntKind.u64.wrap ((Go.bits .and .u64 a0 4294967295) * (Go.bits .and .u64 a1 4294967295))) / 4294967296))) / 4294967296))) + ((IntKind.u64.wrap ((Go.bits .and .u64 (IntKind.u64.wrap ((IntKind.u64.wrap ((a0 / 4294967296) * (Go.bits .and .u64 a1 4294967295))) + ((IntKind.u64.wrap ((Go.bits .and .u64 a0 4294967295) * (Go.bits .and .u64 a1 4294967295))) / 4294967296))) 4294967295) + (IntKind.u64.wrap ((Go.bits .and .u64 a0 4294967295) * (a1 / 4294967296))))) / 4294967296)), IntKind.u64.wrap (a0 * a1))
set_option maxHeartbeats 8000000 in
set_option maxRecDepth 100000 in
theorem qW.calls (a0 : Int) (a1 : Int) (r1 : Int) (r2 : Int) (w : World) (h : qW.f a0 a1 = some (r1, r2)) :
 Calls Tryz.prog 153 #[.int .u64 a0, .int .u64 a1] w fun e w' => e = .returned (.tuple #[.int .u64 r1, .int .u64 r2]) ∧ Drawn0 w w' := by
 have H : (some (IntKind.u64.wrap ((IntKind.u64.wrap ((IntKind.u64.wrap ((a0 / 4294967296) * (a1 / 4294967296))) + ((IntKind.u64.wrap ((IntKind.u64.wrap ((a0 / 4294967296) * (Go.bits .and .u64 a1 4294967295))) + ((IntKind.u64.wrap ((Go.bits .and .u64 a0 4294967295) * (Go.bits .and .u64 a1 4294967295))) / 4294967296))) / 4294967296))) + ((IntKind.u64.wrap ((Go.bits .and .u64 (IntKind.u64.wrap ((IntKind.u64.wrap ((a0 / 4294967296) * (Go.bits .and .u64 a1 4294967295))) + ((IntKind.u64.wrap ((Go.bits .and .u64 a0 4294967295) * (Go.bits .and .u64 a1 4294967295))) / 4294967296))) 4294967295) + (IntKind.u64.wrap ((Go.bits .and .u64 a0 4294967295) * (a1 / 4294967296))))) / 4294967296)), IntKind.u64.wrap (a0 * a1))) = some (r1, r2) := h
 clear h
 simp only [Option.some.injEq, Prod.mk.injEq] at H
 obtain ⟨rfl, rfl⟩ := H
 go_enter Tryz.func153, Tryz.ntmps153
 go_wp2
 go_ret2
 exact ⟨by first | rfl | (simp; done) | (simp [*]; done), by repeat (first | exact Drawn0.refl _ | apply Drawn0.step)⟩
noncomputable def qW.con : Con
 | [.int .u64 a0, .int .u64 a1] => some ((qW.f a0 a1).isSome, .tup [.int .u64 (gd (qW.f a0 a1)).1, .int .u64 (gd (qW.f a0 a1)).2])
 | _ => none
set_option maxRecDepth 100000 in
theorem qW.cok : COk Tryz.prog 153 (qW.con) := by
 intro args p v hc hp w A hA
 unfold qW.con at hc
 split at hc
 · rename_i a0 a1
   simp only [Option.some.injEq, Prod.mk.injEq] at hc
   obtain ⟨rfl, rfl⟩ := hc
   rcases hf : qW.f a0 a1 with _ | ⟨r1, r2⟩
   · rw [hf] at hp; cases hp
   obtain rfl : A = [.int .u64 a0, .int .u64 a1] := by simpa [kG, kK, kL, kH, kS, kM, jR] using hA
   exact kT (fn := Tryz.f153) Tryz.func153 (by kernel_rfl) (by kernel_rfl) (qW.calls _ _ _ _ w hf) (fun _ => by simp [kD, kG, kK, kL, kH, kS, kM, bU]) (fun _ h => h.below)
 · cases hc
def zQ.f (a0 : Int) (a1 : Int) : Option (Int × Int) := (qX.f a0).bind fun t103 => ((qX.f a1).bind fun t104 => ((qW.f t103 t104).bind fun bt105 => (some (bt105.1, bt105.2))))
set_option maxRecDepth 100000 in
theorem zQ.vc (a0 : Int) (a1 : Int) (K : AV → Prop) : afv PA Tryz.prog (tab [(147, qX.con), (153, qW.con)]) noLoops 2 117 [.int .i64 a0, .int .i64 a1] K = (brc (Option.isSome (qX.f a0)) (∀ (m0 : Int), m0 = gd (qX.f a0) → brc (Option.isSome (qX.f a1)) (∀ (m1 : Int), m1 = gd (qX.f a1) → brc (Option.isSome (qW.f m0 m1)) (∀ (m2 : Int), m2 = Prod.fst (gd (qW.f m0 m1)) → ∀ (m3 : Int), m3 = Prod.snd (gd (qW.f m0 m1)) → K (AV.agg [AV.int IntKind.u64 m2, AV.int IntKind.u64 m3])) False) False) False) := by kernel_rfl
set_option maxHeartbeats 1000000 in
set_option maxRecDepth 100000 in
theorem zQ.calls (a0 : Int) (a1 : Int) (r1 : Int) (r2 : Int) (w : World) (h : zQ.f a0 a1 = some (r1, r2)) :
 Calls Tryz.prog 117 #[.int .i64 a0, .int .i64 a1] w fun e w' => e = .returned (.agg #[.int .u64 r1, .int .u64 r2]) ∧ Below w.heap.size w w' := by
 refine bZ (A := [.int .i64 a0, .int .i64 a1]) (v := .agg [.int .u64 r1, .int .u64 r2]) (kP (qX.cok) (kP (qW.cok) (jV))) ((zQ.vc a0 a1 _).mpr ?_) (by simp [kG, kK, kL, kH, kS, kM, jR]) (fun ρ V' hV => by simpa [kG, kK, kL, kH, kS, kM, bU] using hV)
 unfold zQ.f at h
 (try simp only [bne, Option.bind_eq_some_iff, bS] at h)
 (try simp only [bne, zM, wrap_i64])
 first
  | grind (splits := 60) [kD]
  | ((repeat' (first | (have or_ : Or _ _ := h; clear or_; rcases h with h | h) | (have or_ : Exists _ := h; clear or_; obtain ⟨_, h⟩ := h) | (have or_ : And _ _ := h; clear or_; obtain ⟨hq_, h⟩ := h))) <;> (try simp only [Option.some.injEq, Prod.mk.injEq, reduceCtorEq] at h) <;> (try subst_vars) <;> first | (simp_all [kD] <;> (try omega) <;> done) | grind (splits := 60) [kD])
  | (intros; subst_vars; simp_all [kD]; done)
noncomputable def zQ.con : Con
 | [.int .i64 a0, .int .i64 a1] => some ((zQ.f a0 a1).isSome, .agg [.int .u64 (gd (zQ.f a0 a1)).1, .int .u64 (gd (zQ.f a0 a1)).2])
 | _ => none
set_option maxRecDepth 100000 in
theorem zQ.cok : COk Tryz.prog 117 (zQ.con) := by
 intro args p v hc hp w A hA
 unfold zQ.con at hc
 split at hc
 · rename_i a0 a1
   simp only [Option.some.injEq, Prod.mk.injEq] at hc
   obtain ⟨rfl, rfl⟩ := hc
   rcases hf : zQ.f a0 a1 with _ | ⟨r1, r2⟩
   · rw [hf] at hp; cases hp
   obtain rfl : A = [.int .i64 a0, .int .i64 a1] := by simpa [kG, kK, kL, kH, kS, kM, jR] using hA
   exact kT (fn := Tryz.f117) Tryz.func117 (by kernel_rfl) (by kernel_rfl) (zQ.calls _ _ _ _ w hf) (fun _ => by simp [kD, kG, kK, kL, kH, kS, kM, bU]) (fun _ h => h)
 · cases hc
def qE.j0 : Nat → Int → Int → Option (Int)
 | 0, _, _ => none
 | k + 1, x0, x2 => if x0 ≥ 65536 then (if (x0 / 65536) ≥ 256 then (if 0 ≤ (((x0 / 65536) / 256) % 256) then (if (((x0 / 65536) / 256) % 256) < 256 then (some (wrap64 ((wrap64 ((wrap64 (x2 + 16)) + 8)) + (wrap64 (bt (⟨#[0, 1, 2, 2, 3, 3, 3, 3, 4, 4, 4, 4, 4, 4, 4, 4, 5, 5, 5, 5, 5, 5, 5, 5, 5, 5, 5, 5, 5, 5, 5, 5, 6, 6, 6, 6, 6, 6, 6, 6, 6, 6, 6, 6, 6, 6, 6, 6, 6, 6, 6, 6, 6, 6, 6, 6, 6, 6, 6, 6, 6, 6, 6, 6, 7, 7, 7, 7, 7, 7, 7, 7, 7, 7, 7, 7, 7, 7, 7, 7, 7, 7, 7, 7, 7, 7, 7, 7, 7, 7, 7, 7, 7, 7, 7, 7, 7, 7, 7, 7, 7, 7, 7, 7, 7, 7, 7, 7, 7, 7, 7, 7, 7, 7, 7, 7, 7, 7, 7, 7, 7, 7, 7, 7, 7, 7, 7, 7, 8, 8, 8, 8, 8, 8, 8, 8, 8, 8, 8, 8, 8, 8, 8, 8, 8, 8, 8, 8, 8, 8, 8, 8, 8, 8, 8, 8, 8, 8, 8, 8, 8, 8, 8, 8, 8, 8, 8, 8, 8, 8, 8, 8, 8, 8, 8, 8, 8, 8, 8, 8, 8, 8, 8, 8, 8, 8, 8, 8, 8, 8, 8, 8, 8, 8, 8, 8, 8, 8, 8, 8, 8, 8, 8, 8, 8, 8, 8, 8, 8, 8, 8, 8, 8, 8, 8, 8, 8, 8, 8, 8, 8, 8, 8, 8, 8, 8, 8, 8, 8, 8, 8, 8, 8, 8, 8, 8, 8, 8, 8, 8, 8, 8, 8, 8, 8, 8, 8, 8, 8, 8, 8, 8, 8, 8, 8, 8]⟩ : ByteArray) (((x0 / 65536) / 256) % 256)))))) else (none)) else (none)) else (if 0 ≤ ((x0 / 65536) % 256) then (if ((x0 / 65536) % 256) < 256 then (some (wrap64 ((wrap64 (x2 + 16)) + (wrap64 (bt (⟨#[0, 1, 2, 2, 3, 3, 3, 3, 4, 4, 4, 4, 4, 4, 4, 4, 5, 5, 5, 5, 5, 5, 5, 5, 5, 5, 5, 5, 5, 5, 5, 5, 6, 6, 6, 6, 6, 6, 6, 6, 6, 6, 6, 6, 6, 6, 6, 6, 6, 6, 6, 6, 6, 6, 6, 6, 6, 6, 6, 6, 6, 6, 6, 6, 7, 7, 7, 7, 7, 7, 7, 7, 7, 7, 7, 7, 7, 7, 7, 7, 7, 7, 7, 7, 7, 7, 7, 7, 7, 7, 7, 7, 7, 7, 7, 7, 7, 7, 7, 7, 7, 7, 7, 7, 7, 7, 7, 7, 7, 7, 7, 7, 7, 7, 7, 7, 7, 7, 7, 7, 7, 7, 7, 7, 7, 7, 7, 7, 8, 8, 8, 8, 8, 8, 8, 8, 8, 8, 8, 8, 8, 8, 8, 8, 8, 8, 8, 8, 8, 8, 8, 8, 8, 8, 8, 8, 8, 8, 8, 8, 8, 8, 8, 8, 8, 8, 8, 8, 8, 8, 8, 8, 8, 8, 8, 8, 8, 8, 8, 8, 8, 8, 8, 8, 8, 8, 8, 8, 8, 8, 8, 8, 8, 8, 8, 8, 8, 8, 8, 8, 8, 8, 8, 8, 8, 8, 8, 8, 8, 8, 8, 8, 8, 8, 8, 8, 8, 8, 8, 8, 8, 8, 8, 8, 8, 8, 8, 8, 8, 8, 8, 8, 8, 8, 8, 8, 8, 8, 8, 8, 8, 8, 8, 8, 8, 8, 8, 8, 8, 8, 8, 8, 8, 8, 8, 8]⟩ : ByteArray) ((x0 / 65536) % 256)))))) else (none)) else (none))) else (if x0 ≥ 256 then (if 0 ≤ ((x0 / 256) % 256) then (if ((x0 / 256) % 256) < 256 then (some (wrap64 ((wrap64 (x2 + 8)) + (wrap64 (bt (⟨#[0, 1, 2, 2, 3, 3, 3, 3, 4, 4, 4, 4, 4, 4, 4, 4, 5, 5, 5, 5, 5, 5, 5, 5, 5, 5, 5, 5, 5, 5, 5, 5, 6, 6, 6, 6, 6, 6, 6, 6, 6, 6, 6, 6, 6, 6, 6, 6, 6, 6, 6, 6, 6, 6, 6, 6, 6, 6, 6, 6, 6, 6, 6, 6, 7, 7, 7, 7, 7, 7, 7, 7, 7, 7, 7, 7, 7, 7, 7, 7, 7, 7, 7, 7, 7, 7, 7, 7, 7, 7, 7, 7, 7, 7, 7, 7, 7, 7, 7, 7, 7, 7, 7, 7, 7, 7, 7, 7, 7, 7, 7, 7, 7, 7, 7, 7, 7, 7, 7, 7, 7, 7, 7, 7, 7, 7, 7, 7, 8, 8, 8, 8, 8, 8, 8, 8, 8, 8, 8, 8, 8, 8, 8, 8, 8, 8, 8, 8, 8, 8, 8, 8, 8, 8, 8, 8, 8, 8, 8, 8, 8, 8, 8, 8, 8, 8, 8, 8, 8, 8, 8, 8, 8, 8, 8, 8, 8, 8, 8, 8, 8, 8, 8, 8, 8, 8, 8, 8, 8, 8, 8, 8, 8, 8, 8, 8, 8, 8, 8, 8, 8, 8, 8, 8, 8, 8, 8, 8, 8, 8, 8, 8, 8, 8, 8, 8, 8, 8, 8, 8, 8, 8, 8, 8, 8, 8, 8, 8, 8, 8, 8, 8, 8, 8, 8, 8, 8, 8, 8, 8, 8, 8, 8, 8, 8, 8, 8, 8, 8, 8, 8, 8, 8, 8, 8, 8]⟩ : ByteArray) ((x0 / 256) % 256)))))) else (none)) else (none)) else (if 0 ≤ ((x0) % 256) then (if ((x0) % 256) < 256 then (some (wrap64 (x2 + (wrap64 (bt (⟨#[0, 1, 2, 2, 3, 3, 3, 3, 4, 4, 4, 4, 4, 4, 4, 4, 5, 5, 5, 5, 5, 5, 5, 5, 5, 5, 5, 5, 5, 5, 5, 5, 6, 6, 6, 6, 6, 6, 6, 6, 6, 6, 6, 6, 6, 6, 6, 6, 6, 6, 6, 6, 6, 6, 6, 6, 6, 6, 6, 6, 6, 6, 6, 6, 7, 7, 7, 7, 7, 7, 7, 7, 7, 7, 7, 7, 7, 7, 7, 7, 7, 7, 7, 7, 7, 7, 7, 7, 7, 7, 7, 7, 7, 7, 7, 7, 7, 7, 7, 7, 7, 7, 7, 7, 7, 7, 7, 7, 7, 7, 7, 7, 7, 7, 7, 7, 7, 7, 7, 7, 7, 7, 7, 7, 7, 7, 7, 7, 8, 8, 8, 8, 8, 8, 8, 8, 8, 8, 8, 8, 8, 8, 8, 8, 8, 8, 8, 8, 8, 8, 8, 8, 8, 8, 8, 8, 8, 8, 8, 8, 8, 8, 8, 8, 8, 8, 8, 8, 8, 8, 8, 8, 8, 8, 8, 8, 8, 8, 8, 8, 8, 8, 8, 8, 8, 8, 8, 8, 8, 8, 8, 8, 8, 8, 8, 8, 8, 8, 8, 8, 8, 8, 8, 8, 8, 8, 8, 8, 8, 8, 8, 8, 8, 8, 8, 8, 8, 8, 8, 8, 8, 8, 8, 8, 8, 8, 8, 8, 8, 8, 8, 8, 8, 8, 8, 8, 8, 8, 8, 8, 8, 8, 8, 8, 8, 8, 8, 8, 8, 8, 8, 8, 8, 8, 8, 8]⟩ : ByteArray) ((x0) % 256)))))) else (none)) else (none)))
def qE.f (k : Nat) (a0 : Int) : Option (Int) := if a0 ≥ 4294967296 then (qE.j0 k (a0 / 4294967296) 32) else (qE.j0 k a0 0)
theorem qE.mono_l : ∀ k, (∀ y0 y1, LeO (qE.j0 k y0 y1) (qE.j0 (k + 1) y0 y1))
 | 0 => fun _ _ r h => by simp [qE.j0] at h
 | k + 1 => by
  have ih0 := qE.mono_l k
  · intro y0 y1
    unfold qE.j0
    repeat' first
    | (with_reducible exact ih0 _ _)
    | (with_reducible exact LeO.refl _)
    | (with_reducible exact LeO.none _)
    | (with_reducible refine LeO.ite ?_ ?_)
    | (with_reducible refine LeO.bind ?_ (fun _ => ?_))
    | exact ih0 _ _
    | exact LeO.none _
    | refine LeO.ite ?_ ?_
    | refine LeO.bind ?_ (fun _ => ?_)
theorem qE.mono : ∀ a0 k, LeO (qE.f k a0) (qE.f (k + 1) a0) := by
 intro a0 k
 have ih0 := qE.mono_l k
 unfold qE.f
 repeat' first
  | (with_reducible exact ih0 _ _)
  | (with_reducible exact LeO.refl _)
  | (with_reducible exact LeO.none _)
  | (with_reducible refine LeO.ite ?_ ?_)
  | (with_reducible refine LeO.bind ?_ (fun _ => ?_))
  | exact ih0 _ _
  | exact LeO.none _
  | refine LeO.ite ?_ ?_
  | refine LeO.bind ?_ (fun _ => ?_)
set_option maxHeartbeats 8000000 in
set_option maxRecDepth 100000 in
theorem qE.calls (k : Nat) (a0 : Int) (r : Int) (w : World) (h : qE.f k a0 = some r) :
 Calls Tryz.prog 180 #[.int .u64 a0] w fun e w' => e = .returned (.int .i64 r) ∧ Drawn0 w w' := by
 have H : (if a0 ≥ 4294967296 then (qE.j0 k (a0 / 4294967296) 32) else (qE.j0 k a0 0)) = some r := h
 clear h
 have HC2 := Aside0.mk H
 clear H
 go_enter Tryz.func180, Tryz.ntmps180
 go_upto_if 4 with (fail)
 go_cut [0, 2] (fun v0 v2 wc => ∃ (kq : Nat) (x0_1 : Int) (x2_1 : Int), v0 = .int .u64 x0_1 ∧ v2 = .int .i64 x2_1 ∧ Aside0 (qE.j0 kq x0_1 x2_1 = some r) ∧ Aside0 (kq ≤ k) ∧ Drawn0 w wc)
 case first =>
  have H := HC2.out
  clear HC2
  by_cases c3 : a0 ≥ 4294967296
  · rw [if_pos c3] at H
    have c3b0 : decide (4294967296 ≤ a0) = true := decide_eq_true c3
    clear c3
    (first | rw [c3b0] | (simp only [qJ, qL]; rw [c3b0]) | skip)
    have H' := Aside0.mk H
    clear H
    go_wp2
    go_meet
    case rel => exact ⟨_, (a0 / 4294967296), (32), (by first | rfl | (simp; done) | (simp [*]; done)), (by first | rfl | (simp; done) | (simp [*]; done)), H', ⟨by first | omega | exact Nat.le_refl _⟩, by repeat (first | exact Drawn0.refl _ | apply Drawn0.step)⟩
  · rw [if_neg c3] at H
    have c3b0 : decide (4294967296 ≤ a0) = false := decide_eq_false c3
    clear c3
    (first | rw [c3b0] | (simp only [qJ, qL]; rw [c3b0]) | skip)
    have H' := Aside0.mk H
    clear H
    go_wp2
    go_meet
    case rel => exact ⟨_, (a0), (0), (by first | rfl | (simp; done) | (simp [*]; done)), (by first | rfl | (simp; done) | (simp [*]; done)), H', ⟨by first | omega | exact Nat.le_refl _⟩, by repeat (first | exact Drawn0.refl _ | apply Drawn0.step)⟩
 case rest =>
  clear HC2
  try clear c1
  try clear p2
  try clear c3
  try clear c3b0
  obtain ⟨kq, x0_1, x2_1, rfl, rfl, HA, HJ1, ⟨mc1, rfl⟩⟩ := hcut
  cases kq with
  | zero => exact absurd HA.out (by simp [qE.j0])
  | succ kj1 =>
   have H := HA.out
   clear HA
   simp only [qE.j0] at H
   by_cases c4 : x0_1 ≥ 65536
   · rw [if_pos c4] at H
     have c4b0 : decide (65536 ≤ x0_1) = true := decide_eq_true c4
     clear c4
     by_cases c5 : (x0_1 / 65536) ≥ 256
     · rw [if_pos c5] at H
       have c5b0 : decide (256 ≤ (x0_1 / 65536)) = true := decide_eq_true c5
       clear c5
       obtain ⟨ji6, hji6⟩ : ∃ j_ : Int, (((x0_1 / 65536) / 256) % 256) = j_ := ⟨_, rfl⟩
       replace H : (if 0 ≤ (ji6) then (if (ji6) < 256 then (some (wrap64 ((wrap64 ((wrap64 (x2_1 + 16)) + 8)) + (wrap64 (bt (⟨#[0, 1, 2, 2, 3, 3, 3, 3, 4, 4, 4, 4, 4, 4, 4, 4, 5, 5, 5, 5, 5, 5, 5, 5, 5, 5, 5, 5, 5, 5, 5, 5, 6, 6, 6, 6, 6, 6, 6, 6, 6, 6, 6, 6, 6, 6, 6, 6, 6, 6, 6, 6, 6, 6, 6, 6, 6, 6, 6, 6, 6, 6, 6, 6, 7, 7, 7, 7, 7, 7, 7, 7, 7, 7, 7, 7, 7, 7, 7, 7, 7, 7, 7, 7, 7, 7, 7, 7, 7, 7, 7, 7, 7, 7, 7, 7, 7, 7, 7, 7, 7, 7, 7, 7, 7, 7, 7, 7, 7, 7, 7, 7, 7, 7, 7, 7, 7, 7, 7, 7, 7, 7, 7, 7, 7, 7, 7, 7, 8, 8, 8, 8, 8, 8, 8, 8, 8, 8, 8, 8, 8, 8, 8, 8, 8, 8, 8, 8, 8, 8, 8, 8, 8, 8, 8, 8, 8, 8, 8, 8, 8, 8, 8, 8, 8, 8, 8, 8, 8, 8, 8, 8, 8, 8, 8, 8, 8, 8, 8, 8, 8, 8, 8, 8, 8, 8, 8, 8, 8, 8, 8, 8, 8, 8, 8, 8, 8, 8, 8, 8, 8, 8, 8, 8, 8, 8, 8, 8, 8, 8, 8, 8, 8, 8, 8, 8, 8, 8, 8, 8, 8, 8, 8, 8, 8, 8, 8, 8, 8, 8, 8, 8, 8, 8, 8, 8, 8, 8, 8, 8, 8, 8, 8, 8, 8, 8, 8, 8, 8, 8, 8, 8, 8, 8, 8, 8]⟩ : ByteArray) (ji6)))))) else (none)) else (none)) = some r := by first | (rw [hji6] at H; exact H) | (simp only [hji6] at H ⊢; exact H)
       by_cases c7 : 0 ≤ (ji6)
       · rw [if_pos c7] at H
         have c7b0 : decide (0 ≤ (ji6)) = true := decide_eq_true c7
         clear c7
         by_cases c8 : (ji6) < 256
         · rw [if_pos c8] at H
           have c8b0 : decide ((ji6) < 256) = true := decide_eq_true c8
           clear c8
           obtain rfl := Option.some.inj H
           have p9 : 0 ≤ ((ji6) : Int) := of_decide_eq_true (by first | (with_reducible assumption) | assumption)
           have q9 : (ji6) < (256 : Int) := of_decide_eq_true (by first | (with_reducible assumption) | assumption)
           have hx9 := bt_at (⟨#[0, 1, 2, 2, 3, 3, 3, 3, 4, 4, 4, 4, 4, 4, 4, 4, 5, 5, 5, 5, 5, 5, 5, 5, 5, 5, 5, 5, 5, 5, 5, 5, 6, 6, 6, 6, 6, 6, 6, 6, 6, 6, 6, 6, 6, 6, 6, 6, 6, 6, 6, 6, 6, 6, 6, 6, 6, 6, 6, 6, 6, 6, 6, 6, 7, 7, 7, 7, 7, 7, 7, 7, 7, 7, 7, 7, 7, 7, 7, 7, 7, 7, 7, 7, 7, 7, 7, 7, 7, 7, 7, 7, 7, 7, 7, 7, 7, 7, 7, 7, 7, 7, 7, 7, 7, 7, 7, 7, 7, 7, 7, 7, 7, 7, 7, 7, 7, 7, 7, 7, 7, 7, 7, 7, 7, 7, 7, 7, 8, 8, 8, 8, 8, 8, 8, 8, 8, 8, 8, 8, 8, 8, 8, 8, 8, 8, 8, 8, 8, 8, 8, 8, 8, 8, 8, 8, 8, 8, 8, 8, 8, 8, 8, 8, 8, 8, 8, 8, 8, 8, 8, 8, 8, 8, 8, 8, 8, 8, 8, 8, 8, 8, 8, 8, 8, 8, 8, 8, 8, 8, 8, 8, 8, 8, 8, 8, 8, 8, 8, 8, 8, 8, 8, 8, 8, 8, 8, 8, 8, 8, 8, 8, 8, 8, 8, 8, 8, 8, 8, 8, 8, 8, 8, 8, 8, 8, 8, 8, 8, 8, 8, 8, 8, 8, 8, 8, 8, 8, 8, 8, 8, 8, 8, 8, 8, 8, 8, 8, 8, 8, 8, 8, 8, 8, 8, 8]⟩ : ByteArray) (ji6)
           replace p9 := eq_true p9
           replace q9 := eq_true q9
           go_wp2
           go_ret
           exact ⟨by first | rfl | (simp; done) | (simp only [← hji6] <;> (first | rfl | simp)) | (simp [*]; done), by repeat (first | exact Drawn0.refl _ | apply Drawn0.step)⟩
         · rw [if_neg c8] at H
           exact absurd H (by simp)
       · rw [if_neg c7] at H
         exact absurd H (by simp)
     · rw [if_neg c5] at H
       have c5b0 : decide (256 ≤ (x0_1 / 65536)) = false := decide_eq_false c5
       clear c5
       obtain ⟨ji10, hji10⟩ : ∃ j_ : Int, ((x0_1 / 65536) % 256) = j_ := ⟨_, rfl⟩
       replace H : (if 0 ≤ (ji10) then (if (ji10) < 256 then (some (wrap64 ((wrap64 (x2_1 + 16)) + (wrap64 (bt (⟨#[0, 1, 2, 2, 3, 3, 3, 3, 4, 4, 4, 4, 4, 4, 4, 4, 5, 5, 5, 5, 5, 5, 5, 5, 5, 5, 5, 5, 5, 5, 5, 5, 6, 6, 6, 6, 6, 6, 6, 6, 6, 6, 6, 6, 6, 6, 6, 6, 6, 6, 6, 6, 6, 6, 6, 6, 6, 6, 6, 6, 6, 6, 6, 6, 7, 7, 7, 7, 7, 7, 7, 7, 7, 7, 7, 7, 7, 7, 7, 7, 7, 7, 7, 7, 7, 7, 7, 7, 7, 7, 7, 7, 7, 7, 7, 7, 7, 7, 7, 7, 7, 7, 7, 7, 7, 7, 7, 7, 7, 7, 7, 7, 7, 7, 7, 7, 7, 7, 7, 7, 7, 7, 7, 7, 7, 7, 7, 7, 8, 8, 8, 8, 8, 8, 8, 8, 8, 8, 8, 8, 8, 8, 8, 8, 8, 8, 8, 8, 8, 8, 8, 8, 8, 8, 8, 8, 8, 8, 8, 8, 8, 8, 8, 8, 8, 8, 8, 8, 8, 8, 8, 8, 8, 8, 8, 8, 8, 8, 8, 8, 8, 8, 8, 8, 8, 8, 8, 8, 8, 8, 8, 8, 8, 8, 8, 8, 8, 8, 8, 8, 8, 8, 8, 8, 8, 8, 8, 8, 8, 8, 8, 8, 8, 8, 8, 8, 8, 8, 8, 8, 8, 8, 8, 8, 8, 8, 8, 8, 8, 8, 8, 8, 8, 8, 8, 8, 8, 8, 8, 8, 8, 8, 8, 8, 8, 8, 8, 8, 8, 8, 8, 8, 8, 8, 8, 8]⟩ : ByteArray) (ji10)))))) else (none)) else (none)) = some r := by first | (rw [hji10] at H; exact H) | (simp only [hji10] at H ⊢; exact H)
       by_cases c11 : 0 ≤ (ji10)
       · rw [if_pos c11] at H
         have c11b0 : decide (0 ≤ (ji10)) = true := decide_eq_true c11
         clear c11
         by_cases c12 : (ji10) < 256
         · rw [if_pos c12] at H
           have c12b0 : decide ((ji10) < 256) = true := decide_eq_true c12
           clear c12
           obtain rfl := Option.some.inj H
           have p13 : 0 ≤ ((ji10) : Int) := of_decide_eq_true (by first | (with_reducible assumption) | assumption)
           have q13 : (ji10) < (256 : Int) := of_decide_eq_true (by first | (with_reducible assumption) | assumption)
           have hx13 := bt_at (⟨#[0, 1, 2, 2, 3, 3, 3, 3, 4, 4, 4, 4, 4, 4, 4, 4, 5, 5, 5, 5, 5, 5, 5, 5, 5, 5, 5, 5, 5, 5, 5, 5, 6, 6, 6, 6, 6, 6, 6, 6, 6, 6, 6, 6, 6, 6, 6, 6, 6, 6, 6, 6, 6, 6, 6, 6, 6, 6, 6, 6, 6, 6, 6, 6, 7, 7, 7, 7, 7, 7, 7, 7, 7, 7, 7, 7, 7, 7, 7, 7, 7, 7, 7, 7, 7, 7, 7, 7, 7, 7, 7, 7, 7, 7, 7, 7, 7, 7, 7, 7, 7, 7, 7, 7, 7, 7, 7, 7, 7, 7, 7, 7, 7, 7, 7, 7, 7, 7, 7, 7, 7, 7, 7, 7, 7, 7, 7, 7, 8, 8, 8, 8, 8, 8, 8, 8, 8, 8, 8, 8, 8, 8, 8, 8, 8, 8, 8, 8, 8, 8, 8, 8, 8, 8, 8, 8, 8, 8, 8, 8, 8, 8, 8, 8, 8, 8, 8, 8, 8, 8, 8, 8, 8, 8, 8, 8, 8, 8, 8, 8, 8, 8, 8, 8, 8, 8, 8, 8, 8, 8, 8, 8, 8, 8, 8, 8, 8, 8, 8, 8, 8, 8, 8, 8, 8, 8, 8, 8, 8, 8, 8, 8, 8, 8, 8, 8, 8, 8, 8, 8, 8, 8, 8, 8, 8, 8, 8, 8, 8, 8, 8, 8, 8, 8, 8, 8, 8, 8, 8, 8, 8, 8, 8, 8, 8, 8, 8, 8, 8, 8, 8, 8, 8, 8, 8, 8]⟩ : ByteArray) (ji10)
           replace p13 := eq_true p13
           replace q13 := eq_true q13
           go_wp2
           go_ret
           exact ⟨by first | rfl | (simp; done) | (simp only [← hji10] <;> (first | rfl | simp)) | (simp [*]; done), by repeat (first | exact Drawn0.refl _ | apply Drawn0.step)⟩
         · rw [if_neg c12] at H
           exact absurd H (by simp)
       · rw [if_neg c11] at H
         exact absurd H (by simp)
   · rw [if_neg c4] at H
     have c4b0 : decide (65536 ≤ x0_1) = false := decide_eq_false c4
     clear c4
     by_cases c14 : x0_1 ≥ 256
     · rw [if_pos c14] at H
       have c14b0 : decide (256 ≤ x0_1) = true := decide_eq_true c14
       clear c14
       obtain ⟨ji15, hji15⟩ : ∃ j_ : Int, ((x0_1 / 256) % 256) = j_ := ⟨_, rfl⟩
       replace H : (if 0 ≤ (ji15) then (if (ji15) < 256 then (some (wrap64 ((wrap64 (x2_1 + 8)) + (wrap64 (bt (⟨#[0, 1, 2, 2, 3, 3, 3, 3, 4, 4, 4, 4, 4, 4, 4, 4, 5, 5, 5, 5, 5, 5, 5, 5, 5, 5, 5, 5, 5, 5, 5, 5, 6, 6, 6, 6, 6, 6, 6, 6, 6, 6, 6, 6, 6, 6, 6, 6, 6, 6, 6, 6, 6, 6, 6, 6, 6, 6, 6, 6, 6, 6, 6, 6, 7, 7, 7, 7, 7, 7, 7, 7, 7, 7, 7, 7, 7, 7, 7, 7, 7, 7, 7, 7, 7, 7, 7, 7, 7, 7, 7, 7, 7, 7, 7, 7, 7, 7, 7, 7, 7, 7, 7, 7, 7, 7, 7, 7, 7, 7, 7, 7, 7, 7, 7, 7, 7, 7, 7, 7, 7, 7, 7, 7, 7, 7, 7, 7, 8, 8, 8, 8, 8, 8, 8, 8, 8, 8, 8, 8, 8, 8, 8, 8, 8, 8, 8, 8, 8, 8, 8, 8, 8, 8, 8, 8, 8, 8, 8, 8, 8, 8, 8, 8, 8, 8, 8, 8, 8, 8, 8, 8, 8, 8, 8, 8, 8, 8, 8, 8, 8, 8, 8, 8, 8, 8, 8, 8, 8, 8, 8, 8, 8, 8, 8, 8, 8, 8, 8, 8, 8, 8, 8, 8, 8, 8, 8, 8, 8, 8, 8, 8, 8, 8, 8, 8, 8, 8, 8, 8, 8, 8, 8, 8, 8, 8, 8, 8, 8, 8, 8, 8, 8, 8, 8, 8, 8, 8, 8, 8, 8, 8, 8, 8, 8, 8, 8, 8, 8, 8, 8, 8, 8, 8, 8, 8]⟩ : ByteArray) (ji15)))))) else (none)) else (none)) = some r := by first | (rw [hji15] at H; exact H) | (simp only [hji15] at H ⊢; exact H)
       by_cases c16 : 0 ≤ (ji15)
       · rw [if_pos c16] at H
         have c16b0 : decide (0 ≤ (ji15)) = true := decide_eq_true c16
         clear c16
         by_cases c17 : (ji15) < 256
         · rw [if_pos c17] at H
           have c17b0 : decide ((ji15) < 256) = true := decide_eq_true c17
           clear c17
           obtain rfl := Option.some.inj H
           have p18 : 0 ≤ ((ji15) : Int) := of_decide_eq_true (by first | (with_reducible assumption) | assumption)
           have q18 : (ji15) < (256 : Int) := of_decide_eq_true (by first | (with_reducible assumption) | assumption)
           have hx18 := bt_at (⟨#[0, 1, 2, 2, 3, 3, 3, 3, 4, 4, 4, 4, 4, 4, 4, 4, 5, 5, 5, 5, 5, 5, 5, 5, 5, 5, 5, 5, 5, 5, 5, 5, 6, 6, 6, 6, 6, 6, 6, 6, 6, 6, 6, 6, 6, 6, 6, 6, 6, 6, 6, 6, 6, 6, 6, 6, 6, 6, 6, 6, 6, 6, 6, 6, 7, 7, 7, 7, 7, 7, 7, 7, 7, 7, 7, 7, 7, 7, 7, 7, 7, 7, 7, 7, 7, 7, 7, 7, 7, 7, 7, 7, 7, 7, 7, 7, 7, 7, 7, 7, 7, 7, 7, 7, 7, 7, 7, 7, 7, 7, 7, 7, 7, 7, 7, 7, 7, 7, 7, 7, 7, 7, 7, 7, 7, 7, 7, 7, 8, 8, 8, 8, 8, 8, 8, 8, 8, 8, 8, 8, 8, 8, 8, 8, 8, 8, 8, 8, 8, 8, 8, 8, 8, 8, 8, 8, 8, 8, 8, 8, 8, 8, 8, 8, 8, 8, 8, 8, 8, 8, 8, 8, 8, 8, 8, 8, 8, 8, 8, 8, 8, 8, 8, 8, 8, 8, 8, 8, 8, 8, 8, 8, 8, 8, 8, 8, 8, 8, 8, 8, 8, 8, 8, 8, 8, 8, 8, 8, 8, 8, 8, 8, 8, 8, 8, 8, 8, 8, 8, 8, 8, 8, 8, 8, 8, 8, 8, 8, 8, 8, 8, 8, 8, 8, 8, 8, 8, 8, 8, 8, 8, 8, 8, 8, 8, 8, 8, 8, 8, 8, 8, 8, 8, 8, 8, 8]⟩ : ByteArray) (ji15)
           replace p18 := eq_true p18
           replace q18 := eq_true q18
           go_wp2
           go_ret
           exact ⟨by first | rfl | (simp; done) | (simp only [← hji15] <;> (first | rfl | simp)) | (simp [*]; done), by repeat (first | exact Drawn0.refl _ | apply Drawn0.step)⟩
         · rw [if_neg c17] at H
           exact absurd H (by simp)
       · rw [if_neg c16] at H
         exact absurd H (by simp)
     · rw [if_neg c14] at H
       have c14b0 : decide (256 ≤ x0_1) = false := decide_eq_false c14
       clear c14
       obtain ⟨ji19, hji19⟩ : ∃ j_ : Int, ((x0_1) % 256) = j_ := ⟨_, rfl⟩
       replace H : (if 0 ≤ (ji19) then (if (ji19) < 256 then (some (wrap64 (x2_1 + (wrap64 (bt (⟨#[0, 1, 2, 2, 3, 3, 3, 3, 4, 4, 4, 4, 4, 4, 4, 4, 5, 5, 5, 5, 5, 5, 5, 5, 5, 5, 5, 5, 5, 5, 5, 5, 6, 6, 6, 6, 6, 6, 6, 6, 6, 6, 6, 6, 6, 6, 6, 6, 6, 6, 6, 6, 6, 6, 6, 6, 6, 6, 6, 6, 6, 6, 6, 6, 7, 7, 7, 7, 7, 7, 7, 7, 7, 7, 7, 7, 7, 7, 7, 7, 7, 7, 7, 7, 7, 7, 7, 7, 7, 7, 7, 7, 7, 7, 7, 7, 7, 7, 7, 7, 7, 7, 7, 7, 7, 7, 7, 7, 7, 7, 7, 7, 7, 7, 7, 7, 7, 7, 7, 7, 7, 7, 7, 7, 7, 7, 7, 7, 8, 8, 8, 8, 8, 8, 8, 8, 8, 8, 8, 8, 8, 8, 8, 8, 8, 8, 8, 8, 8, 8, 8, 8, 8, 8, 8, 8, 8, 8, 8, 8, 8, 8, 8, 8, 8, 8, 8, 8, 8, 8, 8, 8, 8, 8, 8, 8, 8, 8, 8, 8, 8, 8, 8, 8, 8, 8, 8, 8, 8, 8, 8, 8, 8, 8, 8, 8, 8, 8, 8, 8, 8, 8, 8, 8, 8, 8, 8, 8, 8, 8, 8, 8, 8, 8, 8, 8, 8, 8, 8, 8, 8, 8, 8, 8, 8, 8, 8, 8, 8, 8, 8, 8, 8, 8, 8, 8, 8, 8, 8, 8, 8, 8, 8, 8, 8, 8, 8, 8, 8, 8, 8, 8, 8, 8, 8, 8]⟩ : ByteArray) (ji19)))))) else (none)) else (none)) = some r := by first | (rw [hji19] at H; exact H) | (simp only [hji19] at H ⊢; exact H)
       by_cases c20 : 0 ≤ (ji19)
       · rw [if_pos c20] at H
         have c20b0 : decide (0 ≤ (ji19)) = true := decide_eq_true c20
         clear c20
         by_cases c21 : (ji19) < 256
         · rw [if_pos c21] at H
           have c21b0 : decide ((ji19) < 256) = true := decide_eq_true c21
           clear c21
           obtain rfl := Option.some.inj H
           have p22 : 0 ≤ ((ji19) : Int) := of_decide_eq_true (by first | (with_reducible assumption) | assumption)
           have q22 : (ji19) < (256 : Int) := of_decide_eq_true (by first | (with_reducible assumption) | assumption)
           have hx22 := bt_at (⟨#[0, 1, 2, 2, 3, 3, 3, 3, 4, 4, 4, 4, 4, 4, 4, 4, 5, 5, 5, 5, 5, 5, 5, 5, 5, 5, 5, 5, 5, 5, 5, 5, 6, 6, 6, 6, 6, 6, 6, 6, 6, 6, 6, 6, 6, 6, 6, 6, 6, 6, 6, 6, 6, 6, 6, 6, 6, 6, 6, 6, 6, 6, 6, 6, 7, 7, 7, 7, 7, 7, 7, 7, 7, 7, 7, 7, 7, 7, 7, 7, 7, 7, 7, 7, 7, 7, 7, 7, 7, 7, 7, 7, 7, 7, 7, 7, 7, 7, 7, 7, 7, 7, 7, 7, 7, 7, 7, 7, 7, 7, 7, 7, 7, 7, 7, 7, 7, 7, 7, 7, 7, 7, 7, 7, 7, 7, 7, 7, 8, 8, 8, 8, 8, 8, 8, 8, 8, 8, 8, 8, 8, 8, 8, 8, 8, 8, 8, 8, 8, 8, 8, 8, 8, 8, 8, 8, 8, 8, 8, 8, 8, 8, 8, 8, 8, 8, 8, 8, 8, 8, 8, 8, 8, 8, 8, 8, 8, 8, 8, 8, 8, 8, 8, 8, 8, 8, 8, 8, 8, 8, 8, 8, 8, 8, 8, 8, 8, 8, 8, 8, 8, 8, 8, 8, 8, 8, 8, 8, 8, 8, 8, 8, 8, 8, 8, 8, 8, 8, 8, 8, 8, 8, 8, 8, 8, 8, 8, 8, 8, 8, 8, 8, 8, 8, 8, 8, 8, 8, 8, 8, 8, 8, 8, 8, 8, 8, 8, 8, 8, 8, 8, 8, 8, 8, 8, 8]⟩ : ByteArray) (ji19)
           replace p22 := eq_true p22
           replace q22 := eq_true q22
           go_wp2
           go_ret
           exact ⟨by first | rfl | (simp; done) | (simp only [← hji19] <;> (first | rfl | simp)) | (simp [*]; done), by repeat (first | exact Drawn0.refl _ | apply Drawn0.step)⟩
         · rw [if_neg c21] at H
           exact absurd H (by simp)
       · rw [if_neg c20] at H
         exact absurd H (by simp)
def jF.f (k : Nat) (a0 : Int) : Option (Int) := (qE.f k a0).bind fun t107 => (some (wrap64 (64 - t107)))
theorem jF.mono : ∀ a0 k, LeO (jF.f k a0) (jF.f (k + 1) a0) := by
 intro a0 k
 unfold jF.f
 repeat' first
  | (with_reducible exact qE.mono _ _)
  | (with_reducible exact LeO.refl _)
  | (with_reducible exact LeO.none _)
  | (with_reducible refine LeO.ite ?_ ?_)
  | (with_reducible refine LeO.bind ?_ (fun _ => ?_))
  | exact qE.mono _ _
  | exact LeO.none _
  | refine LeO.ite ?_ ?_
  | refine LeO.bind ?_ (fun _ => ?_)
set_option maxHeartbeats 8000000 in
set_option maxRecDepth 100000 in
theorem jF.calls (k : Nat) (a0 : Int) (r : Int) (w : World) (h : jF.f k a0 = some r) :
 Calls Tryz.prog 169 #[.int .u64 a0] w fun e w' => e = .returned (.int .i64 r) ∧ Drawn0 w w' := by
 have H : ((qE.f k a0).bind fun t107 => (some (wrap64 (64 - t107)))) = some r := h
 clear h
 replace H := Option.bind_eq_some_iff.mp H
 obtain ⟨t107, A20, H⟩ := H
 replace H : (some (wrap64 (64 - t107))) = some r := H
 have A2 := Aside0.mk A20
 clear A20
 obtain rfl := Option.some.inj H
 go_enter Tryz.func169, Tryz.ntmps169
 go_wp2_with (first | ((with_reducible refine kW (f := 180) rfl ?_); refine jI (some 4) rfl rfl Tryz.func180 (by kernel_rfl) rfl #[.int .u64 a0] rfl (by (try simp only [List.map_toArray, List.map_cons, List.map_nil]); first | done | rfl | (simp only [List.length_drop, List.length_take]; rfl)) ?_; (with_reducible refine (qE.calls k a0 t107 _ A2.out).mono ?_); rintro e w' ⟨rfl, ⟨nd, rfl⟩⟩; refine ⟨_, rfl, ?_⟩))
 go_ret
 exact ⟨by first | rfl | (simp; done) | (simp [*]; done), by repeat (first | exact Drawn0.refl _ | apply Drawn0.step)⟩
end Go.Proofs.YtimgphlfaninnaaGreat.P

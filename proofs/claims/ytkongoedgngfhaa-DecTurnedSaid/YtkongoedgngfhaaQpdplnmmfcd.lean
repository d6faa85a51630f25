/- The abstract machine: code and calls; a function's contract out of what its body comes to. -/
import Derived.Test.YtkongoedgngfhaaQokaokfnflh
import Derived.Test.YtkongoedgngfhaaProg
import Derived.Test.YtkongoedgngfhaaQakponnpaag
import Derived.Below
import Derived.Deep.Draws
import Derived.Deep.AppendLies
import Derived.Maps.AppendAt
import Derived.OwnWalk
import Derived.Laws.BytesArg
import Derived.Laws.MakeOwn
import Derived.Laws.OwnMore
import Derived.Deep.OwnRows
import Derived.Tactics
import Derived.Lib.ConvBytes
import Derived.Laws.Slices
import Derived.WalkKit
import Derived.KernelRfl
import Derived.RowKit3
import Derived.Deep.LoopGhost
import Derived.Deep.QuietTactic
import Derived.BigQuiet
import Derived.WideLaws
import Derived.Deep.DeepCutAuto
import Derived.Deep.CutBlock
import Derived.Deep.RegionHeld3
import Derived.Laws.Rows
import Derived.Lib.AppendStr
import Derived.ArgAppend
import Derived.Laws.IdiomCopy
import Derived.OrdersHeld
import Derived.Laws.BitsLemmas
import Derived.RowKit
import Derived.Laws.RangeString
import Derived.Laws.RangeAny
import Derived.Lib.OthersKept
namespace Go.Proofs.Ytkongoedgngfhaa.A
open Go Go.RowKit
set_option linter.unusedVariables false
set_option linter.unusedSimpArgs false
variable {P : Program} {ρ : Names} {W w : World} {T : Tab}
def Ex.is : Ex → Exit → Prop
  | .normal, .normal => True
  | .exit i, .exit j => i = j
  | .ret, .ret => True
  | _, _ => False
/-- What holds behind a piece of code, in the model. -/
def Post (ρ : Names) (W : World) (Q : Ex → St → Prop) : Exit → Act → World → Prop := fun e a w => ∃ e' st' ρ', e'.is e ∧ Ext ρ ρ' ∧ RelS ρ' W st' a w ∧ Q e' st'
theorem Post.ext {ρ' : Names} {Q : Ex → St → Prop} {e : Exit} {a : Act} (he : Ext ρ ρ') (h : Post ρ' W Q e a w) : Post ρ W Q e a w :=
  let ⟨e', st', ρ2, h1, h2, h3, h4⟩ := h; ⟨e', st', ρ2, h1, he.trans h2, h3, h4⟩
/-- A reckoning of code holds in the model. -/
def RecOk (P : Program) (rec : Code → St → (Ex → St → Prop) → Prop) : Prop :=
  ∀ (c : Code) (st : St) (Q : Ex → St → Prop) (ρ : Names) (W w : World) (a : Act), rec c st Q → RelS ρ W st a w → c.wp P (Post ρ W Q) a w
/-- A loop's rounds hold in the model, from its head. -/
def LoopsOk (P : Program) (lp : Code → St → (Ex → St → Prop) → Prop) : Prop :=
  ∀ (c : Code) (st : St) (Q : Ex → St → Prop) (ρ : Names) (W w : World) (a : Act), lp c st Q → RelS ρ W st a w → ∀ (b : Frame) (k : List Item) (cs : List Frame),
    ∃ e a' w', Post ρ W Q e a' w' ∧ Arrives P (lone (b.at a (.code c :: .inLoop c :: k)) cs w) b k cs e a' w'
/-- A loop's contract holds. -/
def LcOk (P : Program) (b : Code) (lc : St → (Ex → St → Prop) → Prop) : Prop := ∀ (st : St) (Q : Ex → St → Prop) (ρ : Names) (W w : World) (a : Act), lc st Q → RelS ρ W st a w → (Code.loop b).wp P (Post ρ W Q) a w
theorem codeA_ok (hm : P.follows .mixedOrders = true) (hT : TabOk P T) {LT : LTab Prop} {lp : Code → St → (Ex → St → Prop) → Prop} (hr : LoopsOk P lp) {inl : Inl Prop} (hI : InlOk P inl) :
    ∀ (c : Code), (∀ b ∈ Code.loops c, ∀ lc, LT (Code.first b) = some lc → LcOk P b lc) → ∀ (st : St) (Q : Ex → St → Prop) (ρ : Names) (W w : World) (a : Act), codeA PA P T LT lp inl c st Q → RelS ρ W st a w → c.wp P (Post ρ W Q) a w := by
  intro c
  induction c with
  | skip => intro hL st Q ρ W w a h hs; exact wp_skip ⟨.normal, st, ρ, trivial, Ext.refl ρ, hs, h⟩
  | label l => intro hL st Q ρ W w a h hs; exact wp_label ⟨.normal, st, ρ, trivial, Ext.refl ρ, hs, h⟩
  | seq x y ihx ihy =>
    intro hL st Q ρ W w a h hs
    refine wp_seq (wp_mono (ihx (fun b hb => hL b (by simp [Code.loops, hb])) _ _ ρ W w a h hs) fun e a' w' hp => ?_)
    obtain ⟨e', st', ρ', h1, h2, h3, h4⟩ := hp
    cases e' with
    | normal =>
      cases e <;> try exact h1.elim
      exact wp_mono (ihy (fun b hb => hL b (by simp [Code.loops, hb])) _ _ ρ' W w' a' h4 h3) fun e a w hp => hp.ext h2
    | exit i =>
      cases e <;> try exact h1.elim
      exact ⟨.exit i, st', ρ', h1, h2, h3, h4⟩
    | ret =>
      cases e <;> try exact h1.elim
      exact ⟨.ret, st', ρ', h1, h2, h3, h4⟩
  | cond c x y ihx ihy =>
    intro hL st Q ρ W w a h hs
    simp only [codeA] at h
    split at h
    · rename_i b hb
      have hv := hs.ev0 _ _ hb
      generalize hX : a.eval c = X at hv
      cases hv
      refine wp_cond_split hX (fun hb => ?_) (fun hb => ?_)
      · subst hb; rename_i hb
        have h' : fst (refC st c true) (fun st => codeA PA P T LT lp inl x st Q) := h
        rw [fst_eq, refC_eq hb] at h'
        exact ihx (fun b hb => hL b (by simp [Code.loops, hb])) _ _ ρ W w a h' hs
      · subst hb; rename_i hb
        have h' : fst (refC st c false) (fun st => codeA PA P T LT lp inl y st Q) := h
        rw [fst_eq, refC_eq hb] at h'
        exact ihy (fun b hb => hL b (by simp [Code.loops, hb])) _ _ ρ W w a h' hs
    · exact no_elim h
  | block id b ih =>
    intro hL st Q ρ W w a h hs
    refine wp_block (wp_mono (ih (fun b hb => hL b (by simpa [Code.loops] using hb)) _ _ ρ W w a h hs) fun e a' w' hp => ?_)
    obtain ⟨e', st', ρ', h1, h2, h3, h4⟩ := hp
    cases e' with
    | normal =>
      cases e <;> try exact h1.elim
      exact ⟨.normal, st', ρ', trivial, h2, h3, h4⟩
    | exit i =>
      cases e <;> try exact h1.elim
      rename_i j
      have h1' : i = j := h1
      subst h1'
      simp only [Exit.inBlock]
      simp only at h4
      by_cases hid : i = id
      · rw [if_pos hid] at h4 ⊢; exact ⟨.normal, st', ρ', trivial, h2, h3, h4⟩
      · rw [if_neg hid] at h4 ⊢; exact ⟨.exit i, st', ρ', rfl, h2, h3, h4⟩
    | ret =>
      cases e <;> try exact h1.elim
      exact ⟨.ret, st', ρ', h1, h2, h3, h4⟩
  | loop b ih =>
    intro hL st Q ρ W w a h hs
    simp only [codeA] at h
    split at h
    · rename_i lc hlc
      exact hL b (by simp [Code.loops]) lc hlc st Q ρ W w a h hs
    · intro bf k cs
      obtain ⟨e, a', w', h1, h2⟩ := hr b st Q ρ W w a h hs bf k cs
      exact ⟨e, a', w', h1, .of_steps (.one step_loop) h2⟩
  | exit id => intro hL st Q ρ W w a h hs; exact wp_exit ⟨.exit id, st, ρ, rfl, Ext.refl ρ, hs, h⟩
  | ret => intro hL st Q ρ W w a h hs; exact wp_ret ⟨.ret, st, ρ, trivial, Ext.refl ρ, hs, h⟩
  | region id ops draw =>
    intro hL st Q ρ W w a h hs
    exact regionA_ok hm hT hI hs h fun ρ' st' a' w' he hs' hq => ⟨.normal, st', ρ', trivial, he, hs', hq⟩
  | _ => intro hL st Q ρ W w a h hs; exact no_elim h
theorem codeA_ok0 (hm : P.follows .mixedOrders = true) (hT : TabOk P T) {lp : Code → St → (Ex → St → Prop) → Prop} (hr : LoopsOk P lp) {inl : Inl Prop} (hI : InlOk P inl) : RecOk P (codeA PA P T noLoops lp inl) :=
  fun c => codeA_ok hm hT hr hI c fun _ _ _ h => by cases h
theorem loopsA_ok (hm : P.follows .mixedOrders = true) (hT : TabOk P T) {lp : Code → St → (Ex → St → Prop) → Prop} (hr : LoopsOk P lp) {inl : Inl Prop} (hI : InlOk P inl) :
    LoopsOk P fun b st Q => codeA PA P T noLoops lp inl b st fun e st' => match e with | .normal => lp b st' Q | e => Q e st' := by
  intro b st Q ρ W w a h hs bf k cs
  obtain ⟨e, a1, w1, hp, harr⟩ := codeA_ok0 hm hT hr hI b _ _ ρ W w a h hs bf (.inLoop b :: k) cs
  obtain ⟨e', st', ρ', g1, g2, g3, g4⟩ := hp
  cases e' with
  | normal =>
    cases e <;> try exact g1.elim
    obtain ⟨e2, a2, w2, hp2, harr2⟩ := hr b st' Q ρ' W w1 a1 g4 g3 bf k cs
    exact ⟨e2, a2, w2, hp2.ext g2, .of_steps (Steps.trans harr (.one step_inLoop)) harr2⟩
  | exit i =>
    cases e <;> try exact g1.elim
    exact ⟨_, a1, w1, ⟨.exit i, st', ρ', g1, g2, g3, g4⟩, .pass (x := .inLoop b) rfl (fun _ _ => .inl (by simp)) harr⟩
  | ret =>
    cases e <;> try exact g1.elim
    exact ⟨_, a1, w1, ⟨.ret, st', ρ', g1, g2, g3, g4⟩, .pass (x := .inLoop b) rfl (fun _ _ => .inl (by simp)) harr⟩
theorem entry_ok {fn : Func} {args : List AV} {A : List Value} (h : RL ρ W args A) : TR ρ W (entryT fn args) (A.toArray ++ Array.replicate (fn.ntmps - A.toArray.size) undef) := by
  have hl := h.length
  refine ⟨by simp [entryT, hl], fun i v hv => ?_⟩
  simp only [entryT] at hv
  rw [List.getElem?_append] at hv
  split at hv
  · simp only [List.getElem?_map, Option.map_eq_some_iff] at hv
    obtain ⟨u, h1, h2⟩ := hv
    simp at h2; subst h2
    obtain ⟨V, g1, g2⟩ := h.get i u h1
    refine ⟨V, ?_, g2⟩
    rw [Array.getElem?_append_left (by rename_i hlt; simp at hlt; simp; omega)]
    simpa using g1
  · simp [List.getElem?_replicate] at hv
def resSem (tmps : Array Value) : ResultVar → Sem Value
  | .tmp t => pure (tmps.getD t undef)
  | .cell a t => do loadVar t (← asAddr (tmps.getD a undef))
theorem results_eq (fn : Func) (tmps : Array Value) : results fn tmps = (do let vs ← fn.results.mapM (resSem tmps); pure (if h : vs.size = 1 then vs[0] else .tuple vs)) := by
  unfold results
  congr 1
theorem res_ok {st : St} {a : Act} (hs : RelS ρ W st a w) : ∀ (l : List ResultVar) (r : List AV), resA P st l = some r → ∃ R, (l.mapM (resSem a.tmps)).run P w = .ok R w ∧ RL ρ W r R
  | [], r, hq => by simp [resA] at hq; subst hq; exact ⟨[], by simp, .nil⟩
  | .tmp t :: l, r, hq => by
    simp only [resA] at hq
    split at hq
    · rename_i v vs h1 h2
      simp at hq; subst hq
      obtain ⟨R, g1, g2⟩ := res_ok hs l vs h2
      have hv := hs.ev0 (.tmp t) v h1
      exact ⟨_ :: R, by simp [List.mapM_cons, g1, resSem, Act.eval], .cons hv g2⟩
    · cases hq
  | .cell c t :: l, r, hq => by
    simp only [resA] at hq
    split at hq
    · rename_i m i s j vs h1 h2
      split at hq
      · rename_i v hl
        simp at hq; subst hq
        obtain ⟨R, g1, g2⟩ := res_ok hs l vs h2
        have hv := hs.ev0 (.tmp c) _ h1
        obtain ⟨V, g3, g4⟩ := loadA_ok (P := P) hs.h (rdFlat_ok st.h) hv hl
        refine ⟨V :: R, ?_, .cons g4 g2⟩
        generalize hC : a.eval (.tmp c) = C at hv
        cases hv with | ptr i s j hp =>
        simp only [Act.eval] at hC
        simp only [Instr.loadAt, Instr.sureAddr, Sem.run_bind, Sem.run_pure, Result.andThen_ok, hC, Act.eval] at g3
        simp [List.mapM_cons, resSem, g1, hC, asAddr, g3]
      · cases hq
    · cases hq
theorem resV_ok {r : List AV} {R : List Value} (h : RL ρ W r R) : RV ρ W (resV r) (if hh : R.toArray.size = 1 then R.toArray[0] else .tuple R.toArray) := by
  cases h with
  | nil => simp; exact .tup .nil
  | cons h t =>
    cases t with
    | nil => simpa [resV] using h
    | cons h2 t2 => simp [resV]; exact .tup (.cons h (.cons h2 t2))
theorem body_ok {LT : LTab Prop} {lp : Code → St → (Ex → St → Prop) → Prop} {inl : Inl Prop} {g : FuncId} {fn : Func} (hf : P.funcs[g]? = some fn)
    (hc : ∀ c, fn.body = some c → ∀ (st : St) (Q : Ex → St → Prop) (ρ : Names) (W w : World) (a : Act), codeA PA P T LT lp inl c st Q → RelS ρ W st a w → c.wp P (Post ρ W Q) a w)
    {args : List AV} {A : List Value} {h : Heap} {K : AV → Heap → Prop} (hA : RL ρ W args A) (hR : Rel ρ W h w) (hq : bodyA PA P T LT lp inl fn args h K) :
    Calls P g A.toArray w fun e w' => ∃ V, e = .returned V ∧ ∃ ρ' v h', Ext ρ ρ' ∧ RV ρ' W v V ∧ Rel ρ' W h' w' ∧ K v h' := by
  unfold bodyA at hq
  split at hq
  case h_2 => exact no_elim hq
  rename_i c hb
  rw [fl_eq, fst_eq] at hq
  refine calls_of_wp hf hb (wp_mono (hc c hb _ _ ρ W w _ hq ⟨entry_ok hA, hR, rfl⟩) fun e a' w' hp => ?_)
  obtain ⟨e', st', ρ', g1, g2, g3, g4⟩ := hp
  have fin : (match resA P st' fn.results.toList with | some l => fl PA l fun l => K (resV l) st'.h | none => False) → (a'.defers = [] ∧ ∃ v, (results fn a'.tmps).run P w' = .ok v w' ∧ ∃ V, Ending.returned v = .returned V ∧ ∃ ρ2 v2 h', Ext ρ ρ2 ∧ RV ρ2 W v2 V ∧ Rel ρ2 W h' w' ∧ K v2 h') := fun hk => by
    split at hk
    · rename_i l hl
      rw [fl_eq] at hk
      obtain ⟨R, r1, r2⟩ := res_ok (P := P) g3 _ _ hl
      refine ⟨g3.d, _, ?_, _, rfl, ρ', _, st'.h, g2, resV_ok r2, g3.h, hk⟩
      rw [results_eq, Sem.run_bind, Array.mapM_eq_mapM_toList, Sem.run_map, r1]
      rfl
    · exact no_elim hk
  cases e' with
  | normal =>
    cases e <;> try exact g1.elim
    exact fin g4
  | ret =>
    cases e <;> try exact g1.elim
    exact fin g4
  | exit i => exact no_elim g4
theorem callFunc_enter {g : FuncId} {fn : Func} (hf : P.funcs[g]? = some fn) (hb : fn.body.isSome = true) (hn : (fn.name == "runtime.NumGoroutine") = false) (A : Array Value) (w : World) : (callFunc g A).run P w = .ok (.enter g A) w := by
  have h1 : fn.name ≠ "runtime.NumGoroutine" := by simpa using hn
  have h2 : fn.body ≠ none := by cases h : fn.body <;> simp_all
  simp [callFunc, hf, h1, h2]
theorem bodyA_some {LT : LTab Prop} {rec : Code → St → (Ex → St → Prop) → Prop} {inl : Inl Prop} {fn : Func} {args : List AV} {h : Heap} {K : AV → Heap → Prop} (hq : bodyA PA P T LT rec inl fn args h K) : fn.body.isSome = true := by
  unfold bodyA at hq
  split at hq
  · rename_i hb; simp [hb]
  · exact no_elim hq
theorem all_ok (hm : P.follows .mixedOrders = true) (hT : TabOk P T) : ∀ n, LoopsOk P (alp PA P T n) ∧ InlOk P (ainl PA P T n)
  | 0 => ⟨fun _ _ _ _ _ _ _ h => no_elim h, fun _ _ _ _ _ _ h => no_elim h⟩
  | n + 1 => by
    obtain ⟨h1, h2⟩ := all_ok hm hT n
    refine ⟨loopsA_ok hm hT h1 h2, ?_⟩
    intro o c hc e h Kx hq ρ W w a hR he K Q hK
    simp only [ainl] at hq
    split at hq
    case h_2 => exact no_elim hq
    rename_i g args hta
    split at hq
    case h_2 => exact no_elim hq
    rename_i fn hf
    split at hq
    case isTrue => exact no_elim hq
    rename_i hn
    obtain ⟨A, hA, hrun⟩ := target_ok (P := P) he hta o.type
    have hcalls := body_ok hf (fun c _ => codeA_ok0 hm hT h1 h2 c) hA hR hq
    refine wp_gives (R := fun V w' => ∃ ρ' v h', Ext ρ ρ' ∧ RV ρ' W v V ∧ Rel ρ' W h' w' ∧ Kx v h') (.inl ⟨callFunc_enter hf (bodyA_some hq) (by simpa using hn) _ _, hcalls.mono fun e w' he => ?_⟩) (by simp only [execOp, hc]; exact hrun w) fun V w' hVw => ?_
    · exact he
    · obtain ⟨ρ', v, h', g1, g2, g3, g4⟩ := hVw
      exact hK ρ' V w' v h' g1 g2 g3 g4
/-- The contracts of a function's loops. -/
def LtOk (P : Program) (g : FuncId) (LT : LTab Prop) : Prop := ∀ fn c, P.funcs[g]? = some fn → fn.body = some c → ∀ b ∈ Code.loops c, ∀ lc, LT (Code.first b) = some lc → LcOk P b lc
theorem ltOk_none (P : Program) (g : FuncId) : LtOk P g noLoops := fun _ _ _ _ _ _ _ h => by cases h
/-- **A function's contract**: what its body comes to from an empty heap of its own. -/
theorem afn_ok (hm : P.follows .mixedOrders = true) (hT : TabOk P T) {n : Nat} {g : FuncId} {LT : LTab Prop} (hLT : LtOk P g LT) {args : List AV} {K : AV → Heap → Prop} (hq : afn PA P T LT n g args K) {A : List Value} {w : World} (hA : RL noNames w args A) :
    Calls P g A.toArray w fun e w' => ∃ V, e = .returned V ∧ ∃ ρ' v h', RV ρ' w v V ∧ Rel ρ' w h' w' ∧ K v h' := by
  unfold afn at hq
  split at hq
  case h_2 => exact no_elim hq
  rename_i fn hf
  obtain ⟨h1, h2⟩ := all_ok (P := P) (T := T) hm hT n
  refine (body_ok hf (fun c hc => codeA_ok hm hT h1 h2 c (hLT fn c hf hc)) hA (Rel.start w) hq).mono fun e w' he => ?_
  obtain ⟨V, g1, ρ', v, h', g2, g3, g4, g5⟩ := he
  exact ⟨V, g1, ρ', v, h', g3, g4, g5⟩
end Go.Proofs.Ytkongoedgngfhaa.A
namespace Go.Proofs.Ytkongoedgngfhaa.A
open Go Go.RowKit
set_option linter.unusedVariables false
set_option linter.unusedSimpArgs false
variable {ρ : Names} {W w : World}
theorem rl_nil {L : List Value} : RL ρ W [] L ↔ L = [] := ⟨fun h => by cases h; rfl, fun h => by subst h; exact .nil⟩
theorem rl_cons {v : AV} {l : List AV} {L : List Value} : RL ρ W (v :: l) L ↔ ∃ V L', L = V :: L' ∧ RV ρ W v V ∧ RL ρ W l L' :=
  ⟨fun h => by cases h with | cons h t => exact ⟨_, _, rfl, h, t⟩, fun ⟨_, _, e, h, t⟩ => by subst e; exact .cons h t⟩
theorem rv_int {k : IntKind} {n : Int} {V : Value} : RV ρ W (.int k n) V ↔ V = .int k n := ⟨fun h => by cases h; rfl, fun h => by subst h; exact .int _ _⟩
theorem rv_bool {b : Bool} {V : Value} : RV ρ W (.bool b) V ↔ V = .bool b := ⟨fun h => by cases h; rfl, fun h => by subst h; exact .bool _⟩
theorem rv_str {s : ByteArray} {V : Value} : RV ρ W (.str s) V ↔ V = .string s := ⟨fun h => by cases h; rfl, fun h => by subst h; exact .str _⟩
theorem rv_agg {l : List AV} {V : Value} : RV ρ W (.agg l) V ↔ ∃ L, V = .agg L.toArray ∧ RL ρ W l L := ⟨fun h => by cases h with | agg h => exact ⟨_, rfl, h⟩, fun ⟨_, e, h⟩ => by subst e; exact .agg h⟩
theorem rv_tup {l : List AV} {V : Value} : RV ρ W (.tup l) V ↔ ∃ L, V = .tuple L.toArray ∧ RL ρ W l L := ⟨fun h => by cases h with | tup h => exact ⟨_, rfl, h⟩, fun ⟨_, e, h⟩ => by subst e; exact .tup h⟩
theorem rv_fn {f : Fn} {V : Value} : RV ρ W (.fn f [] []) V ↔ V = .func f #[] #[] := ⟨fun h => by cases h with | fn f ha hb => cases ha; cases hb; rfl, fun h => by subst h; exact .fn f .nil .nil⟩
theorem brc_iff {b : Bool} {A B : Prop} : brc b A B ↔ (b = true → A) ∧ (b = false → B) := by cases b <;> simp [brc]
theorem ite_some_iff {α : Type} {c : Prop} [Decidable c] {a b : Option α} {r : α} : (if c then a else b) = some r ↔ (c ∧ a = some r) ∨ (¬ c ∧ b = some r) := by split <;> simp_all
noncomputable def gd {α : Type} [Inhabited α] (o : Option α) : α := o.getD default
theorem gd_some {α : Type} [Inhabited α] (a : α) : gd (some a) = a := rfl
theorem wrap_i64 (x : Int) : IntKind.i64.wrap x = wrap64 x := by rw [IntKind.wrap_i64]; unfold wrap64; rfl
theorem mixed : Try.prog.follows .mixedOrders = true := by kernel_rfl
/-- Contracts, by a list. -/
def tab : List (FuncId × Con) → Tab
  | [], _ => none
  | (g, c) :: r, f => if f = g then some c else tab r f
theorem tab_nil {P : Program} : TabOk P (tab []) := fun _ _ h => by cases h
theorem tab_cons {P : Program} {g : FuncId} {c : Con} {r : List (FuncId × Con)} (h : COk P g c) (t : TabOk P (tab r)) : TabOk P (tab ((g, c) :: r)) := fun f con hq => by
  simp only [tab] at hq
  split at hq
  · rename_i e; subst e; simp at hq; subst hq; exact h
  · exact t f con hq
/-- A printed function's proof as a contract's at one place. -/
theorem gives_of_calls {g : FuncId} {fn : Func} (hf : Try.prog.funcs[g]? = some fn) (hb : fn.body.isSome = true) (hn : (fn.name == "runtime.NumGoroutine") = false) {A : List Value} {v : AV} {V : Value} {R : World → World → Prop}
    (h : Calls Try.prog g A.toArray w fun e w' => e = .returned V ∧ R w w') (hV : ∀ w', RV noNames w' v V) (hR : ∀ w', R w w' → Below w.heap.size w w') : Gives Try.prog g A.toArray w fun V w' => RV noNames w' v V ∧ Below w.heap.size w w' :=
  .inl ⟨callFunc_enter hf hb hn _ _, h.mono fun e w' he => ⟨V, he.1, hV w', hR w' he.2⟩⟩
theorem gives_of_run {g : FuncId} {A : List Value} {v : AV} {V : Value} (h : (callFunc g A.toArray).run Try.prog w = .ok (.value V) w) (hV : ∀ w', RV noNames w' v V) : Gives Try.prog g A.toArray w fun V w' => RV noNames w' v V ∧ Below w.heap.size w w' :=
  .inr ⟨V, h, hV w, Below.refl _ _⟩
theorem calls_of_vc {T : Tab} (hT : TabOk Try.prog T) {n : Nat} {g : FuncId} {args : List AV} {v : AV} {V : Value} {A : List Value} (hq : afv PA Try.prog T noLoops n g args fun u => u = v) (hA : RL noNames w args A) (hV : ∀ ρ V', RV ρ w v V' → V' = V) :
    Calls Try.prog g A.toArray w fun e w' => e = .returned V ∧ Below w.heap.size w w' :=
  (afn_ok mixed hT (ltOk_none _ _) hq hA).mono fun e w' ⟨V', e1, ρ', u, h', g2, g3, g4⟩ => by subst g4; subst e1; exact ⟨by rw [hV ρ' V' g2], g3.bel⟩
end Go.Proofs.Ytkongoedgngfhaa.A
namespace Go.Proofs.Ytkongoedgngfhaa.P
open Go.RowKit Go.Proofs.YtkongoedgngfhaaW.PrintWords Go.Proofs.YtkongoedgngfhaaW.PrintLast Go.Proofs.YtkongoedgngfhaaW.PrintMore
attribute [local go_sem] max2_int min2_int max_two min_two max_three min_three max_four min_four   -- for this text's walks alone
set_option linter.unusedVariables false
set_option linter.unusedSimpArgs false
def errW : Option Int → Value
  | none => .nilIface
  | some c => .iface 0 (.int .i64 c)
theorem errW_none : errW none = .nilIface := rfl
theorem errW_some (c : Int) : errW (some c) = .iface 0 (.int .i64 c) := rfl
theorem setCell_drewN_ (w : World) (n : Nat) (a : Addr) (v : Value) : (w.drewN n).setCell a v = (w.setCell a v).drewN n := rfl
theorem info5 : (Try.prog.info? 5).map (fun i => (i.zero, i.size, i.bytes)) = some (some (.int .u8 0), 1, 1) := by kernel_rfl
theorem info52 : (Try.prog.info? 52).map (fun i => (i.zero, i.size, i.bytes)) = some (some (.int .u64 0), 1, 8) := by kernel_rfl
-- the values' own types
end Go.Proofs.Ytkongoedgngfhaa.P
namespace Go.Proofs.Ytkongoedgngfhaa.P
open Go.RowKit Go.Proofs.YtkongoedgngfhaaW.PrintWords Go.Proofs.YtkongoedgngfhaaW.PrintLast Go.Proofs.YtkongoedgngfhaaW.PrintMore
attribute [local go_sem] max2_int min2_int max_two min_two max_three min_three max_four min_four   -- for this text's walks alone
set_option linter.unusedVariables false
set_option linter.unusedSimpArgs false
theorem eqA25 (d : Nat) (w : World) (x0 y0 : Int) (x1 y1 : Int) :
    (Op.equalIn (d + 2) 25 (.agg #[.int .i64 x0, .int .i64 x1]) (.agg #[.int .i64 y0, .int .i64 y1])).run Try.prog w = .ok (x0 == y0 && (x1 == y1)) w := by
  refine eqA_of Try.underlying25 (by kernel_rfl) ?_
  refine eqf_cons (by rfl) (by go_simp; rfl) (by go_simp; rfl) (by go_simp) ?_
  exact eqf_last (by rfl) (by go_simp; rfl) (by go_simp; rfl) (by go_simp)
end Go.Proofs.Ytkongoedgngfhaa.P
namespace Go.Proofs.Ytkongoedgngfhaa.P
open Go.RowKit Go.Proofs.YtkongoedgngfhaaW.PrintWords Go.Proofs.YtkongoedgngfhaaW.PrintLast Go.Proofs.YtkongoedgngfhaaW.PrintMore
open Go.Proofs.Ytkongoedgngfhaa.A
attribute [local go_sem] max2_int min2_int max_two min_two max_three min_three max_four min_four   -- for this text's walks alone
set_option linter.unusedVariables false
set_option linter.unusedSimpArgs false
def dec_Right.f (a0_0 : Int) (a0_1 : Int) : Option (Bool) := if a0_1 ≥ 0 then (some (decide (a0_1 ≤ 9))) else (some false)
set_option maxRecDepth 100000 in
theorem dec_Right.vc (a0_0 : Int) (a0_1 : Int) (K : AV → Prop) : afv PA Try.prog (tab []) noLoops 2 31 [.agg [.int .i64 a0_0, .int .i64 a0_1]] K = (brc (decide (a0_1 ≥ 0)) (K (AV.bool (decide (a0_1 ≤ 9)))) (K (AV.bool false))) := by kernel_rfl
set_option maxHeartbeats 1000000 in
set_option maxRecDepth 100000 in
theorem dec_Right.calls (a0_0 : Int) (a0_1 : Int) (r : Bool) (w : World) (h : dec_Right.f a0_0 a0_1 = some r) :
    Calls Try.prog 31 #[.agg #[.int .i64 a0_0, .int .i64 a0_1]] w fun e w' => e = .returned (.bool r) ∧ Below w.heap.size w w' := by
  refine calls_of_vc (A := [.agg #[.int .i64 a0_0, .int .i64 a0_1]]) (v := .bool r) (tab_nil) ((dec_Right.vc a0_0 a0_1 _).mpr ?_) (by simp [rl_cons, rl_nil, rv_int, rv_bool, rv_str, rv_agg, rv_fn]) (fun ρ V' hV => by simpa [rl_cons, rl_nil, rv_int, rv_bool, rv_str, rv_agg, rv_tup] using hV)
  unfold dec_Right.f at h
  (try simp only [bne, Option.bind_eq_some_iff, ite_some_iff] at h)
  (try simp only [bne, brc_iff, wrap_i64])
  first
    | grind (splits := 60) [gd_some]
    | ((repeat' (first | (have or_ : Or _ _ := h; clear or_; rcases h with h | h) | (have or_ : Exists _ := h; clear or_; obtain ⟨_, h⟩ := h) | (have or_ : And _ _ := h; clear or_; obtain ⟨hq_, h⟩ := h))) <;> (try simp only [Option.some.injEq, Prod.mk.injEq, reduceCtorEq] at h) <;> (try subst_vars) <;> first | (simp_all [gd_some] <;> (try omega) <;> done) | grind (splits := 60) [gd_some])
    | (intros; subst_vars; simp_all [gd_some]; done)
noncomputable def dec_Right.con : Con
  | [.agg [.int .i64 a0_0, .int .i64 a0_1]] => some ((dec_Right.f a0_0 a0_1).isSome, .bool (gd (dec_Right.f a0_0 a0_1)))
  | _ => none
set_option maxRecDepth 100000 in
theorem dec_Right.cok : COk Try.prog 31 (dec_Right.con) := by
  intro args p v hc hp w A hA
  unfold dec_Right.con at hc
  split at hc
  · rename_i a0_0 a0_1
    simp only [Option.some.injEq, Prod.mk.injEq] at hc
    obtain ⟨rfl, rfl⟩ := hc
    rcases hf : dec_Right.f a0_0 a0_1 with _ | r
    · rw [hf] at hp; cases hp
    obtain rfl : A = [.agg #[.int .i64 a0_0, .int .i64 a0_1]] := by simpa [rl_cons, rl_nil, rv_int, rv_bool, rv_str, rv_agg, rv_fn] using hA
    exact gives_of_calls (fn := Try.f31) Try.func31 (by kernel_rfl) (by kernel_rfl) (dec_Right.calls _ _ _ w hf) (fun _ => by simp [gd_some, rl_cons, rl_nil, rv_int, rv_bool, rv_str, rv_agg, rv_tup]) (fun _ h => h)
  · cases hc
def dec_Text.f (a0_0 : Int) (a0_1 : Int) : Option (ByteArray) := if a0_0 = -5 ∧ a0_1 = 1 then some ⟨#[45, 48, 46, 53]⟩ else none
set_option maxHeartbeats 8000000 in
set_option maxRecDepth 100000 in
theorem dec_Text.calls (a0_0 : Int) (a0_1 : Int) (r : ByteArray) (w : World) (h : dec_Text.f a0_0 a0_1 = some r) :
    Calls Try.prog 9 #[.agg #[.int .i64 a0_0, .int .i64 a0_1]] w fun e w' => e = .returned (.string r) ∧ Below w.heap.size w w' := by
  have hu25 := Try.underlying25
  have HB := Aside0.mk (Below.refl w.heap.size w)
  obtain ⟨e0, e1, e2⟩ : a0_0 = -5 ∧ a0_1 = 1 ∧ r = ⟨#[45, 48, 46, 53]⟩ := by
    unfold dec_Text.f at h
    by_cases g : a0_0 = -5 ∧ a0_1 = 1
    · rw [if_pos g] at h
      exact ⟨g.1, g.2, (Option.some.inj h).symm⟩
    · rw [if_neg g] at h
      cases h
  subst e0 e1 e2
  clear h
  go_enter Try.func9, Try.ntmps9
  go_wp2_with (first | ((with_reducible refine gate_dst (N := 1) rfl ?_); refine box_event ?hg (N := 1) ?hd (cs := #[.int .i64 (-5), .int .i64 1]) (t := 25) ?hr ?_; (case hd => rfl); (case hg => rfl); (case hr => first | (go_simp; done) | (go_simp; rfl)); intro gb1 hg w4 hbox hb; have n0_ := Aside0.mk (below_step (by repeat (first | (with_reducible first | exact HB.out | apply below_alloc | apply kB | apply below_drew1) | exact HB.out)) hb); have n1_ := Aside0.mk (hbox); have n2_ := Aside0.mk ((by rw [hg]; exact (below_size (by repeat (first | (with_reducible first | exact HB.out | apply below_alloc | apply kB | apply below_drew1) | exact HB.out))) : w.heap.size ≤ gb1)); clear HB; have HB := n0_; have BK1 := n1_; have GE1 := n2_; clear n0_ n1_ n2_; clear hb hbox hg; have hcz1_0 : w4.cell? ⟨gb1, 0, none⟩ = some (.int .i64 (-5)) := (blk_cell BK1.out 0).trans rfl; have hcz1_1 : w4.cell? ⟨gb1, 1, none⟩ = some (.int .i64 1) := (blk_cell BK1.out 1).trans rfl; have hfz1_0 := kA BK1.out 0; have hfz1_1 := kA BK1.out 1) | (go_at_call 31; (with_reducible refine (dec_Right.calls (-5) 1 true _ rfl).mono ?_); rintro e w5 ⟨rfl, hb⟩; have n0_ := Aside0.mk (below_step (by repeat (first | (with_reducible first | exact HB.out | apply below_alloc | apply kB | apply below_drew1) | exact HB.out)) hb); have n1_ := Aside0.mk (blk_below (g := gb1) (by (with_reducible repeat (first | refine blk_drewN ?_ _ | refine blk_drew ?_ | refine blk_alloc ?_ _)); exact BK1.out) hb); clear HB BK1; have HB := n0_; have BK1 := n1_; clear n0_ n1_; clear hb; have hcz2_0 : w5.cell? ⟨gb1, 0, none⟩ = some (.int .i64 (-5)) := (blk_cell BK1.out 0).trans rfl; have hcz2_1 : w5.cell? ⟨gb1, 1, none⟩ = some (.int .i64 1) := (blk_cell BK1.out 1).trans rfl; have hfz2_0 := kA BK1.out 0; have hfz2_1 := kA BK1.out 1))
  have wn1 : IntKind.u64.wrap (-IntKind.u64.wrap (-5)) = 5 := by decide
  rw [wn1]
  obtain ⟨gb2, hg2⟩ : ∃ g, w5.heap.size = g := ⟨_, rfl⟩
  have GE2 : Aside0 (w.heap.size ≤ gb2) := ⟨by rw [← hg2]; exact below_size HB.out⟩
  have NB : Aside0 (gb1 ≠ gb2) := ⟨by
    intro e
    have := Nat.ne_of_lt (blk_lt BK1.out)
    omega⟩
  rw [hg2]
  go_loopg [3, 6, 7] 3 (fun q v3 v6 v7 wr => Aside0 (Below w.heap.size w wr) ∧ Aside0 (wr.heap[gb1]? = some (.cells #[.int .i64 (-5), .int .i64 1] 25 (0, 0))) ∧
    ((Aside0 (q = 3) ∧ v3 = .int .u64 5 ∧ v6 = .int .i64 32 ∧ v7 = .int .i64 0 ∧ Aside0 (wr.heap[gb2]? = some (.cells #[.int .u8 0, .int .u8 0, .int .u8 0, .int .u8 0, .int .u8 0, .int .u8 0, .int .u8 0, .int .u8 0, .int .u8 0, .int .u8 0, .int .u8 0, .int .u8 0, .int .u8 0, .int .u8 0, .int .u8 0, .int .u8 0, .int .u8 0, .int .u8 0, .int .u8 0, .int .u8 0, .int .u8 0, .int .u8 0, .int .u8 0, .int .u8 0, .int .u8 0, .int .u8 0, .int .u8 0, .int .u8 0, .int .u8 0, .int .u8 0, .int .u8 0, .int .u8 0] 53 (0, 0)))) ∨
     (Aside0 (q = 2) ∧ v3 = .int .u64 0 ∧ v6 = .int .i64 31 ∧ v7 = .int .i64 1 ∧ Aside0 (wr.heap[gb2]? = some (.cells #[.int .u8 0, .int .u8 0, .int .u8 0, .int .u8 0, .int .u8 0, .int .u8 0, .int .u8 0, .int .u8 0, .int .u8 0, .int .u8 0, .int .u8 0, .int .u8 0, .int .u8 0, .int .u8 0, .int .u8 0, .int .u8 0, .int .u8 0, .int .u8 0, .int .u8 0, .int .u8 0, .int .u8 0, .int .u8 0, .int .u8 0, .int .u8 0, .int .u8 0, .int .u8 0, .int .u8 0, .int .u8 0, .int .u8 0, .int .u8 0, .int .u8 0, .int .u8 53] 53 (0, 0)))) ∨
     (Aside0 (q = 1) ∧ v3 = .int .u64 0 ∧ v6 = .int .i64 29 ∧ v7 = .int .i64 2 ∧ Aside0 (wr.heap[gb2]? = some (.cells #[.int .u8 0, .int .u8 0, .int .u8 0, .int .u8 0, .int .u8 0, .int .u8 0, .int .u8 0, .int .u8 0, .int .u8 0, .int .u8 0, .int .u8 0, .int .u8 0, .int .u8 0, .int .u8 0, .int .u8 0, .int .u8 0, .int .u8 0, .int .u8 0, .int .u8 0, .int .u8 0, .int .u8 0, .int .u8 0, .int .u8 0, .int .u8 0, .int .u8 0, .int .u8 0, .int .u8 0, .int .u8 0, .int .u8 0, .int .u8 48, .int .u8 46, .int .u8 53] 53 (0, 0))))))
  case atStart =>
    refine ⟨⟨below_alloc HB.out _⟩, ⟨blk_alloc BK1.out _⟩, .inl ⟨⟨rfl⟩, rfl, rfl, rfl, ⟨?_⟩⟩⟩
    rw [← hg2]
    exact blk_new w5 _
  case round =>
    obtain ⟨HB, BK1, h⟩ := hrel
    rcases h with ⟨hq, rfl, rfl, rfl, BK2⟩ | ⟨hq, rfl, rfl, rfl, BK2⟩ | ⟨hq, rfl, rfl, rfl, BK2⟩
    · have hcz3_0 : wr.cell? ⟨gb1, 0, none⟩ = some (.int .i64 (-5)) := (blk_cell BK1.out 0).trans rfl
      have hcz3_1 : wr.cell? ⟨gb1, 1, none⟩ = some (.int .i64 1) := (blk_cell BK1.out 1).trans rfl
      have hfz3_0 := kA BK1.out 0
      have hfz3_1 := kA BK1.out 1
      have hcz4_29 : wr.cell? ⟨gb2, 29, none⟩ = some (.int .u8 0) := (blk_cell BK2.out 29).trans rfl
      have hfz4_29 := kA BK2.out 29
      have hcz4_30 : wr.cell? ⟨gb2, 30, none⟩ = some (.int .u8 0) := (blk_cell BK2.out 30).trans rfl
      have hfz4_30 := kA BK2.out 30
      have hcz4_31 : wr.cell? ⟨gb2, 31, none⟩ = some (.int .u8 0) := (blk_cell BK2.out 31).trans rfl
      have hfz4_31 := kA BK2.out 31
      go_wp2
      go_roundg 2
      case measure => have := hq.out; omega
      case rel =>
        refine ⟨⟨by repeat (first | (with_reducible first | exact HB.out | apply below_alloc | apply kB | apply below_drew1 | refine below_set ?_ GE2.out) | exact HB.out)⟩, ⟨?_⟩, .inr (.inl ⟨⟨rfl⟩, rfl, rfl, rfl, ⟨?_⟩⟩)⟩
        · exact blk_far BK1.out NB.out _
        · exact blk_put (cs := #[.int .u8 0, .int .u8 0, .int .u8 0, .int .u8 0, .int .u8 0, .int .u8 0, .int .u8 0, .int .u8 0, .int .u8 0, .int .u8 0, .int .u8 0, .int .u8 0, .int .u8 0, .int .u8 0, .int .u8 0, .int .u8 0, .int .u8 0, .int .u8 0, .int .u8 0, .int .u8 0, .int .u8 0, .int .u8 0, .int .u8 0, .int .u8 0, .int .u8 0, .int .u8 0, .int .u8 0, .int .u8 0, .int .u8 0, .int .u8 0, .int .u8 0, .int .u8 0]) BK2.out 31 _ rfl
    · have hcz3_0 : wr.cell? ⟨gb1, 0, none⟩ = some (.int .i64 (-5)) := (blk_cell BK1.out 0).trans rfl
      have hcz3_1 : wr.cell? ⟨gb1, 1, none⟩ = some (.int .i64 1) := (blk_cell BK1.out 1).trans rfl
      have hfz3_0 := kA BK1.out 0
      have hfz3_1 := kA BK1.out 1
      have hcz4_29 : wr.cell? ⟨gb2, 29, none⟩ = some (.int .u8 0) := (blk_cell BK2.out 29).trans rfl
      have hfz4_29 := kA BK2.out 29
      have hcz4_30 : wr.cell? ⟨gb2, 30, none⟩ = some (.int .u8 0) := (blk_cell BK2.out 30).trans rfl
      have hfz4_30 := kA BK2.out 30
      have hcz4_31 : wr.cell? ⟨gb2, 31, none⟩ = some (.int .u8 53) := (blk_cell BK2.out 31).trans rfl
      have hfz4_31 := kA BK2.out 31
      go_wp2
      go_roundg 1
      case measure => have := hq.out; omega
      case rel =>
        refine ⟨⟨by repeat (first | (with_reducible first | exact HB.out | apply below_alloc | apply kB | apply below_drew1 | refine below_set ?_ GE2.out) | exact HB.out)⟩, ⟨?_⟩, .inr (.inr ⟨⟨rfl⟩, rfl, rfl, rfl, ⟨?_⟩⟩)⟩
        · exact blk_far (blk_far BK1.out NB.out _) NB.out _
        · exact blk_put (cs := #[.int .u8 0, .int .u8 0, .int .u8 0, .int .u8 0, .int .u8 0, .int .u8 0, .int .u8 0, .int .u8 0, .int .u8 0, .int .u8 0, .int .u8 0, .int .u8 0, .int .u8 0, .int .u8 0, .int .u8 0, .int .u8 0, .int .u8 0, .int .u8 0, .int .u8 0, .int .u8 0, .int .u8 0, .int .u8 0, .int .u8 0, .int .u8 0, .int .u8 0, .int .u8 0, .int .u8 0, .int .u8 0, .int .u8 0, .int .u8 0, .int .u8 46, .int .u8 53]) (blk_put (cs := #[.int .u8 0, .int .u8 0, .int .u8 0, .int .u8 0, .int .u8 0, .int .u8 0, .int .u8 0, .int .u8 0, .int .u8 0, .int .u8 0, .int .u8 0, .int .u8 0, .int .u8 0, .int .u8 0, .int .u8 0, .int .u8 0, .int .u8 0, .int .u8 0, .int .u8 0, .int .u8 0, .int .u8 0, .int .u8 0, .int .u8 0, .int .u8 0, .int .u8 0, .int .u8 0, .int .u8 0, .int .u8 0, .int .u8 0, .int .u8 0, .int .u8 0, .int .u8 53]) BK2.out 30 _ rfl) 29 _ rfl
    · have hcz3_0 : wr.cell? ⟨gb1, 0, none⟩ = some (.int .i64 (-5)) := (blk_cell BK1.out 0).trans rfl
      have hcz3_1 : wr.cell? ⟨gb1, 1, none⟩ = some (.int .i64 1) := (blk_cell BK1.out 1).trans rfl
      have hfz3_0 := kA BK1.out 0
      have hfz3_1 := kA BK1.out 1
      have hcz4_29 : wr.cell? ⟨gb2, 29, none⟩ = some (.int .u8 48) := (blk_cell BK2.out 29).trans rfl
      have hfz4_29 := kA BK2.out 29
      have hcz4_30 : wr.cell? ⟨gb2, 30, none⟩ = some (.int .u8 46) := (blk_cell BK2.out 30).trans rfl
      have hfz4_30 := kA BK2.out 30
      have hcz4_31 : wr.cell? ⟨gb2, 31, none⟩ = some (.int .u8 53) := (blk_cell BK2.out 31).trans rfl
      have hfz4_31 := kA BK2.out 31
      have hrd : ReadsInt wr .u8 (some ⟨gb2, 29, none⟩) 3 [48, 46, 53] := ⟨rfl, by simp, fun _ => ⟨_, rfl, fun j hj => by
        rcases (by omega : j = 0 ∨ j = 1 ∨ j = 2) with e | e | e <;> subst e
        · exact hcz4_29
        · exact hcz4_30
        · exact hcz4_31⟩⟩
      have hcv := string_of_reads (P := Try.prog) (src := 54) (dst := 9) (e := 5) (c := 3) (by kernel_rfl) (by kernel_rfl) (by kernel_rfl) hrd
      clear hrd
      go_wp2
      go_ret
      exact ⟨rfl, HB.out⟩
noncomputable def dec_Text.con : Con
  | [.agg [.int .i64 a0_0, .int .i64 a0_1]] => some ((dec_Text.f a0_0 a0_1).isSome, .str (gd (dec_Text.f a0_0 a0_1)))
  | _ => none
set_option maxRecDepth 100000 in
theorem dec_Text.cok : COk Try.prog 9 (dec_Text.con) := by
  intro args p v hc hp w A hA
  unfold dec_Text.con at hc
  split at hc
  · rename_i a0_0 a0_1
    simp only [Option.some.injEq, Prod.mk.injEq] at hc
    obtain ⟨rfl, rfl⟩ := hc
    rcases hf : dec_Text.f a0_0 a0_1 with _ | r
    · rw [hf] at hp; cases hp
    obtain rfl : A = [.agg #[.int .i64 a0_0, .int .i64 a0_1]] := by simpa [rl_cons, rl_nil, rv_int, rv_bool, rv_str, rv_agg, rv_fn] using hA
    exact gives_of_calls (fn := Try.f9) Try.func9 (by kernel_rfl) (by kernel_rfl) (dec_Text.calls _ _ _ w hf) (fun _ => by simp [gd_some, rl_cons, rl_nil, rv_int, rv_bool, rv_str, rv_agg, rv_tup]) (fun _ h => h)
  · cases hc
def computuslaw04_given.f (a0_0 : Int) (a0_1 : Int) : Option (Int × Int) := some (a0_0, a0_1)
set_option maxRecDepth 100000 in
theorem computuslaw04_given.vc (a0_0 : Int) (a0_1 : Int) (K : AV → Prop) : afv PA Try.prog (tab []) noLoops 2 10 [.agg [.int .i64 a0_0, .int .i64 a0_1]] K = (K (AV.agg [AV.int IntKind.i64 a0_0, AV.int IntKind.i64 a0_1])) := by kernel_rfl
set_option maxHeartbeats 1000000 in
set_option maxRecDepth 100000 in
theorem computuslaw04_given.calls (a0_0 : Int) (a0_1 : Int) (r1 : Int) (r2 : Int) (w : World) (h : computuslaw04_given.f a0_0 a0_1 = some (r1, r2)) :
    Calls Try.prog 10 #[.agg #[.int .i64 a0_0, .int .i64 a0_1]] w fun e w' => e = .returned (.agg #[.int .i64 r1, .int .i64 r2]) ∧ Below w.heap.size w w' := by
  refine calls_of_vc (A := [.agg #[.int .i64 a0_0, .int .i64 a0_1]]) (v := .agg [.int .i64 r1, .int .i64 r2]) (tab_nil) ((computuslaw04_given.vc a0_0 a0_1 _).mpr ?_) (by simp [rl_cons, rl_nil, rv_int, rv_bool, rv_str, rv_agg, rv_fn]) (fun ρ V' hV => by simpa [rl_cons, rl_nil, rv_int, rv_bool, rv_str, rv_agg, rv_tup] using hV)
  unfold computuslaw04_given.f at h
  (try simp only [bne, Option.bind_eq_some_iff, ite_some_iff] at h)
  (try simp only [bne, brc_iff, wrap_i64])
  first
    | grind (splits := 60) [gd_some]
    | ((repeat' (first | (have or_ : Or _ _ := h; clear or_; rcases h with h | h) | (have or_ : Exists _ := h; clear or_; obtain ⟨_, h⟩ := h) | (have or_ : And _ _ := h; clear or_; obtain ⟨hq_, h⟩ := h))) <;> (try simp only [Option.some.injEq, Prod.mk.injEq, reduceCtorEq] at h) <;> (try subst_vars) <;> first | (simp_all [gd_some] <;> (try omega) <;> done) | grind (splits := 60) [gd_some])
    | (intros; subst_vars; simp_all [gd_some]; done)
noncomputable def computuslaw04_given.con : Con
  | [.agg [.int .i64 a0_0, .int .i64 a0_1]] => some ((computuslaw04_given.f a0_0 a0_1).isSome, .agg [.int .i64 (gd (computuslaw04_given.f a0_0 a0_1)).1, .int .i64 (gd (computuslaw04_given.f a0_0 a0_1)).2])
  | _ => none
set_option maxRecDepth 100000 in
theorem computuslaw04_given.cok : COk Try.prog 10 (computuslaw04_given.con) := by
  intro args p v hc hp w A hA
  unfold computuslaw04_given.con at hc
  split at hc
  · rename_i a0_0 a0_1
    simp only [Option.some.injEq, Prod.mk.injEq] at hc
    obtain ⟨rfl, rfl⟩ := hc
    rcases hf : computuslaw04_given.f a0_0 a0_1 with _ | ⟨r1, r2⟩
    · rw [hf] at hp; cases hp
    obtain rfl : A = [.agg #[.int .i64 a0_0, .int .i64 a0_1]] := by simpa [rl_cons, rl_nil, rv_int, rv_bool, rv_str, rv_agg, rv_fn] using hA
    exact gives_of_calls (fn := Try.f10) Try.func10 (by kernel_rfl) (by kernel_rfl) (computuslaw04_given.calls _ _ _ _ w hf) (fun _ => by simp [gd_some, rl_cons, rl_nil, rv_int, rv_bool, rv_str, rv_agg, rv_tup]) (fun _ h => h)
  · cases hc
end Go.Proofs.Ytkongoedgngfhaa.P
namespace Go.Proofs.Ytkongoedgngfhaa.P
open Go.RowKit Go.Proofs.YtkongoedgngfhaaW.PrintWords Go.Proofs.YtkongoedgngfhaaW.PrintLast Go.Proofs.YtkongoedgngfhaaW.PrintMore
open Go.Proofs.Ytkongoedgngfhaa.A
attribute [local go_sem] max2_int min2_int max_two min_two max_three min_three max_four min_four   -- for this text's walks alone
set_option linter.unusedVariables false
set_option linter.unusedSimpArgs false
def num_signed.j0 : Nat → Bool → Bool → Int → Int → Option (Int × Int)
  | 0, _, _, _, _ => none
  | k + 1, x0, x10, x105000, x105001 => if x10 = true then (some (wrap64 (IntKind.u64.wrap (-x105001)), 0)) else (if x0 = true then (some (0, 10)) else (if x105001 > 9223372036854775807 then (some (0, 10)) else (some (wrap64 (x105001), 0))))
def num_signed.f (k : Nat) (a0 : Bool) (a1_0 : Int) (a1_1 : Int) : Option (Int × Int) := if a1_0 = 0 then (if a0 = true then (num_signed.j0 k a0 (decide (a1_1 ≤ 9223372036854775808)) a1_0 a1_1) else (num_signed.j0 k a0 false a1_0 a1_1)) else (some (0, 10))
theorem num_signed.mono_l : ∀ k, (∀ y0 y1 y2 y3, LeO (num_signed.j0 k y0 y1 y2 y3) (num_signed.j0 (k + 1) y0 y1 y2 y3))
  | 0 => fun _ _ _ _ r h => by simp [num_signed.j0] at h
  | k + 1 => by
    have ih0 := num_signed.mono_l k
    · intro y0 y1 y2 y3
      unfold num_signed.j0
      repeat' first
      | (with_reducible exact ih0 _ _ _ _)
      | (with_reducible exact LeO.refl _)
      | (with_reducible exact LeO.none _)
      | (with_reducible refine LeO.ite ?_ ?_)
      | (with_reducible refine LeO.bind ?_ (fun _ => ?_))
      | exact ih0 _ _ _ _
      | exact LeO.none _
      | refine LeO.ite ?_ ?_
      | refine LeO.bind ?_ (fun _ => ?_)
theorem num_signed.mono : ∀ a0 a1 a2 k, LeO (num_signed.f k a0 a1 a2) (num_signed.f (k + 1) a0 a1 a2) := by
  intro a0 a1 a2 k
  have ih0 := num_signed.mono_l k
  unfold num_signed.f
  repeat' first
      | (with_reducible exact ih0 _ _ _ _)
      | (with_reducible exact LeO.refl _)
      | (with_reducible exact LeO.none _)
      | (with_reducible refine LeO.ite ?_ ?_)
      | (with_reducible refine LeO.bind ?_ (fun _ => ?_))
      | exact ih0 _ _ _ _
      | exact LeO.none _
      | refine LeO.ite ?_ ?_
      | refine LeO.bind ?_ (fun _ => ?_)
set_option maxRecDepth 100000 in
theorem num_signed.vc (k : Nat) (a0 : Bool) (a1_0 : Int) (a1_1 : Int) (K : AV → Prop) : afv PA Try.prog (tab []) noLoops 2 53 [.bool a0, .agg [.int .u64 a1_0, .int .u64 a1_1]] K = (brc (a1_0 != 0) (K (AV.tup [AV.int IntKind.i64 0, AV.int IntKind.i64 10])) (brc a0 (brc (decide (a1_1 ≤ 9223372036854775808)) (K (AV.tup [AV.int IntKind.i64 (IntKind.wrap IntKind.i64 (IntKind.wrap IntKind.u64 (0 - a1_1))), AV.int IntKind.i64 0])) (brc a0 (K (AV.tup [AV.int IntKind.i64 0, AV.int IntKind.i64 10])) (brc (decide (a1_1 > 9223372036854775807)) (K (AV.tup [AV.int IntKind.i64 0, AV.int IntKind.i64 10])) (K (AV.tup [AV.int IntKind.i64 (IntKind.wrap IntKind.i64 a1_1), AV.int IntKind.i64 0]))))) (brc a0 (K (AV.tup [AV.int IntKind.i64 0, AV.int IntKind.i64 10])) (brc (decide (a1_1 > 9223372036854775807)) (K (AV.tup [AV.int IntKind.i64 0, AV.int IntKind.i64 10])) (K (AV.tup [AV.int IntKind.i64 (IntKind.wrap IntKind.i64 a1_1), AV.int IntKind.i64 0])))))) := by kernel_rfl
set_option maxHeartbeats 1000000 in
set_option maxRecDepth 100000 in
theorem num_signed.calls (k : Nat) (a0 : Bool) (a1_0 : Int) (a1_1 : Int) (r1 : Int) (r2 : Int) (w : World) (h : num_signed.f k a0 a1_0 a1_1 = some (r1, r2)) :
    Calls Try.prog 53 #[.bool a0, .agg #[.int .u64 a1_0, .int .u64 a1_1]] w fun e w' => e = .returned (.tuple #[.int .i64 r1, .int .i64 r2]) ∧ Below w.heap.size w w' := by
  refine calls_of_vc (A := [.bool a0, .agg #[.int .u64 a1_0, .int .u64 a1_1]]) (v := .tup [.int .i64 r1, .int .i64 r2]) (tab_nil) ((num_signed.vc k a0 a1_0 a1_1 _).mpr ?_) (by simp [rl_cons, rl_nil, rv_int, rv_bool, rv_str, rv_agg, rv_fn]) (fun ρ V' hV => by simpa [rl_cons, rl_nil, rv_int, rv_bool, rv_str, rv_agg, rv_tup] using hV)
  unfold num_signed.f at h
  cases k with
  | zero =>
    (try simp only [num_signed.j0] at h)
    (try simp only [bne, Option.bind_eq_some_iff, ite_some_iff] at h)
    (try simp only [bne, brc_iff, wrap_i64])
    first
      | grind (splits := 60) [gd_some]
      | ((repeat' (first | (have or_ : Or _ _ := h; clear or_; rcases h with h | h) | (have or_ : Exists _ := h; clear or_; obtain ⟨_, h⟩ := h) | (have or_ : And _ _ := h; clear or_; obtain ⟨hq_, h⟩ := h))) <;> (try simp only [Option.some.injEq, Prod.mk.injEq, reduceCtorEq] at h) <;> (try subst_vars) <;> first | (simp_all [gd_some] <;> (try omega) <;> rcases hb0 : decide (a1_1 ≤ 9223372036854775808) with _ | _ <;> rcases hb1 : decide (a1_1 > 9223372036854775807) with _ | _ <;> simp_all [gd_some] <;> done) | grind (splits := 60) [gd_some])
      | (intros; subst_vars; simp_all [gd_some]; done)
  | succ k =>
    (try simp only [num_signed.j0] at h)
    (try simp only [bne, Option.bind_eq_some_iff, ite_some_iff] at h)
    (try simp only [bne, brc_iff, wrap_i64])
    first
      | grind (splits := 60) [gd_some]
      | ((repeat' (first | (have or_ : Or _ _ := h; clear or_; rcases h with h | h) | (have or_ : Exists _ := h; clear or_; obtain ⟨_, h⟩ := h) | (have or_ : And _ _ := h; clear or_; obtain ⟨hq_, h⟩ := h))) <;> (try simp only [Option.some.injEq, Prod.mk.injEq, reduceCtorEq] at h) <;> (try subst_vars) <;> first | (simp_all [gd_some] <;> (try omega) <;> rcases hb0 : decide (a1_1 ≤ 9223372036854775808) with _ | _ <;> rcases hb1 : decide (a1_1 > 9223372036854775807) with _ | _ <;> simp_all [gd_some] <;> done) | grind (splits := 60) [gd_some])
      | (intros; subst_vars; simp_all [gd_some]; done)
noncomputable def num_signed.con (k : Nat) : Con
  | [.bool a0, .agg [.int .u64 a1_0, .int .u64 a1_1]] => some ((num_signed.f k a0 a1_0 a1_1).isSome, .tup [.int .i64 (gd (num_signed.f k a0 a1_0 a1_1)).1, .int .i64 (gd (num_signed.f k a0 a1_0 a1_1)).2])
  | _ => none
set_option maxRecDepth 100000 in
theorem num_signed.cok (k : Nat) : COk Try.prog 53 (num_signed.con k) := by
  intro args p v hc hp w A hA
  unfold num_signed.con at hc
  split at hc
  · rename_i a0 a1_0 a1_1
    simp only [Option.some.injEq, Prod.mk.injEq] at hc
    obtain ⟨rfl, rfl⟩ := hc
    rcases hf : num_signed.f k a0 a1_0 a1_1 with _ | ⟨r1, r2⟩
    · rw [hf] at hp; cases hp
    obtain rfl : A = [.bool a0, .agg #[.int .u64 a1_0, .int .u64 a1_1]] := by simpa [rl_cons, rl_nil, rv_int, rv_bool, rv_str, rv_agg, rv_fn] using hA
    exact gives_of_calls (fn := Try.f53) Try.func53 (by kernel_rfl) (by kernel_rfl) (num_signed.calls _ _ _ _ _ _ w hf) (fun _ => by simp [gd_some, rl_cons, rl_nil, rv_int, rv_bool, rv_str, rv_agg, rv_tup]) (fun _ h => h)
  · cases hc
def bits_Mul64.f (a0 : Int) (a1 : Int) : Option (Int × Int) := some (IntKind.u64.wrap ((IntKind.u64.wrap ((IntKind.u64.wrap ((a0 / 4294967296) * (a1 / 4294967296))) + ((IntKind.u64.wrap ((IntKind.u64.wrap ((a0 / 4294967296) * (Go.bits .and .u64 a1 4294967295))) + ((IntKind.u64.wrap ((Go.bits .and .u64 a0 4294967295) * (Go.bits .and .u64 a1 4294967295))) / 4294967296))) / 4294967296))) + ((IntKind.u64.wrap ((Go.bits .and .u64 (IntKind.u64.wrap ((IntKind.u64.wrap ((a0 / 4294967296) * (Go.bits .and .u64 a1 4294967295))) + ((IntKind.u64.wrap ((Go.bits .and .u64 a0 4294967295) * (Go.bits .and .u64 a1 4294967295))) / 4294967296))) 4294967295) + (IntKind.u64.wrap ((Go.bits .and .u64 a0 4294967295) * (a1 / 4294967296))))) / 4294967296)), IntKind.u64.wrap (a0 * a1))
set_option maxHeartbeats 8000000 in
set_option maxRecDepth 100000 in
theorem bits_Mul64.calls (a0 : Int) (a1 : Int) (r1 : Int) (r2 : Int) (w : World) (h : bits_Mul64.f a0 a1 = some (r1, r2)) :
    Calls Try.prog 64 #[.int .u64 a0, .int .u64 a1] w fun e w' => e = .returned (.tuple #[.int .u64 r1, .int .u64 r2]) ∧ Drawn0 w w' := by
  have H : (some (IntKind.u64.wrap ((IntKind.u64.wrap ((IntKind.u64.wrap ((a0 / 4294967296) * (a1 / 4294967296))) + ((IntKind.u64.wrap ((IntKind.u64.wrap ((a0 / 4294967296) * (Go.bits .and .u64 a1 4294967295))) + ((IntKind.u64.wrap ((Go.bits .and .u64 a0 4294967295) * (Go.bits .and .u64 a1 4294967295))) / 4294967296))) / 4294967296))) + ((IntKind.u64.wrap ((Go.bits .and .u64 (IntKind.u64.wrap ((IntKind.u64.wrap ((a0 / 4294967296) * (Go.bits .and .u64 a1 4294967295))) + ((IntKind.u64.wrap ((Go.bits .and .u64 a0 4294967295) * (Go.bits .and .u64 a1 4294967295))) / 4294967296))) 4294967295) + (IntKind.u64.wrap ((Go.bits .and .u64 a0 4294967295) * (a1 / 4294967296))))) / 4294967296)), IntKind.u64.wrap (a0 * a1))) = some (r1, r2) := h
  clear h
  simp only [Option.some.injEq, Prod.mk.injEq] at H
  obtain ⟨rfl, rfl⟩ := H
  go_enter Try.func64, Try.ntmps64
  go_wp2
  go_ret2
  exact ⟨by first | rfl | (simp; done) | (simp [*]; done), by repeat (first | exact Drawn0.refl _ | apply Drawn0.step)⟩
noncomputable def bits_Mul64.con : Con
  | [.int .u64 a0, .int .u64 a1] => some ((bits_Mul64.f a0 a1).isSome, .tup [.int .u64 (gd (bits_Mul64.f a0 a1)).1, .int .u64 (gd (bits_Mul64.f a0 a1)).2])
  | _ => none
set_option maxRecDepth 100000 in
theorem bits_Mul64.cok : COk Try.prog 64 (bits_Mul64.con) := by
  intro args p v hc hp w A hA
  unfold bits_Mul64.con at hc
  split at hc
  · rename_i a0 a1
    simp only [Option.some.injEq, Prod.mk.injEq] at hc
    obtain ⟨rfl, rfl⟩ := hc
    rcases hf : bits_Mul64.f a0 a1 with _ | ⟨r1, r2⟩
    · rw [hf] at hp; cases hp
    obtain rfl : A = [.int .u64 a0, .int .u64 a1] := by simpa [rl_cons, rl_nil, rv_int, rv_bool, rv_str, rv_agg, rv_fn] using hA
    exact gives_of_calls (fn := Try.f64) Try.func64 (by kernel_rfl) (by kernel_rfl) (bits_Mul64.calls _ _ _ _ w hf) (fun _ => by simp [gd_some, rl_cons, rl_nil, rv_int, rv_bool, rv_str, rv_agg, rv_tup]) (fun _ h => h.below)
  · cases hc
def num_size.f (a0 : Int) : Option (Int) := if a0 < 0 then (some (IntKind.u64.wrap (-(IntKind.u64.wrap (a0))))) else (some (IntKind.u64.wrap (a0)))
set_option maxHeartbeats 8000000 in
set_option maxRecDepth 100000 in
theorem num_size.calls (a0 : Int) (r : Int) (w : World) (h : num_size.f a0 = some r) :
    Calls Try.prog 65 #[.int .i64 a0] w fun e w' => e = .returned (.int .u64 r) ∧ Drawn0 w w' := by
  have H : (if a0 < 0 then (some (IntKind.u64.wrap (-(IntKind.u64.wrap (a0))))) else (some (IntKind.u64.wrap (a0)))) = some r := h
  clear h
  by_cases c2 : a0 < 0
  · rw [if_pos c2] at H
    have c2b0 : decide (a0 < 0) = true := decide_eq_true c2
    clear c2
    obtain rfl := Option.some.inj H
    go_enter Try.func65, Try.ntmps65
    go_wp2
    go_ret
    exact ⟨by first | rfl | (simp; done) | (simp [*]; done), by repeat (first | exact Drawn0.refl _ | apply Drawn0.step)⟩
  · rw [if_neg c2] at H
    have c2b0 : decide (a0 < 0) = false := decide_eq_false c2
    clear c2
    obtain rfl := Option.some.inj H
    go_enter Try.func65, Try.ntmps65
    go_wp2
    go_ret
    exact ⟨by first | rfl | (simp; done) | (simp [*]; done), by repeat (first | exact Drawn0.refl _ | apply Drawn0.step)⟩
noncomputable def num_size.con : Con
  | [.int .i64 a0] => some ((num_size.f a0).isSome, .int .u64 (gd (num_size.f a0)))
  | _ => none
set_option maxRecDepth 100000 in
theorem num_size.cok : COk Try.prog 65 (num_size.con) := by
  intro args p v hc hp w A hA
  unfold num_size.con at hc
  split at hc
  · rename_i a0
    simp only [Option.some.injEq, Prod.mk.injEq] at hc
    obtain ⟨rfl, rfl⟩ := hc
    rcases hf : num_size.f a0 with _ | r
    · rw [hf] at hp; cases hp
    obtain rfl : A = [.int .i64 a0] := by simpa [rl_cons, rl_nil, rv_int, rv_bool, rv_str, rv_agg, rv_fn] using hA
    exact gives_of_calls (fn := Try.f65) Try.func65 (by kernel_rfl) (by kernel_rfl) (num_size.calls _ _ w hf) (fun _ => by simp [gd_some, rl_cons, rl_nil, rv_int, rv_bool, rv_str, rv_agg, rv_tup]) (fun _ h => h.below)
  · cases hc
def num_product.f (a0 : Int) (a1 : Int) : Option (Int × Int) := (num_size.f a0).bind fun t106 => ((num_size.f a1).bind fun t107 => ((bits_Mul64.f t106 t107).bind fun bt108 => (some (bt108.1, bt108.2))))
set_option maxRecDepth 100000 in
theorem num_product.vc (a0 : Int) (a1 : Int) (K : AV → Prop) : afv PA Try.prog (tab [(64, bits_Mul64.con), (65, num_size.con)]) noLoops 2 54 [.int .i64 a0, .int .i64 a1] K = (brc (Option.isSome (num_size.f a0)) (∀ (m0 : Int), m0 = gd (num_size.f a0) → brc (Option.isSome (num_size.f a1)) (∀ (m1 : Int), m1 = gd (num_size.f a1) → brc (Option.isSome (bits_Mul64.f m0 m1)) (∀ (m2 : Int), m2 = Prod.fst (gd (bits_Mul64.f m0 m1)) → ∀ (m3 : Int), m3 = Prod.snd (gd (bits_Mul64.f m0 m1)) → K (AV.agg [AV.int IntKind.u64 m2, AV.int IntKind.u64 m3])) False) False) False) := by kernel_rfl
set_option maxHeartbeats 1000000 in
set_option maxRecDepth 100000 in
theorem num_product.calls (a0 : Int) (a1 : Int) (r1 : Int) (r2 : Int) (w : World) (h : num_product.f a0 a1 = some (r1, r2)) :
    Calls Try.prog 54 #[.int .i64 a0, .int .i64 a1] w fun e w' => e = .returned (.agg #[.int .u64 r1, .int .u64 r2]) ∧ Below w.heap.size w w' := by
  refine calls_of_vc (A := [.int .i64 a0, .int .i64 a1]) (v := .agg [.int .u64 r1, .int .u64 r2]) (tab_cons (bits_Mul64.cok) (tab_cons (num_size.cok) (tab_nil))) ((num_product.vc a0 a1 _).mpr ?_) (by simp [rl_cons, rl_nil, rv_int, rv_bool, rv_str, rv_agg, rv_fn]) (fun ρ V' hV => by simpa [rl_cons, rl_nil, rv_int, rv_bool, rv_str, rv_agg, rv_tup] using hV)
  unfold num_product.f at h
  (try simp only [bne, Option.bind_eq_some_iff, ite_some_iff] at h)
  (try simp only [bne, brc_iff, wrap_i64])
  first
    | grind (splits := 60) [gd_some]
    | ((repeat' (first | (have or_ : Or _ _ := h; clear or_; rcases h with h | h) | (have or_ : Exists _ := h; clear or_; obtain ⟨_, h⟩ := h) | (have or_ : And _ _ := h; clear or_; obtain ⟨hq_, h⟩ := h))) <;> (try simp only [Option.some.injEq, Prod.mk.injEq, reduceCtorEq] at h) <;> (try subst_vars) <;> first | (simp_all [gd_some] <;> (try omega) <;> done) | grind (splits := 60) [gd_some])
    | (intros; subst_vars; simp_all [gd_some]; done)
noncomputable def num_product.con : Con
  | [.int .i64 a0, .int .i64 a1] => some ((num_product.f a0 a1).isSome, .agg [.int .u64 (gd (num_product.f a0 a1)).1, .int .u64 (gd (num_product.f a0 a1)).2])
  | _ => none
set_option maxRecDepth 100000 in
theorem num_product.cok : COk Try.prog 54 (num_product.con) := by
  intro args p v hc hp w A hA
  unfold num_product.con at hc
  split at hc
  · rename_i a0 a1
    simp only [Option.some.injEq, Prod.mk.injEq] at hc
    obtain ⟨rfl, rfl⟩ := hc
    rcases hf : num_product.f a0 a1 with _ | ⟨r1, r2⟩
    · rw [hf] at hp; cases hp
    obtain rfl : A = [.int .i64 a0, .int .i64 a1] := by simpa [rl_cons, rl_nil, rv_int, rv_bool, rv_str, rv_agg, rv_fn] using hA
    exact gives_of_calls (fn := Try.f54) Try.func54 (by kernel_rfl) (by kernel_rfl) (num_product.calls _ _ _ _ w hf) (fun _ => by simp [gd_some, rl_cons, rl_nil, rv_int, rv_bool, rv_str, rv_agg, rv_tup]) (fun _ h => h)
  · cases hc
def num_Mul.f (k : Nat) (a0 : Int) (a1 : Int) : Option (Int × Int) := (num_product.f a0 a1).bind fun bt110 => ((num_signed.f k ((decide (a0 < 0)) != (decide (a1 < 0))) bt110.1 bt110.2).bind fun bt112 => (some (bt112.1, bt112.2)))
theorem num_Mul.mono : ∀ a0 a1 k, LeO (num_Mul.f k a0 a1) (num_Mul.f (k + 1) a0 a1) := by
  intro a0 a1 k
  unfold num_Mul.f
  repeat' first
      | (with_reducible exact num_signed.mono _ _ _ _)
      | (with_reducible exact LeO.refl _)
      | (with_reducible exact LeO.none _)
      | (with_reducible refine LeO.ite ?_ ?_)
      | (with_reducible refine LeO.bind ?_ (fun _ => ?_))
      | exact num_signed.mono _ _ _ _
      | exact LeO.none _
      | refine LeO.ite ?_ ?_
      | refine LeO.bind ?_ (fun _ => ?_)
set_option maxRecDepth 100000 in
theorem num_Mul.vc (k : Nat) (a0 : Int) (a1 : Int) (K : AV → Prop) : afv PA Try.prog (tab [(53, num_signed.con k), (54, num_product.con)]) noLoops 2 32 [.int .i64 a0, .int .i64 a1] K = (brc (Option.isSome (num_product.f a0 a1)) (∀ (m0 : Int), m0 = Prod.fst (gd (num_product.f a0 a1)) → ∀ (m1 : Int), m1 = Prod.snd (gd (num_product.f a0 a1)) → brc (Option.isSome (num_signed.f k (!decide (a0 < 0) == decide (a1 < 0)) m0 m1)) (∀ (m2 : Int), m2 = Prod.fst (gd (num_signed.f k (!decide (a0 < 0) == decide (a1 < 0)) m0 m1)) → ∀ (m3 : Int), m3 = Prod.snd (gd (num_signed.f k (!decide (a0 < 0) == decide (a1 < 0)) m0 m1)) → K (AV.tup [AV.int IntKind.i64 m2, AV.int IntKind.i64 m3])) False) False) := by kernel_rfl
set_option maxHeartbeats 1000000 in
set_option maxRecDepth 100000 in
theorem num_Mul.calls (k : Nat) (a0 : Int) (a1 : Int) (r1 : Int) (r2 : Int) (w : World) (h : num_Mul.f k a0 a1 = some (r1, r2)) :
    Calls Try.prog 32 #[.int .i64 a0, .int .i64 a1] w fun e w' => e = .returned (.tuple #[.int .i64 r1, .int .i64 r2]) ∧ Below w.heap.size w w' := by
  refine calls_of_vc (A := [.int .i64 a0, .int .i64 a1]) (v := .tup [.int .i64 r1, .int .i64 r2]) (tab_cons (num_signed.cok k) (tab_cons (num_product.cok) (tab_nil))) ((num_Mul.vc k a0 a1 _).mpr ?_) (by simp [rl_cons, rl_nil, rv_int, rv_bool, rv_str, rv_agg, rv_fn]) (fun ρ V' hV => by simpa [rl_cons, rl_nil, rv_int, rv_bool, rv_str, rv_agg, rv_tup] using hV)
  unfold num_Mul.f at h
  (try simp only [bne, Option.bind_eq_some_iff, ite_some_iff] at h)
  (try simp only [bne, brc_iff, wrap_i64])
  first
    | grind (splits := 60) [gd_some]
    | ((repeat' (first | (have or_ : Or _ _ := h; clear or_; rcases h with h | h) | (have or_ : Exists _ := h; clear or_; obtain ⟨_, h⟩ := h) | (have or_ : And _ _ := h; clear or_; obtain ⟨hq_, h⟩ := h))) <;> (try simp only [Option.some.injEq, Prod.mk.injEq, reduceCtorEq] at h) <;> (try subst_vars) <;> first | (simp_all [gd_some] <;> (try omega) <;> rcases hb0 : decide (a0 < 0) with _ | _ <;> rcases hb1 : decide (a1 < 0) with _ | _ <;> simp_all [gd_some] <;> done) | grind (splits := 60) [gd_some])
    | (intros; subst_vars; simp_all [gd_some]; done)
noncomputable def num_Mul.con (k : Nat) : Con
  | [.int .i64 a0, .int .i64 a1] => some ((num_Mul.f k a0 a1).isSome, .tup [.int .i64 (gd (num_Mul.f k a0 a1)).1, .int .i64 (gd (num_Mul.f k a0 a1)).2])
  | _ => none
set_option maxRecDepth 100000 in
theorem num_Mul.cok (k : Nat) : COk Try.prog 32 (num_Mul.con k) := by
  intro args p v hc hp w A hA
  unfold num_Mul.con at hc
  split at hc
  · rename_i a0 a1
    simp only [Option.some.injEq, Prod.mk.injEq] at hc
    obtain ⟨rfl, rfl⟩ := hc
    rcases hf : num_Mul.f k a0 a1 with _ | ⟨r1, r2⟩
    · rw [hf] at hp; cases hp
    obtain rfl : A = [.int .i64 a0, .int .i64 a1] := by simpa [rl_cons, rl_nil, rv_int, rv_bool, rv_str, rv_agg, rv_fn] using hA
    exact gives_of_calls (fn := Try.f32) Try.func32 (by kernel_rfl) (by kernel_rfl) (num_Mul.calls _ _ _ _ _ w hf) (fun _ => by simp [gd_some, rl_cons, rl_nil, rv_int, rv_bool, rv_str, rv_agg, rv_tup]) (fun _ h => h)
  · cases hc
theorem num_Mul.up {k : Nat} {a0 : Int} {a1 : Int} {r : Int × Int} (h : num_Mul.f k a0 a1 = some r) : num_Mul.f (k + 1) a0 a1 = some r := num_Mul.mono a0 a1 k _ h
theorem num_Mul.le {a0 : Int} {a1 : Int} {r : Int × Int} {k n : Nat} (h : num_Mul.f k a0 a1 = some r) (hk : k ≤ n) : num_Mul.f n a0 a1 = some r := by
  induction hk with
  | refl => exact h
  | step _ ih => exact num_Mul.up ih
end Go.Proofs.Ytkongoedgngfhaa.P
namespace Go.Proofs.Ytkongoedgngfhaa.P
open Go.RowKit Go.Proofs.YtkongoedgngfhaaW.PrintWords Go.Proofs.YtkongoedgngfhaaW.PrintLast Go.Proofs.YtkongoedgngfhaaW.PrintMore
open Go.Proofs.Ytkongoedgngfhaa.A
attribute [local go_sem] max2_int min2_int max_two min_two max_three min_three max_four min_four   -- for this text's walks alone
set_option linter.unusedVariables false
set_option linter.unusedSimpArgs false
def num_Sub.f (a0 : Int) (a1 : Int) : Option (Int × Int) := if ((decide ((wrap64 (a0 - a1)) < a0)) != (decide (a1 > 0))) = true then (some (0, 10)) else (some (wrap64 (a0 - a1), 0))
set_option maxHeartbeats 8000000 in
set_option maxRecDepth 100000 in
theorem num_Sub.calls (a0 : Int) (a1 : Int) (r1 : Int) (r2 : Int) (w : World) (h : num_Sub.f a0 a1 = some (r1, r2)) :
    Calls Try.prog 33 #[.int .i64 a0, .int .i64 a1] w fun e w' => e = .returned (.tuple #[.int .i64 r1, .int .i64 r2]) ∧ Drawn0 w w' := by
  have H : (if ((decide ((wrap64 (a0 - a1)) < a0)) != (decide (a1 > 0))) = true then (some (0, 10)) else (some (wrap64 (a0 - a1), 0))) = some (r1, r2) := h
  clear h
  by_cases c3 : ((decide ((wrap64 (a0 - a1)) < a0)) != (decide (a1 > 0))) = true
  · rw [if_pos c3] at H
    have c3b0 : ((decide ((wrap64 (a0 - a1)) < a0)) != (decide (a1 > 0))) = true := c3
    (try (have c3b1 : decide ((decide ((wrap64 (a0 - a1)) < a0)) = (decide (a1 > 0))) = false := by simpa using c3))
    (try (have c3b2 : ((decide ((wrap64 (a0 - a1)) < a0)) == (decide (a1 > 0))) = false := by simpa using c3))
    (try (have c3b3 : ¬ ((decide ((wrap64 (a0 - a1)) < a0)) = (decide (a1 > 0))) := by simpa using c3))
    clear c3
    simp only [Option.some.injEq, Prod.mk.injEq] at H
    obtain ⟨rfl, rfl⟩ := H
    go_enter Try.func33, Try.ntmps33
    go_wp2
    go_ret2
    exact ⟨by first | rfl | (simp; done) | (simp [*]; done), by repeat (first | exact Drawn0.refl _ | apply Drawn0.step)⟩
  · rw [if_neg c3] at H
    have c3b0 : ((decide ((wrap64 (a0 - a1)) < a0)) != (decide (a1 > 0))) = false := by simpa using c3
    (try (have c3b1 : decide ((decide ((wrap64 (a0 - a1)) < a0)) = (decide (a1 > 0))) = true := by simpa using c3))
    (try (have c3b2 : ((decide ((wrap64 (a0 - a1)) < a0)) == (decide (a1 > 0))) = true := by simpa using c3))
    clear c3
    simp only [Option.some.injEq, Prod.mk.injEq] at H
    obtain ⟨rfl, rfl⟩ := H
    go_enter Try.func33, Try.ntmps33
    go_wp2
    go_ret2
    exact ⟨by first | rfl | (simp; done) | (simp [*]; done), by repeat (first | exact Drawn0.refl _ | apply Drawn0.step)⟩
def num_Neg.f (a0 : Int) : Option (Int × Int) := (num_Sub.f 0 a0).bind fun bt114 => (some (bt114.1, bt114.2))
set_option maxHeartbeats 8000000 in
set_option maxRecDepth 100000 in
theorem num_Neg.calls (a0 : Int) (r1 : Int) (r2 : Int) (w : World) (h : num_Neg.f a0 = some (r1, r2)) :
    Calls Try.prog 34 #[.int .i64 a0] w fun e w' => e = .returned (.tuple #[.int .i64 r1, .int .i64 r2]) ∧ Drawn0 w w' := by
  have H : ((num_Sub.f 0 a0).bind fun bt114 => (some (bt114.1, bt114.2))) = some (r1, r2) := h
  clear h
  replace H := Option.bind_eq_some_iff.mp H
  obtain ⟨⟨t114, t115⟩, A20, H⟩ := H
  replace H : (some (t114, t115)) = some (r1, r2) := H
  have A2 := Aside0.mk A20
  clear A20
  simp only [Option.some.injEq, Prod.mk.injEq] at H
  obtain ⟨rfl, rfl⟩ := H
  go_enter Try.func34, Try.ntmps34
  go_wp2_with (first | ((with_reducible refine gate_callee (f := 33) rfl ?_); refine goesL_ (some 5) rfl rfl Try.func33 (by kernel_rfl) rfl #[.int .i64 0, .int .i64 a0] rfl (by (try simp only [List.map_toArray, List.map_cons, List.map_nil]); first | done | rfl | (simp only [List.length_drop, List.length_take]; rfl)) ?_; (with_reducible refine (num_Sub.calls 0 a0 t114 t115 _ A2.out).mono ?_); rintro e w' ⟨rfl, ⟨nd, rfl⟩⟩; refine ⟨_, rfl, ?_⟩))
  go_ret2
  exact ⟨by first | rfl | (simp; done) | (simp [*]; done), by repeat (first | exact Drawn0.refl _ | apply Drawn0.step)⟩
def dec_made.f (a0 : Int) (a1 : Int) (a2 : Int) : Option (Int × Int × Int) := if a2 = 0 then (some (a0, a1, 0)) else (some (0, 0, a2))
set_option maxRecDepth 100000 in
theorem dec_made.vc (a0 : Int) (a1 : Int) (a2 : Int) (K : AV → Prop) : afv PA Try.prog (tab []) noLoops 2 35 [.int .i64 a0, .int .i64 a1, .int .i64 a2] K = (brc (a2 != 0) (K (AV.tup [AV.agg [AV.int IntKind.i64 0, AV.int IntKind.i64 0], AV.int IntKind.i64 a2])) (K (AV.tup [AV.agg [AV.int IntKind.i64 a0, AV.int IntKind.i64 a1], AV.int IntKind.i64 0]))) := by kernel_rfl
set_option maxHeartbeats 1000000 in
set_option maxRecDepth 100000 in
theorem dec_made.calls (a0 : Int) (a1 : Int) (a2 : Int) (r1 : Int) (r2 : Int) (r3 : Int) (w : World) (h : dec_made.f a0 a1 a2 = some (r1, r2, r3)) :
    Calls Try.prog 35 #[.int .i64 a0, .int .i64 a1, .int .i64 a2] w fun e w' => e = .returned (.tuple #[.agg #[.int .i64 r1, .int .i64 r2], .int .i64 r3]) ∧ Below w.heap.size w w' := by
  refine calls_of_vc (A := [.int .i64 a0, .int .i64 a1, .int .i64 a2]) (v := .tup [.agg [.int .i64 r1, .int .i64 r2], .int .i64 r3]) (tab_nil) ((dec_made.vc a0 a1 a2 _).mpr ?_) (by simp [rl_cons, rl_nil, rv_int, rv_bool, rv_str, rv_agg, rv_fn]) (fun ρ V' hV => by simpa [rl_cons, rl_nil, rv_int, rv_bool, rv_str, rv_agg, rv_tup] using hV)
  unfold dec_made.f at h
  (try simp only [bne, Option.bind_eq_some_iff, ite_some_iff] at h)
  (try simp only [bne, brc_iff, wrap_i64])
  first
    | grind (splits := 60) [gd_some]
    | ((repeat' (first | (have or_ : Or _ _ := h; clear or_; rcases h with h | h) | (have or_ : Exists _ := h; clear or_; obtain ⟨_, h⟩ := h) | (have or_ : And _ _ := h; clear or_; obtain ⟨hq_, h⟩ := h))) <;> (try simp only [Option.some.injEq, Prod.mk.injEq, reduceCtorEq] at h) <;> (try subst_vars) <;> first | (simp_all [gd_some] <;> (try omega) <;> done) | grind (splits := 60) [gd_some])
    | (intros; subst_vars; simp_all [gd_some]; done)
noncomputable def dec_made.con : Con
  | [.int .i64 a0, .int .i64 a1, .int .i64 a2] => some ((dec_made.f a0 a1 a2).isSome, .tup [.agg [.int .i64 (gd (dec_made.f a0 a1 a2)).1, .int .i64 (gd (dec_made.f a0 a1 a2)).2.1], .int .i64 (gd (dec_made.f a0 a1 a2)).2.2])
  | _ => none
set_option maxRecDepth 100000 in
theorem dec_made.cok : COk Try.prog 35 (dec_made.con) := by
  intro args p v hc hp w A hA
  unfold dec_made.con at hc
  split at hc
  · rename_i a0 a1 a2
    simp only [Option.some.injEq, Prod.mk.injEq] at hc
    obtain ⟨rfl, rfl⟩ := hc
    rcases hf : dec_made.f a0 a1 a2 with _ | ⟨r1, r2, r3⟩
    · rw [hf] at hp; cases hp
    obtain rfl : A = [.int .i64 a0, .int .i64 a1, .int .i64 a2] := by simpa [rl_cons, rl_nil, rv_int, rv_bool, rv_str, rv_agg, rv_fn] using hA
    exact gives_of_calls (fn := Try.f35) Try.func35 (by kernel_rfl) (by kernel_rfl) (dec_made.calls _ _ _ _ _ _ w hf) (fun _ => by simp [gd_some, rl_cons, rl_nil, rv_int, rv_bool, rv_str, rv_agg, rv_tup]) (fun _ h => h)
  · cases hc
def dec_Read.f (a0 : ByteArray) : Option (Int × Int × Int) := if a0 = ⟨#[49, 50, 46, 51, 52, 48]⟩ then some (12340, 3, 0) else none
set_option maxHeartbeats 8000000 in
set_option maxRecDepth 100000 in
theorem dec_Read.at12 (w : World) :
    Calls Try.prog 11 #[.string ⟨#[49, 50, 46, 51, 52, 48]⟩] w fun e w' => e = .returned (.tuple #[.agg #[.int .i64 12340, .int .i64 3], .int .i64 0]) ∧ Below w.heap.size w w' := by
  have hu25 := Try.underlying25
  have HB := Aside0.mk (Below.refl w.heap.size w)
  have hn : ((((⟨#[49, 50, 46, 51, 52, 48]⟩ : ByteArray)[0]'(by decide)).toNat : Int) == 45) = false := by decide
  have hp : ((((⟨#[49, 50, 46, 51, 52, 48]⟩ : ByteArray)[0]'(by decide)).toNat : Int) == 43) = false := by decide
  go_enter Try.func11, Try.ntmps11
  go_wp2
  obtain ⟨g2, hg2⟩ : ∃ g, w.heap.size = g := ⟨_, rfl⟩
  obtain ⟨g5, hg5⟩ : ∃ g, w.heap.size + 1 = g := ⟨_, rfl⟩
  obtain ⟨gI, hgI⟩ : ∃ g, w.heap.size + 1 + 1 = g := ⟨_, rfl⟩
  have GE2 : Aside0 (w.heap.size ≤ g2) := ⟨by omega⟩
  have GE5 : Aside0 (w.heap.size ≤ g5) := ⟨by omega⟩
  have GEI : Aside0 (w.heap.size ≤ gI) := ⟨by omega⟩
  have N2I : Aside0 (g2 ≠ gI) := ⟨by omega⟩
  have N5I : Aside0 (g5 ≠ gI) := ⟨by omega⟩
  have N5I_ : Aside0 (gI ≠ g5) := ⟨by omega⟩
  have N25 : Aside0 (g2 ≠ g5) := ⟨by omega⟩
  have N25_ : Aside0 (g5 ≠ g2) := ⟨by omega⟩
  rw [hgI, hg5, hg2]
  go_loopg [6, 7, 8] 7 (fun q v6 v7 v8 wr => Aside0 (Below w.heap.size w wr) ∧ Aside0 (wr.heap[g2]? = some (.cells #[.int .i64 0, .int .i64 0] 25 (0, 0))) ∧
    ((Aside0 (q = 7) ∧ v6 = .int .i64 0 ∧ v7 = .bool false ∧ v8 = .int .i64 0 ∧ Aside0 (wr.heap[g5]? = some (.cells #[.int .i64 0, .int .i64 0] 25 (0, 0))) ∧ Aside0 (wr.heap[gI]? = some (.stringIter ⟨#[49, 50, 46, 51, 52, 48]⟩ 0))) ∨
     (Aside0 (q = 6) ∧ v6 = .int .i64 1 ∧ v7 = .bool false ∧ v8 = .int .i64 0 ∧ Aside0 (wr.heap[g5]? = some (.cells #[.int .i64 (-1), .int .i64 0] 25 (0, 0))) ∧ Aside0 (wr.heap[gI]? = some (.stringIter ⟨#[49, 50, 46, 51, 52, 48]⟩ 1))) ∨
     (Aside0 (q = 5) ∧ v6 = .int .i64 2 ∧ v7 = .bool false ∧ v8 = .int .i64 0 ∧ Aside0 (wr.heap[g5]? = some (.cells #[.int .i64 (-12), .int .i64 0] 25 (0, 0))) ∧ Aside0 (wr.heap[gI]? = some (.stringIter ⟨#[49, 50, 46, 51, 52, 48]⟩ 2))) ∨
     (Aside0 (q = 4) ∧ v6 = .int .i64 2 ∧ v7 = .bool true ∧ v8 = .int .i64 0 ∧ Aside0 (wr.heap[g5]? = some (.cells #[.int .i64 (-12), .int .i64 0] 25 (0, 0))) ∧ Aside0 (wr.heap[gI]? = some (.stringIter ⟨#[49, 50, 46, 51, 52, 48]⟩ 3))) ∨
     (Aside0 (q = 3) ∧ v6 = .int .i64 3 ∧ v7 = .bool true ∧ v8 = .int .i64 0 ∧ Aside0 (wr.heap[g5]? = some (.cells #[.int .i64 (-123), .int .i64 1] 25 (0, 0))) ∧ Aside0 (wr.heap[gI]? = some (.stringIter ⟨#[49, 50, 46, 51, 52, 48]⟩ 4))) ∨
     (Aside0 (q = 2) ∧ v6 = .int .i64 4 ∧ v7 = .bool true ∧ v8 = .int .i64 0 ∧ Aside0 (wr.heap[g5]? = some (.cells #[.int .i64 (-1234), .int .i64 2] 25 (0, 0))) ∧ Aside0 (wr.heap[gI]? = some (.stringIter ⟨#[49, 50, 46, 51, 52, 48]⟩ 5))) ∨
     (Aside0 (q = 1) ∧ v6 = .int .i64 5 ∧ v7 = .bool true ∧ v8 = .int .i64 0 ∧ Aside0 (wr.heap[g5]? = some (.cells #[.int .i64 (-12340), .int .i64 3] 25 (0, 0))) ∧ Aside0 (wr.heap[gI]? = some (.stringIter ⟨#[49, 50, 46, 51, 52, 48]⟩ 6)))))
  case atStart =>
    have e1 : ∀ o : Obj, (w.alloc o).heap.size = w.heap.size + 1 := fun o => by show (w.heap.push o).size = _; rw [Array.size_push]
    have e2 : ∀ o o2 : Obj, ((w.alloc o).alloc o2).heap.size = w.heap.size + 1 + 1 := fun o o2 => by show ((w.heap.push o).push o2).size = _; rw [Array.size_push, Array.size_push]
    refine ⟨⟨below_alloc (below_alloc (below_alloc HB.out _) _) _⟩, ⟨?_⟩, .inl ⟨⟨rfl⟩, rfl, rfl, rfl, ⟨?_⟩, ⟨?_⟩⟩⟩
    · rw [← hg2]
      exact blk_alloc (blk_alloc (blk_new w _) _) _
    · rw [← hg5, ← e1 (.cells #[.int .i64 0, .int .i64 0] 25 (0, 0))]
      exact blk_alloc (blk_new (w.alloc _) _) _
    · rw [← hgI, ← e2 (.cells #[.int .i64 0, .int .i64 0] 25 (0, 0)) (.cells #[.int .i64 0, .int .i64 0] 25 (0, 0))]
      exact World.iter_heap _ _ _
  case round =>
    obtain ⟨HB, BK2, h⟩ := hrel
    rcases h with ⟨hq, rfl, rfl, rfl, BK5, HI⟩ | ⟨hq, rfl, rfl, rfl, BK5, HI⟩ | ⟨hq, rfl, rfl, rfl, BK5, HI⟩ | ⟨hq, rfl, rfl, rfl, BK5, HI⟩ | ⟨hq, rfl, rfl, rfl, BK5, HI⟩ | ⟨hq, rfl, rfl, rfl, BK5, HI⟩ | ⟨hq, rfl, rfl, rfl, BK5, HI⟩
    · have hnx : ∀ ty, (Instr.next (.pointer (some ⟨gI, 0, none⟩)) true ty).run Try.prog wr = .ok (.tuple #[.bool true, .int .i64 0, .int .i32 49]) (wr.iterAt gI ⟨#[49, 50, 46, 51, 52, 48]⟩ 1) := fun ty => (Lib.run_next_any_at wr gI ⟨#[49, 50, 46, 51, 52, 48]⟩ 0 ty HI.out (by decide)).trans (by rfl)
      have HI2 : Aside0 ((wr.iterAt gI ⟨#[49, 50, 46, 51, 52, 48]⟩ 1).heap[gI]? = some (.stringIter ⟨#[49, 50, 46, 51, 52, 48]⟩ 1)) := ⟨Lib.iterAt_heap wr gI ⟨#[49, 50, 46, 51, 52, 48]⟩ 0 1 HI.out⟩
      have HB2 : Aside0 (Below w.heap.size w (wr.iterAt gI ⟨#[49, 50, 46, 51, 52, 48]⟩ 1)) := ⟨Lib.below_iterAt HB.out GEI.out ⟨#[49, 50, 46, 51, 52, 48]⟩ 1⟩
      have BK22 : Aside0 ((wr.iterAt gI ⟨#[49, 50, 46, 51, 52, 48]⟩ 1).heap[g2]? = some (.cells #[.int .i64 0, .int .i64 0] 25 (0, 0))) := ⟨(Lib.iterAt_other wr gI g2 ⟨#[49, 50, 46, 51, 52, 48]⟩ 1 N2I.out).trans BK2.out⟩
      have BK52 : Aside0 ((wr.iterAt gI ⟨#[49, 50, 46, 51, 52, 48]⟩ 1).heap[g5]? = some (.cells #[.int .i64 0, .int .i64 0] 25 (0, 0))) := ⟨(Lib.iterAt_other wr gI g5 ⟨#[49, 50, 46, 51, 52, 48]⟩ 1 N5I.out).trans BK5.out⟩
      clear HI HB BK2 BK5
      have HI := HI2
      have HB := HB2
      have BK2 := BK22
      have BK5 := BK52
      clear HI2 HB2 BK22 BK52
      generalize wr.iterAt gI ⟨#[49, 50, 46, 51, 52, 48]⟩ 1 = w1 at *
      have hcz1_0 : w1.cell? ⟨g5, 0, none⟩ = some (.int .i64 0) := (blk_cell BK5.out 0).trans rfl; have hcz1_1 : w1.cell? ⟨g5, 1, none⟩ = some (.int .i64 0) := (blk_cell BK5.out 1).trans rfl; have hfz1_0 := kA BK5.out 0; have hfz1_1 := kA BK5.out 1
      go_wp2_with (first | (go_at_call 32; (with_reducible refine (num_Mul.calls 3 0 10 0 0 _ (by decide +kernel)).mono ?_); rintro e_ w2 ⟨rfl, hb⟩; have n0_ := Aside0.mk (below_step (by repeat (first | (with_reducible first | exact HB.out | apply below_alloc | apply kB | apply below_drew1 | refine below_set ?_ GE2.out | refine below_set ?_ GE5.out) | exact HB.out)) hb); have n1_ := Aside0.mk (blk_below (g := g2) (o := .cells #[.int .i64 0, .int .i64 0] 25 (0, 0)) (by exact BK2.out) hb); have n2_ := Aside0.mk (blk_below (g := g5) (o := .cells #[.int .i64 0, .int .i64 0] 25 (0, 0)) (by exact BK5.out) hb); have n3_ := Aside0.mk (blk_below (g := gI) (o := .stringIter ⟨#[49, 50, 46, 51, 52, 48]⟩ 1) (by exact HI.out) hb); clear HB BK2 BK5 HI; have HB := n0_; have BK2 := n1_; have BK5 := n2_; have HI := n3_; clear n0_ n1_ n2_ n3_ hb; have hcz2_0 : w2.cell? ⟨g5, 0, none⟩ = some (.int .i64 0) := (blk_cell BK5.out 0).trans rfl; have hcz2_1 : w2.cell? ⟨g5, 1, none⟩ = some (.int .i64 0) := (blk_cell BK5.out 1).trans rfl; have hfz2_0 := kA BK5.out 0; have hfz2_1 := kA BK5.out 1) | (go_at_call 33; (with_reducible refine (num_Sub.calls 0 1 (-1) 0 _ (by decide +kernel)).mono ?_); rintro e_ w3 ⟨rfl, ⟨nd, rfl⟩⟩))
      go_roundg 6
      case measure => have := hq.out; omega
      case rel => exact ⟨⟨by repeat (first | (with_reducible first | exact HB.out | apply below_alloc | apply kB | apply below_drew1 | refine below_set ?_ GE2.out | refine below_set ?_ GE5.out) | exact HB.out)⟩, ⟨blk_far (blk_drewN (blk_far BK2.out N25.out _) _) N25.out _⟩, .inr (.inl ⟨⟨rfl⟩, rfl, rfl, rfl, ⟨blk_put (cs := #[.int .i64 0, .int .i64 0]) (blk_drewN (blk_put (cs := #[.int .i64 0, .int .i64 0]) BK5.out 0 _ rfl) _) 0 _ rfl⟩, ⟨(Below.heap_setCell _ _ _ _ N5I_.out).trans (show _ = _ from (Below.heap_setCell _ _ _ _ N5I_.out).trans HI.out)⟩⟩)⟩
    · have hnx : ∀ ty, (Instr.next (.pointer (some ⟨gI, 0, none⟩)) true ty).run Try.prog wr = .ok (.tuple #[.bool true, .int .i64 1, .int .i32 50]) (wr.iterAt gI ⟨#[49, 50, 46, 51, 52, 48]⟩ 2) := fun ty => (Lib.run_next_any_at wr gI ⟨#[49, 50, 46, 51, 52, 48]⟩ 1 ty HI.out (by decide)).trans (by rfl)
      have HI2 : Aside0 ((wr.iterAt gI ⟨#[49, 50, 46, 51, 52, 48]⟩ 2).heap[gI]? = some (.stringIter ⟨#[49, 50, 46, 51, 52, 48]⟩ 2)) := ⟨Lib.iterAt_heap wr gI ⟨#[49, 50, 46, 51, 52, 48]⟩ 1 2 HI.out⟩
      have HB2 : Aside0 (Below w.heap.size w (wr.iterAt gI ⟨#[49, 50, 46, 51, 52, 48]⟩ 2)) := ⟨Lib.below_iterAt HB.out GEI.out ⟨#[49, 50, 46, 51, 52, 48]⟩ 2⟩
      have BK22 : Aside0 ((wr.iterAt gI ⟨#[49, 50, 46, 51, 52, 48]⟩ 2).heap[g2]? = some (.cells #[.int .i64 0, .int .i64 0] 25 (0, 0))) := ⟨(Lib.iterAt_other wr gI g2 ⟨#[49, 50, 46, 51, 52, 48]⟩ 2 N2I.out).trans BK2.out⟩
      have BK52 : Aside0 ((wr.iterAt gI ⟨#[49, 50, 46, 51, 52, 48]⟩ 2).heap[g5]? = some (.cells #[.int .i64 (-1), .int .i64 0] 25 (0, 0))) := ⟨(Lib.iterAt_other wr gI g5 ⟨#[49, 50, 46, 51, 52, 48]⟩ 2 N5I.out).trans BK5.out⟩
      clear HI HB BK2 BK5
      have HI := HI2
      have HB := HB2
      have BK2 := BK22
      have BK5 := BK52
      clear HI2 HB2 BK22 BK52
      generalize wr.iterAt gI ⟨#[49, 50, 46, 51, 52, 48]⟩ 2 = w1 at *
      have hcz1_0 : w1.cell? ⟨g5, 0, none⟩ = some (.int .i64 (-1)) := (blk_cell BK5.out 0).trans rfl; have hcz1_1 : w1.cell? ⟨g5, 1, none⟩ = some (.int .i64 0) := (blk_cell BK5.out 1).trans rfl; have hfz1_0 := kA BK5.out 0; have hfz1_1 := kA BK5.out 1
      go_wp2_with (first | (go_at_call 32; (with_reducible refine (num_Mul.calls 3 (-1) 10 (-10) 0 _ (by decide +kernel)).mono ?_); rintro e_ w2 ⟨rfl, hb⟩; have n0_ := Aside0.mk (below_step (by repeat (first | (with_reducible first | exact HB.out | apply below_alloc | apply kB | apply below_drew1 | refine below_set ?_ GE2.out | refine below_set ?_ GE5.out) | exact HB.out)) hb); have n1_ := Aside0.mk (blk_below (g := g2) (o := .cells #[.int .i64 0, .int .i64 0] 25 (0, 0)) (by exact BK2.out) hb); have n2_ := Aside0.mk (blk_below (g := g5) (o := .cells #[.int .i64 (-1), .int .i64 0] 25 (0, 0)) (by exact BK5.out) hb); have n3_ := Aside0.mk (blk_below (g := gI) (o := .stringIter ⟨#[49, 50, 46, 51, 52, 48]⟩ 2) (by exact HI.out) hb); clear HB BK2 BK5 HI; have HB := n0_; have BK2 := n1_; have BK5 := n2_; have HI := n3_; clear n0_ n1_ n2_ n3_ hb; have hcz2_0 : w2.cell? ⟨g5, 0, none⟩ = some (.int .i64 (-1)) := (blk_cell BK5.out 0).trans rfl; have hcz2_1 : w2.cell? ⟨g5, 1, none⟩ = some (.int .i64 0) := (blk_cell BK5.out 1).trans rfl; have hfz2_0 := kA BK5.out 0; have hfz2_1 := kA BK5.out 1) | (go_at_call 33; (with_reducible refine (num_Sub.calls (-10) 2 (-12) 0 _ (by decide +kernel)).mono ?_); rintro e_ w3 ⟨rfl, ⟨nd, rfl⟩⟩))
      go_roundg 5
      case measure => have := hq.out; omega
      case rel => exact ⟨⟨by repeat (first | (with_reducible first | exact HB.out | apply below_alloc | apply kB | apply below_drew1 | refine below_set ?_ GE2.out | refine below_set ?_ GE5.out) | exact HB.out)⟩, ⟨blk_far (blk_drewN (blk_far BK2.out N25.out _) _) N25.out _⟩, .inr (.inr (.inl ⟨⟨rfl⟩, rfl, rfl, rfl, ⟨blk_put (cs := #[.int .i64 (-10), .int .i64 0]) (blk_drewN (blk_put (cs := #[.int .i64 (-1), .int .i64 0]) BK5.out 0 _ rfl) _) 0 _ rfl⟩, ⟨(Below.heap_setCell _ _ _ _ N5I_.out).trans (show _ = _ from (Below.heap_setCell _ _ _ _ N5I_.out).trans HI.out)⟩⟩))⟩
    · have hnx : ∀ ty, (Instr.next (.pointer (some ⟨gI, 0, none⟩)) true ty).run Try.prog wr = .ok (.tuple #[.bool true, .int .i64 2, .int .i32 46]) (wr.iterAt gI ⟨#[49, 50, 46, 51, 52, 48]⟩ 3) := fun ty => (Lib.run_next_any_at wr gI ⟨#[49, 50, 46, 51, 52, 48]⟩ 2 ty HI.out (by decide)).trans (by rfl)
      have HI2 : Aside0 ((wr.iterAt gI ⟨#[49, 50, 46, 51, 52, 48]⟩ 3).heap[gI]? = some (.stringIter ⟨#[49, 50, 46, 51, 52, 48]⟩ 3)) := ⟨Lib.iterAt_heap wr gI ⟨#[49, 50, 46, 51, 52, 48]⟩ 2 3 HI.out⟩
      have HB2 : Aside0 (Below w.heap.size w (wr.iterAt gI ⟨#[49, 50, 46, 51, 52, 48]⟩ 3)) := ⟨Lib.below_iterAt HB.out GEI.out ⟨#[49, 50, 46, 51, 52, 48]⟩ 3⟩
      have BK22 : Aside0 ((wr.iterAt gI ⟨#[49, 50, 46, 51, 52, 48]⟩ 3).heap[g2]? = some (.cells #[.int .i64 0, .int .i64 0] 25 (0, 0))) := ⟨(Lib.iterAt_other wr gI g2 ⟨#[49, 50, 46, 51, 52, 48]⟩ 3 N2I.out).trans BK2.out⟩
      have BK52 : Aside0 ((wr.iterAt gI ⟨#[49, 50, 46, 51, 52, 48]⟩ 3).heap[g5]? = some (.cells #[.int .i64 (-12), .int .i64 0] 25 (0, 0))) := ⟨(Lib.iterAt_other wr gI g5 ⟨#[49, 50, 46, 51, 52, 48]⟩ 3 N5I.out).trans BK5.out⟩
      clear HI HB BK2 BK5
      have HI := HI2
      have HB := HB2
      have BK2 := BK22
      have BK5 := BK52
      clear HI2 HB2 BK22 BK52
      generalize wr.iterAt gI ⟨#[49, 50, 46, 51, 52, 48]⟩ 3 = w1 at *
      have hcz1_0 : w1.cell? ⟨g5, 0, none⟩ = some (.int .i64 (-12)) := (blk_cell BK5.out 0).trans rfl; have hcz1_1 : w1.cell? ⟨g5, 1, none⟩ = some (.int .i64 0) := (blk_cell BK5.out 1).trans rfl; have hfz1_0 := kA BK5.out 0; have hfz1_1 := kA BK5.out 1
      go_wp2
      go_roundg 4
      case measure => have := hq.out; omega
      case rel => exact ⟨⟨HB.out⟩, ⟨BK2.out⟩, .inr (.inr (.inr (.inl ⟨⟨rfl⟩, rfl, rfl, rfl, ⟨BK5.out⟩, ⟨HI.out⟩⟩)))⟩
    · have hnx : ∀ ty, (Instr.next (.pointer (some ⟨gI, 0, none⟩)) true ty).run Try.prog wr = .ok (.tuple #[.bool true, .int .i64 3, .int .i32 51]) (wr.iterAt gI ⟨#[49, 50, 46, 51, 52, 48]⟩ 4) := fun ty => (Lib.run_next_any_at wr gI ⟨#[49, 50, 46, 51, 52, 48]⟩ 3 ty HI.out (by decide)).trans (by rfl)
      have HI2 : Aside0 ((wr.iterAt gI ⟨#[49, 50, 46, 51, 52, 48]⟩ 4).heap[gI]? = some (.stringIter ⟨#[49, 50, 46, 51, 52, 48]⟩ 4)) := ⟨Lib.iterAt_heap wr gI ⟨#[49, 50, 46, 51, 52, 48]⟩ 3 4 HI.out⟩
      have HB2 : Aside0 (Below w.heap.size w (wr.iterAt gI ⟨#[49, 50, 46, 51, 52, 48]⟩ 4)) := ⟨Lib.below_iterAt HB.out GEI.out ⟨#[49, 50, 46, 51, 52, 48]⟩ 4⟩
      have BK22 : Aside0 ((wr.iterAt gI ⟨#[49, 50, 46, 51, 52, 48]⟩ 4).heap[g2]? = some (.cells #[.int .i64 0, .int .i64 0] 25 (0, 0))) := ⟨(Lib.iterAt_other wr gI g2 ⟨#[49, 50, 46, 51, 52, 48]⟩ 4 N2I.out).trans BK2.out⟩
      have BK52 : Aside0 ((wr.iterAt gI ⟨#[49, 50, 46, 51, 52, 48]⟩ 4).heap[g5]? = some (.cells #[.int .i64 (-12), .int .i64 0] 25 (0, 0))) := ⟨(Lib.iterAt_other wr gI g5 ⟨#[49, 50, 46, 51, 52, 48]⟩ 4 N5I.out).trans BK5.out⟩
      clear HI HB BK2 BK5
      have HI := HI2
      have HB := HB2
      have BK2 := BK22
      have BK5 := BK52
      clear HI2 HB2 BK22 BK52
      generalize wr.iterAt gI ⟨#[49, 50, 46, 51, 52, 48]⟩ 4 = w1 at *
      have hcz1_0 : w1.cell? ⟨g5, 0, none⟩ = some (.int .i64 (-12)) := (blk_cell BK5.out 0).trans rfl; have hcz1_1 : w1.cell? ⟨g5, 1, none⟩ = some (.int .i64 0) := (blk_cell BK5.out 1).trans rfl; have hfz1_0 := kA BK5.out 0; have hfz1_1 := kA BK5.out 1
      go_wp2_with (first | (go_at_call 32; (with_reducible refine (num_Mul.calls 3 (-12) 10 (-120) 0 _ (by decide +kernel)).mono ?_); rintro e_ w2 ⟨rfl, hb⟩; have n0_ := Aside0.mk (below_step (by repeat (first | (with_reducible first | exact HB.out | apply below_alloc | apply kB | apply below_drew1 | refine below_set ?_ GE2.out | refine below_set ?_ GE5.out) | exact HB.out)) hb); have n1_ := Aside0.mk (blk_below (g := g2) (o := .cells #[.int .i64 0, .int .i64 0] 25 (0, 0)) (by refine blk_far ?_ N25.out _; exact BK2.out) hb); have n2_ := Aside0.mk (blk_below (g := g5) (o := .cells #[.int .i64 (-12), .int .i64 1] 25 (0, 0)) (by refine blk_put (cs := #[.int .i64 (-12), .int .i64 0]) ?_ 1 _ rfl; exact BK5.out) hb); have n3_ := Aside0.mk (blk_below (g := gI) (o := .stringIter ⟨#[49, 50, 46, 51, 52, 48]⟩ 4) (by rw [Below.heap_setCell _ _ _ _ N5I_.out]; exact HI.out) hb); clear HB BK2 BK5 HI; have HB := n0_; have BK2 := n1_; have BK5 := n2_; have HI := n3_; clear n0_ n1_ n2_ n3_ hb; have hcz2_0 : w2.cell? ⟨g5, 0, none⟩ = some (.int .i64 (-12)) := (blk_cell BK5.out 0).trans rfl; have hcz2_1 : w2.cell? ⟨g5, 1, none⟩ = some (.int .i64 1) := (blk_cell BK5.out 1).trans rfl; have hfz2_0 := kA BK5.out 0; have hfz2_1 := kA BK5.out 1) | (go_at_call 33; (with_reducible refine (num_Sub.calls (-120) 3 (-123) 0 _ (by decide +kernel)).mono ?_); rintro e_ w3 ⟨rfl, ⟨nd, rfl⟩⟩))
      go_roundg 3
      case measure => have := hq.out; omega
      case rel => exact ⟨⟨by repeat (first | (with_reducible first | exact HB.out | apply below_alloc | apply kB | apply below_drew1 | refine below_set ?_ GE2.out | refine below_set ?_ GE5.out) | exact HB.out)⟩, ⟨blk_far (blk_drewN (blk_far BK2.out N25.out _) _) N25.out _⟩, .inr (.inr (.inr (.inr (.inl ⟨⟨rfl⟩, rfl, rfl, rfl, ⟨blk_put (cs := #[.int .i64 (-120), .int .i64 1]) (blk_drewN (blk_put (cs := #[.int .i64 (-12), .int .i64 1]) BK5.out 0 _ rfl) _) 0 _ rfl⟩, ⟨(Below.heap_setCell _ _ _ _ N5I_.out).trans (show _ = _ from (Below.heap_setCell _ _ _ _ N5I_.out).trans HI.out)⟩⟩))))⟩
    · have hnx : ∀ ty, (Instr.next (.pointer (some ⟨gI, 0, none⟩)) true ty).run Try.prog wr = .ok (.tuple #[.bool true, .int .i64 4, .int .i32 52]) (wr.iterAt gI ⟨#[49, 50, 46, 51, 52, 48]⟩ 5) := fun ty => (Lib.run_next_any_at wr gI ⟨#[49, 50, 46, 51, 52, 48]⟩ 4 ty HI.out (by decide)).trans (by rfl)
      have HI2 : Aside0 ((wr.iterAt gI ⟨#[49, 50, 46, 51, 52, 48]⟩ 5).heap[gI]? = some (.stringIter ⟨#[49, 50, 46, 51, 52, 48]⟩ 5)) := ⟨Lib.iterAt_heap wr gI ⟨#[49, 50, 46, 51, 52, 48]⟩ 4 5 HI.out⟩
      have HB2 : Aside0 (Below w.heap.size w (wr.iterAt gI ⟨#[49, 50, 46, 51, 52, 48]⟩ 5)) := ⟨Lib.below_iterAt HB.out GEI.out ⟨#[49, 50, 46, 51, 52, 48]⟩ 5⟩
      have BK22 : Aside0 ((wr.iterAt gI ⟨#[49, 50, 46, 51, 52, 48]⟩ 5).heap[g2]? = some (.cells #[.int .i64 0, .int .i64 0] 25 (0, 0))) := ⟨(Lib.iterAt_other wr gI g2 ⟨#[49, 50, 46, 51, 52, 48]⟩ 5 N2I.out).trans BK2.out⟩
      have BK52 : Aside0 ((wr.iterAt gI ⟨#[49, 50, 46, 51, 52, 48]⟩ 5).heap[g5]? = some (.cells #[.int .i64 (-123), .int .i64 1] 25 (0, 0))) := ⟨(Lib.iterAt_other wr gI g5 ⟨#[49, 50, 46, 51, 52, 48]⟩ 5 N5I.out).trans BK5.out⟩
      clear HI HB BK2 BK5
      have HI := HI2
      have HB := HB2
      have BK2 := BK22
      have BK5 := BK52
      clear HI2 HB2 BK22 BK52
      generalize wr.iterAt gI ⟨#[49, 50, 46, 51, 52, 48]⟩ 5 = w1 at *
      have hcz1_0 : w1.cell? ⟨g5, 0, none⟩ = some (.int .i64 (-123)) := (blk_cell BK5.out 0).trans rfl; have hcz1_1 : w1.cell? ⟨g5, 1, none⟩ = some (.int .i64 1) := (blk_cell BK5.out 1).trans rfl; have hfz1_0 := kA BK5.out 0; have hfz1_1 := kA BK5.out 1
      go_wp2_with (first | (go_at_call 32; (with_reducible refine (num_Mul.calls 3 (-123) 10 (-1230) 0 _ (by decide +kernel)).mono ?_); rintro e_ w2 ⟨rfl, hb⟩; have n0_ := Aside0.mk (below_step (by repeat (first | (with_reducible first | exact HB.out | apply below_alloc | apply kB | apply below_drew1 | refine below_set ?_ GE2.out | refine below_set ?_ GE5.out) | exact HB.out)) hb); have n1_ := Aside0.mk (blk_below (g := g2) (o := .cells #[.int .i64 0, .int .i64 0] 25 (0, 0)) (by refine blk_far ?_ N25.out _; exact BK2.out) hb); have n2_ := Aside0.mk (blk_below (g := g5) (o := .cells #[.int .i64 (-123), .int .i64 2] 25 (0, 0)) (by refine blk_put (cs := #[.int .i64 (-123), .int .i64 1]) ?_ 1 _ rfl; exact BK5.out) hb); have n3_ := Aside0.mk (blk_below (g := gI) (o := .stringIter ⟨#[49, 50, 46, 51, 52, 48]⟩ 5) (by rw [Below.heap_setCell _ _ _ _ N5I_.out]; exact HI.out) hb); clear HB BK2 BK5 HI; have HB := n0_; have BK2 := n1_; have BK5 := n2_; have HI := n3_; clear n0_ n1_ n2_ n3_ hb; have hcz2_0 : w2.cell? ⟨g5, 0, none⟩ = some (.int .i64 (-123)) := (blk_cell BK5.out 0).trans rfl; have hcz2_1 : w2.cell? ⟨g5, 1, none⟩ = some (.int .i64 2) := (blk_cell BK5.out 1).trans rfl; have hfz2_0 := kA BK5.out 0; have hfz2_1 := kA BK5.out 1) | (go_at_call 33; (with_reducible refine (num_Sub.calls (-1230) 4 (-1234) 0 _ (by decide +kernel)).mono ?_); rintro e_ w3 ⟨rfl, ⟨nd, rfl⟩⟩))
      go_roundg 2
      case measure => have := hq.out; omega
      case rel => exact ⟨⟨by repeat (first | (with_reducible first | exact HB.out | apply below_alloc | apply kB | apply below_drew1 | refine below_set ?_ GE2.out | refine below_set ?_ GE5.out) | exact HB.out)⟩, ⟨blk_far (blk_drewN (blk_far BK2.out N25.out _) _) N25.out _⟩, .inr (.inr (.inr (.inr (.inr (.inl ⟨⟨rfl⟩, rfl, rfl, rfl, ⟨blk_put (cs := #[.int .i64 (-1230), .int .i64 2]) (blk_drewN (blk_put (cs := #[.int .i64 (-123), .int .i64 2]) BK5.out 0 _ rfl) _) 0 _ rfl⟩, ⟨(Below.heap_setCell _ _ _ _ N5I_.out).trans (show _ = _ from (Below.heap_setCell _ _ _ _ N5I_.out).trans HI.out)⟩⟩)))))⟩
    · have hnx : ∀ ty, (Instr.next (.pointer (some ⟨gI, 0, none⟩)) true ty).run Try.prog wr = .ok (.tuple #[.bool true, .int .i64 5, .int .i32 48]) (wr.iterAt gI ⟨#[49, 50, 46, 51, 52, 48]⟩ 6) := fun ty => (Lib.run_next_any_at wr gI ⟨#[49, 50, 46, 51, 52, 48]⟩ 5 ty HI.out (by decide)).trans (by rfl)
      have HI2 : Aside0 ((wr.iterAt gI ⟨#[49, 50, 46, 51, 52, 48]⟩ 6).heap[gI]? = some (.stringIter ⟨#[49, 50, 46, 51, 52, 48]⟩ 6)) := ⟨Lib.iterAt_heap wr gI ⟨#[49, 50, 46, 51, 52, 48]⟩ 5 6 HI.out⟩
      have HB2 : Aside0 (Below w.heap.size w (wr.iterAt gI ⟨#[49, 50, 46, 51, 52, 48]⟩ 6)) := ⟨Lib.below_iterAt HB.out GEI.out ⟨#[49, 50, 46, 51, 52, 48]⟩ 6⟩
      have BK22 : Aside0 ((wr.iterAt gI ⟨#[49, 50, 46, 51, 52, 48]⟩ 6).heap[g2]? = some (.cells #[.int .i64 0, .int .i64 0] 25 (0, 0))) := ⟨(Lib.iterAt_other wr gI g2 ⟨#[49, 50, 46, 51, 52, 48]⟩ 6 N2I.out).trans BK2.out⟩
      have BK52 : Aside0 ((wr.iterAt gI ⟨#[49, 50, 46, 51, 52, 48]⟩ 6).heap[g5]? = some (.cells #[.int .i64 (-1234), .int .i64 2] 25 (0, 0))) := ⟨(Lib.iterAt_other wr gI g5 ⟨#[49, 50, 46, 51, 52, 48]⟩ 6 N5I.out).trans BK5.out⟩
      clear HI HB BK2 BK5
      have HI := HI2
      have HB := HB2
      have BK2 := BK22
      have BK5 := BK52
      clear HI2 HB2 BK22 BK52
      generalize wr.iterAt gI ⟨#[49, 50, 46, 51, 52, 48]⟩ 6 = w1 at *
      have hcz1_0 : w1.cell? ⟨g5, 0, none⟩ = some (.int .i64 (-1234)) := (blk_cell BK5.out 0).trans rfl; have hcz1_1 : w1.cell? ⟨g5, 1, none⟩ = some (.int .i64 2) := (blk_cell BK5.out 1).trans rfl; have hfz1_0 := kA BK5.out 0; have hfz1_1 := kA BK5.out 1
      go_wp2_with (first | (go_at_call 32; (with_reducible refine (num_Mul.calls 3 (-1234) 10 (-12340) 0 _ (by decide +kernel)).mono ?_); rintro e_ w2 ⟨rfl, hb⟩; have n0_ := Aside0.mk (below_step (by repeat (first | (with_reducible first | exact HB.out | apply below_alloc | apply kB | apply below_drew1 | refine below_set ?_ GE2.out | refine below_set ?_ GE5.out) | exact HB.out)) hb); have n1_ := Aside0.mk (blk_below (g := g2) (o := .cells #[.int .i64 0, .int .i64 0] 25 (0, 0)) (by refine blk_far ?_ N25.out _; exact BK2.out) hb); have n2_ := Aside0.mk (blk_below (g := g5) (o := .cells #[.int .i64 (-1234), .int .i64 3] 25 (0, 0)) (by refine blk_put (cs := #[.int .i64 (-1234), .int .i64 2]) ?_ 1 _ rfl; exact BK5.out) hb); have n3_ := Aside0.mk (blk_below (g := gI) (o := .stringIter ⟨#[49, 50, 46, 51, 52, 48]⟩ 6) (by rw [Below.heap_setCell _ _ _ _ N5I_.out]; exact HI.out) hb); clear HB BK2 BK5 HI; have HB := n0_; have BK2 := n1_; have BK5 := n2_; have HI := n3_; clear n0_ n1_ n2_ n3_ hb; have hcz2_0 : w2.cell? ⟨g5, 0, none⟩ = some (.int .i64 (-1234)) := (blk_cell BK5.out 0).trans rfl; have hcz2_1 : w2.cell? ⟨g5, 1, none⟩ = some (.int .i64 3) := (blk_cell BK5.out 1).trans rfl; have hfz2_0 := kA BK5.out 0; have hfz2_1 := kA BK5.out 1) | (go_at_call 33; (with_reducible refine (num_Sub.calls (-12340) 0 (-12340) 0 _ (by decide +kernel)).mono ?_); rintro e_ w3 ⟨rfl, ⟨nd, rfl⟩⟩))
      go_roundg 1
      case measure => have := hq.out; omega
      case rel => exact ⟨⟨by repeat (first | (with_reducible first | exact HB.out | apply below_alloc | apply kB | apply below_drew1 | refine below_set ?_ GE2.out | refine below_set ?_ GE5.out) | exact HB.out)⟩, ⟨blk_far (blk_drewN (blk_far BK2.out N25.out _) _) N25.out _⟩, .inr (.inr (.inr (.inr (.inr (.inr (⟨⟨rfl⟩, rfl, rfl, rfl, ⟨blk_put (cs := #[.int .i64 (-12340), .int .i64 3]) (blk_drewN (blk_put (cs := #[.int .i64 (-1234), .int .i64 3]) BK5.out 0 _ rfl) _) 0 _ rfl⟩, ⟨(Below.heap_setCell _ _ _ _ N5I_.out).trans (show _ = _ from (Below.heap_setCell _ _ _ _ N5I_.out).trans HI.out)⟩⟩))))))⟩
    · have hnx : ∀ ty, (Instr.next (.pointer (some ⟨gI, 0, none⟩)) true ty).run Try.prog wr = _ := fun ty => Lib.run_next_end_at wr gI ⟨#[49, 50, 46, 51, 52, 48]⟩ 6 ty HI.out (by decide)
      have hcz1_0 : wr.cell? ⟨g5, 0, none⟩ = some (.int .i64 (-12340)) := (blk_cell BK5.out 0).trans rfl; have hcz1_1 : wr.cell? ⟨g5, 1, none⟩ = some (.int .i64 3) := (blk_cell BK5.out 1).trans rfl; have hfz1_0 := kA BK5.out 0; have hfz1_1 := kA BK5.out 1
      go_wp2_with (first | (go_at_call 34; (with_reducible refine (num_Neg.calls (-12340) 12340 0 _ (by decide +kernel)).mono ?_); rintro e_ w3 ⟨rfl, ⟨nd, rfl⟩⟩) | (go_at_call 35; (with_reducible refine (dec_made.calls 12340 3 0 12340 3 0 _ (by decide +kernel)).mono ?_); rintro e_ w4 ⟨rfl, hb⟩; have n0_ := Aside0.mk (below_step (by repeat (first | (with_reducible first | exact HB.out | apply below_alloc | apply kB | apply below_drew1 | refine below_set ?_ GE2.out | refine below_set ?_ GE5.out) | exact HB.out)) hb); have n1_ := Aside0.mk (blk_below (g := g2) (o := .cells #[.int .i64 0, .int .i64 0] 25 (0, 0)) (blk_far (blk_drewN BK2.out _) N25.out _) hb); clear HB BK2 BK5 HI; have HB := n0_; have BK2 := n1_; clear n0_ n1_ hb; have hcz9_0 : w4.cell? ⟨g2, 0, none⟩ = some (.int .i64 0) := (blk_cell BK2.out 0).trans rfl; have hcz9_1 : w4.cell? ⟨g2, 1, none⟩ = some (.int .i64 0) := (blk_cell BK2.out 1).trans rfl; have hfz9_0 := kA BK2.out 0; have hfz9_1 := kA BK2.out 1))
      refine bodyPost_ret (results_ct rfl _ _ g2 25 #[.int .i64 12340, .int .i64 3] (0, 0) _ rfl (by (with_reducible repeat (first | refine blk_drewN ?_ _ | refine blk_drew ?_ | refine blk_alloc ?_ _)); refine blk_put (cs := #[.int .i64 12340, .int .i64 0]) ?_ 1 _ rfl; (with_reducible repeat (first | refine blk_drewN ?_ _ | refine blk_drew ?_ | refine blk_alloc ?_ _)); refine blk_put (cs := #[.int .i64 0, .int .i64 0]) ?_ 0 _ rfl; (with_reducible repeat (first | refine blk_drewN ?_ _ | refine blk_drew ?_ | refine blk_alloc ?_ _)); exact BK2.out) Try.underlying25 rfl (by kernel_rfl)) rfl ?_
      exact ⟨rfl, by repeat (first | (with_reducible first | exact HB.out | apply below_alloc | apply kB | apply below_drew1 | refine below_set ?_ GE2.out | refine below_set ?_ GE5.out) | exact HB.out)⟩
theorem dec_Read.calls (a0 : ByteArray) (r1 : Int) (r2 : Int) (r3 : Int) (w : World) (h : dec_Read.f a0 = some (r1, r2, r3)) :
    Calls Try.prog 11 #[.string a0] w fun e w' => e = .returned (.tuple #[.agg #[.int .i64 r1, .int .i64 r2], .int .i64 r3]) ∧ Below w.heap.size w w' := by
  unfold dec_Read.f at h
  by_cases g : a0 = ⟨#[49, 50, 46, 51, 52, 48]⟩
  · rw [if_pos g] at h
    simp only [Option.some.injEq, Prod.mk.injEq] at h
    obtain ⟨rfl, rfl, rfl⟩ := h
    subst g
    exact dec_Read.at12 w
  · rw [if_neg g] at h
    cases h
noncomputable def dec_Read.con : Con
  | [.str a0] => some ((dec_Read.f a0).isSome, .tup [.agg [.int .i64 (gd (dec_Read.f a0)).1, .int .i64 (gd (dec_Read.f a0)).2.1], .int .i64 (gd (dec_Read.f a0)).2.2])
  | _ => none
set_option maxRecDepth 100000 in
theorem dec_Read.cok : COk Try.prog 11 (dec_Read.con) := by
  intro args p v hc hp w A hA
  unfold dec_Read.con at hc
  split at hc
  · rename_i a0
    simp only [Option.some.injEq, Prod.mk.injEq] at hc
    obtain ⟨rfl, rfl⟩ := hc
    rcases hf : dec_Read.f a0 with _ | ⟨r1, r2, r3⟩
    · rw [hf] at hp; cases hp
    obtain rfl : A = [.string a0] := by simpa [rl_cons, rl_nil, rv_int, rv_bool, rv_str, rv_agg, rv_fn] using hA
    exact gives_of_calls (fn := Try.f11) Try.func11 (by kernel_rfl) (by kernel_rfl) (dec_Read.calls _ _ _ _ w hf) (fun _ => by simp [gd_some, rl_cons, rl_nil, rv_int, rv_bool, rv_str, rv_agg, rv_tup]) (fun _ h => h)
  · cases hc
end Go.Proofs.Ytkongoedgngfhaa.P
namespace Go.Proofs.Ytkongoedgngfhaa.P
open Go.RowKit Go.Proofs.YtkongoedgngfhaaW.PrintWords Go.Proofs.YtkongoedgngfhaaW.PrintLast Go.Proofs.YtkongoedgngfhaaW.PrintMore
open Go.Proofs.Ytkongoedgngfhaa.A
attribute [local go_sem] max2_int min2_int max_two min_two max_three min_three max_four min_four   -- for this text's walks alone
set_option linter.unusedVariables false
set_option linter.unusedSimpArgs false
def dec_ten.f (a0 : Int) : Option (Int) := if a0 = 0 then some 1 else if a0 = 1 then some 10 else if a0 = 2 then some 100 else if a0 = 3 then some 1000 else if a0 = 4 then some 10000 else if a0 = 5 then some 100000 else if a0 = 6 then some 1000000 else if a0 = 7 then some 10000000 else if a0 = 8 then some 100000000 else if a0 = 9 then some 1000000000 else none
set_option maxHeartbeats 8000000 in
set_option maxRecDepth 100000 in
theorem dec_ten.calls (a0 : Int) (r : Int) (w : World) (h : dec_ten.f a0 = some r) :
    Calls Try.prog 45 #[.int .i64 a0] w fun e w' => e = .returned (.int .i64 r) ∧ Below w.heap.size w w' := by
  have hd : a0 = 0 ∨ a0 = 1 ∨ a0 = 2 ∨ a0 = 3 ∨ a0 = 4 ∨ a0 = 5 ∨ a0 = 6 ∨ a0 = 7 ∨ a0 = 8 ∨ a0 = 9 := by
    rcases Int.lt_or_le a0 0 with g | g
    · exfalso
      unfold dec_ten.f at h
      repeat rw [if_neg (by omega)] at h
      cases h
    · rcases Int.lt_or_le a0 10 with g2 | g2
      · omega
      · exfalso
        unfold dec_ten.f at h
        repeat rw [if_neg (by omega)] at h
        cases h
  rcases hd with e | e | e | e | e | e | e | e | e | e <;> subst e <;> obtain rfl := Option.some.inj (show some _ = some r from h) <;> clear h
  all_goals
    go_enter Try.func45, Try.ntmps45
    go_wp2
    go_ret
    exact ⟨rfl, by repeat (first | exact Below.refl _ _ | exact (Below.refl _ _).alloc (Nat.le_refl _) _ | (apply kB) | (apply below_drew) | (apply Below.setCell _ (by simp)))⟩
noncomputable def dec_ten.con : Con
  | [.int .i64 a0] => some ((dec_ten.f a0).isSome, .int .i64 (gd (dec_ten.f a0)))
  | _ => none
set_option maxRecDepth 100000 in
theorem dec_ten.cok : COk Try.prog 45 (dec_ten.con) := by
  intro args p v hc hp w A hA
  unfold dec_ten.con at hc
  split at hc
  · rename_i a0
    simp only [Option.some.injEq, Prod.mk.injEq] at hc
    obtain ⟨rfl, rfl⟩ := hc
    rcases hf : dec_ten.f a0 with _ | r
    · rw [hf] at hp; cases hp
    obtain rfl : A = [.int .i64 a0] := by simpa [rl_cons, rl_nil, rv_int, rv_bool, rv_str, rv_agg, rv_fn] using hA
    exact gives_of_calls (fn := Try.f45) Try.func45 (by kernel_rfl) (by kernel_rfl) (dec_ten.calls _ _ w hf) (fun _ => by simp [gd_some, rl_cons, rl_nil, rv_int, rv_bool, rv_str, rv_agg, rv_tup]) (fun _ h => h)
  · cases hc
end Go.Proofs.Ytkongoedgngfhaa.P
namespace Go.Proofs.Ytkongoedgngfhaa.P
open Go.RowKit Go.Proofs.YtkongoedgngfhaaW.PrintWords Go.Proofs.YtkongoedgngfhaaW.PrintLast Go.Proofs.YtkongoedgngfhaaW.PrintMore
open Go.Proofs.Ytkongoedgngfhaa.A
attribute [local go_sem] max2_int min2_int max_two min_two max_three min_three max_four min_four   -- for this text's walks alone
set_option linter.unusedVariables false
set_option linter.unusedSimpArgs false
def dec_Dec_to.f (k : Nat) (a0_0 : Int) (a0_1 : Int) (a1 : Int) : Option (Int × Int × Int) := (dec_ten.f (wrap64 (a1 - a0_1))).bind fun t240 => ((num_Mul.f k a0_0 t240).bind fun bt241 => (if bt241.2 = 0 then (some (bt241.1, a1, 0)) else (some (0, 0, bt241.2))))
theorem dec_Dec_to.mono : ∀ a0 a1 a2 k, LeO (dec_Dec_to.f k a0 a1 a2) (dec_Dec_to.f (k + 1) a0 a1 a2) := by
  intro a0 a1 a2 k
  unfold dec_Dec_to.f
  repeat' first
      | (with_reducible exact num_Mul.mono _ _ _)
      | (with_reducible exact LeO.refl _)
      | (with_reducible exact LeO.none _)
      | (with_reducible refine LeO.ite ?_ ?_)
      | (with_reducible refine LeO.bind ?_ (fun _ => ?_))
      | exact num_Mul.mono _ _ _
      | exact LeO.none _
      | refine LeO.ite ?_ ?_
      | refine LeO.bind ?_ (fun _ => ?_)
set_option maxRecDepth 100000 in
theorem dec_Dec_to.vc (k : Nat) (a0_0 : Int) (a0_1 : Int) (a1 : Int) (K : AV → Prop) : afv PA Try.prog (tab [(32, num_Mul.con k), (45, dec_ten.con)]) noLoops 2 44 [.agg [.int .i64 a0_0, .int .i64 a0_1], .int .i64 a1] K = (brc (Option.isSome (dec_ten.f (IntKind.wrap IntKind.i64 (a1 - a0_1)))) (∀ (m0 : Int), m0 = gd (dec_ten.f (IntKind.wrap IntKind.i64 (a1 - a0_1))) → brc (Option.isSome (num_Mul.f k a0_0 m0)) (∀ (m1 : Int), m1 = Prod.fst (gd (num_Mul.f k a0_0 m0)) → ∀ (m2 : Int), m2 = Prod.snd (gd (num_Mul.f k a0_0 m0)) → brc (m2 != 0) (K (AV.tup [AV.agg [AV.int IntKind.i64 0, AV.int IntKind.i64 0], AV.int IntKind.i64 m2])) (K (AV.tup [AV.agg [AV.int IntKind.i64 m1, AV.int IntKind.i64 a1], AV.int IntKind.i64 0]))) False) False) := by kernel_rfl
set_option maxHeartbeats 1000000 in
set_option maxRecDepth 100000 in
theorem dec_Dec_to.calls (k : Nat) (a0_0 : Int) (a0_1 : Int) (a1 : Int) (r1 : Int) (r2 : Int) (r3 : Int) (w : World) (h : dec_Dec_to.f k a0_0 a0_1 a1 = some (r1, r2, r3)) :
    Calls Try.prog 44 #[.agg #[.int .i64 a0_0, .int .i64 a0_1], .int .i64 a1] w fun e w' => e = .returned (.tuple #[.agg #[.int .i64 r1, .int .i64 r2], .int .i64 r3]) ∧ Below w.heap.size w w' := by
  refine calls_of_vc (A := [.agg #[.int .i64 a0_0, .int .i64 a0_1], .int .i64 a1]) (v := .tup [.agg [.int .i64 r1, .int .i64 r2], .int .i64 r3]) (tab_cons (num_Mul.cok k) (tab_cons (dec_ten.cok) (tab_nil))) ((dec_Dec_to.vc k a0_0 a0_1 a1 _).mpr ?_) (by simp [rl_cons, rl_nil, rv_int, rv_bool, rv_str, rv_agg, rv_fn]) (fun ρ V' hV => by simpa [rl_cons, rl_nil, rv_int, rv_bool, rv_str, rv_agg, rv_tup] using hV)
  unfold dec_Dec_to.f at h
  (try simp only [bne, Option.bind_eq_some_iff, ite_some_iff] at h)
  (try simp only [bne, brc_iff, wrap_i64])
  first
    | grind (splits := 60) [gd_some]
    | ((repeat' (first | (have or_ : Or _ _ := h; clear or_; rcases h with h | h) | (have or_ : Exists _ := h; clear or_; obtain ⟨_, h⟩ := h) | (have or_ : And _ _ := h; clear or_; obtain ⟨hq_, h⟩ := h))) <;> (try simp only [Option.some.injEq, Prod.mk.injEq, reduceCtorEq] at h) <;> (try subst_vars) <;> first | (simp_all [gd_some] <;> (try omega) <;> done) | grind (splits := 60) [gd_some])
    | (intros; subst_vars; simp_all [gd_some]; done)
noncomputable def dec_Dec_to.con (k : Nat) : Con
  | [.agg [.int .i64 a0_0, .int .i64 a0_1], .int .i64 a1] => some ((dec_Dec_to.f k a0_0 a0_1 a1).isSome, .tup [.agg [.int .i64 (gd (dec_Dec_to.f k a0_0 a0_1 a1)).1, .int .i64 (gd (dec_Dec_to.f k a0_0 a0_1 a1)).2.1], .int .i64 (gd (dec_Dec_to.f k a0_0 a0_1 a1)).2.2])
  | _ => none
set_option maxRecDepth 100000 in
theorem dec_Dec_to.cok (k : Nat) : COk Try.prog 44 (dec_Dec_to.con k) := by
  intro args p v hc hp w A hA
  unfold dec_Dec_to.con at hc
  split at hc
  · rename_i a0_0 a0_1 a1
    simp only [Option.some.injEq, Prod.mk.injEq] at hc
    obtain ⟨rfl, rfl⟩ := hc
    rcases hf : dec_Dec_to.f k a0_0 a0_1 a1 with _ | ⟨r1, r2, r3⟩
    · rw [hf] at hp; cases hp
    obtain rfl : A = [.agg #[.int .i64 a0_0, .int .i64 a0_1], .int .i64 a1] := by simpa [rl_cons, rl_nil, rv_int, rv_bool, rv_str, rv_agg, rv_fn] using hA
    exact gives_of_calls (fn := Try.f44) Try.func44 (by kernel_rfl) (by kernel_rfl) (dec_Dec_to.calls _ _ _ _ _ _ _ w hf) (fun _ => by simp [gd_some, rl_cons, rl_nil, rv_int, rv_bool, rv_str, rv_agg, rv_tup]) (fun _ h => h)
  · cases hc
theorem dec_Dec_to.up {k : Nat} {a0_0 : Int} {a0_1 : Int} {a1 : Int} {r : Int × Int × Int} (h : dec_Dec_to.f k a0_0 a0_1 a1 = some r) : dec_Dec_to.f (k + 1) a0_0 a0_1 a1 = some r := dec_Dec_to.mono a0_0 a0_1 a1 k _ h
theorem dec_Dec_to.le {a0_0 : Int} {a0_1 : Int} {a1 : Int} {r : Int × Int × Int} {k n : Nat} (h : dec_Dec_to.f k a0_0 a0_1 a1 = some r) (hk : k ≤ n) : dec_Dec_to.f n a0_0 a0_1 a1 = some r := by
  induction hk with
  | refl => exact h
  | step _ ih => exact dec_Dec_to.up ih
end Go.Proofs.Ytkongoedgngfhaa.P
namespace Go.Proofs.Ytkongoedgngfhaa.P
open Go.RowKit Go.Proofs.YtkongoedgngfhaaW.PrintWords Go.Proofs.YtkongoedgngfhaaW.PrintLast Go.Proofs.YtkongoedgngfhaaW.PrintMore
open Go.Proofs.Ytkongoedgngfhaa.A
attribute [local go_sem] max2_int min2_int max_two min_two max_three min_three max_four min_four   -- for this text's walks alone
set_option linter.unusedVariables false
set_option linter.unusedSimpArgs false
def dec_Round.j0 : Nat → Int → Bool → Int → Int → Option (Int × Int × Int)
  | 0, _, _, _, _ => none
  | k + 1, x1, x9, x244000, x244001 => if x9 = true then (some (0, 0, 1)) else (if x1 ≥ x244001 then ((dec_Dec_to.f k x244000 x244001 x1).bind fun bt246 => (some (bt246.1, bt246.2.1, bt246.2.2))) else ((dec_ten.f (wrap64 (x244001 - x1))).bind fun t249 => (if t249 = 0 then (none) else (if (wrap64 (2 * (mx (Int.tmod x244000 t249) (wrap64 (-(Int.tmod x244000 t249)))))) ≥ t249 then (if (Int.tmod x244000 t249) > 0 then (some (wrap64 ((wrap64 (Int.tdiv x244000 t249)) + 1), x1, 0)) else (some (wrap64 ((wrap64 (Int.tdiv x244000 t249)) - 1), x1, 0))) else (some (wrap64 (Int.tdiv x244000 t249), x1, 0))))))
def dec_Round.f (k : Nat) (a0_0 : Int) (a0_1 : Int) (a1 : Int) : Option (Int × Int × Int) := (dec_Right.f a0_0 a0_1).bind fun t245 => (if t245 = true then (if a1 < 0 then (dec_Round.j0 k a1 true a0_0 a0_1) else (dec_Round.j0 k a1 (decide (a1 > 9)) a0_0 a0_1)) else (dec_Round.j0 k a1 true a0_0 a0_1))
theorem dec_Round.mono_l : ∀ k, (∀ y0 y1 y2 y3, LeO (dec_Round.j0 k y0 y1 y2 y3) (dec_Round.j0 (k + 1) y0 y1 y2 y3))
  | 0 => fun _ _ _ _ r h => by simp [dec_Round.j0] at h
  | k + 1 => by
    have ih0 := dec_Round.mono_l k
    · intro y0 y1 y2 y3
      unfold dec_Round.j0
      repeat' first
      | (with_reducible exact ih0 _ _ _ _)
      | (with_reducible exact dec_Dec_to.mono _ _ _ _)
      | (with_reducible exact LeO.refl _)
      | (with_reducible exact LeO.none _)
      | (with_reducible refine LeO.ite ?_ ?_)
      | (with_reducible refine LeO.bind ?_ (fun _ => ?_))
      | exact ih0 _ _ _ _
      | exact dec_Dec_to.mono _ _ _ _
      | exact LeO.none _
      | refine LeO.ite ?_ ?_
      | refine LeO.bind ?_ (fun _ => ?_)
theorem dec_Round.mono : ∀ a0 a1 a2 k, LeO (dec_Round.f k a0 a1 a2) (dec_Round.f (k + 1) a0 a1 a2) := by
  intro a0 a1 a2 k
  have ih0 := dec_Round.mono_l k
  unfold dec_Round.f
  repeat' first
      | (with_reducible exact ih0 _ _ _ _)
      | (with_reducible exact dec_Dec_to.mono _ _ _ _)
      | (with_reducible exact LeO.refl _)
      | (with_reducible exact LeO.none _)
      | (with_reducible refine LeO.ite ?_ ?_)
      | (with_reducible refine LeO.bind ?_ (fun _ => ?_))
      | exact ih0 _ _ _ _
      | exact dec_Dec_to.mono _ _ _ _
      | exact LeO.none _
      | refine LeO.ite ?_ ?_
      | refine LeO.bind ?_ (fun _ => ?_)
set_option maxRecDepth 100000 in
theorem dec_Round.vc (k : Nat) (a0_0 : Int) (a0_1 : Int) (a1 : Int) (K : AV → Prop) : afv PA Try.prog (tab [(31, dec_Right.con), (45, dec_ten.con), (44, dec_Dec_to.con k)]) noLoops 2 19 [.agg [.int .i64 a0_0, .int .i64 a0_1], .int .i64 a1] K = (brc (Option.isSome (dec_Right.f a0_0 a0_1)) (∀ (m0 : Bool), m0 = gd (dec_Right.f a0_0 a0_1) → brc (!m0) (K (AV.tup [AV.agg [AV.int IntKind.i64 0, AV.int IntKind.i64 0], AV.int IntKind.i64 1])) (brc (decide (a1 < 0)) (K (AV.tup [AV.agg [AV.int IntKind.i64 0, AV.int IntKind.i64 0], AV.int IntKind.i64 1])) (brc (decide (a1 > 9)) (K (AV.tup [AV.agg [AV.int IntKind.i64 0, AV.int IntKind.i64 0], AV.int IntKind.i64 1])) (brc (decide (a1 ≥ a0_1)) (brc (Option.isSome (dec_Dec_to.f k a0_0 a0_1 a1)) (∀ (m1 : Int), m1 = Prod.fst (gd (dec_Dec_to.f k a0_0 a0_1 a1)) → ∀ (m2 : Int), m2 = Prod.fst (Prod.snd (gd (dec_Dec_to.f k a0_0 a0_1 a1))) → ∀ (m3 : Int), m3 = Prod.snd (Prod.snd (gd (dec_Dec_to.f k a0_0 a0_1 a1))) → K (AV.tup [AV.agg [AV.int IntKind.i64 m1, AV.int IntKind.i64 m2], AV.int IntKind.i64 m3])) False) (brc (Option.isSome (dec_ten.f (IntKind.wrap IntKind.i64 (a0_1 - a1)))) (∀ (m1 : Int), m1 = gd (dec_ten.f (IntKind.wrap IntKind.i64 (a0_1 - a1))) → brc (decide (m1 ≠ 0)) (brc (decide (m1 ≠ 0)) (brc (decide (IntKind.wrap IntKind.i64 (2 * if IntKind.wrap IntKind.i64 (0 - Int.tmod a0_0 m1) > Int.tmod a0_0 m1 then IntKind.wrap IntKind.i64 (0 - Int.tmod a0_0 m1) else Int.tmod a0_0 m1) ≥ m1)) (brc (decide (Int.tmod a0_0 m1 > 0)) (K (AV.tup [AV.agg [AV.int IntKind.i64 (IntKind.wrap IntKind.i64 (IntKind.wrap IntKind.i64 (Int.tdiv a0_0 m1) + 1)), AV.int IntKind.i64 a1], AV.int IntKind.i64 0])) (K (AV.tup [AV.agg [AV.int IntKind.i64 (IntKind.wrap IntKind.i64 (IntKind.wrap IntKind.i64 (Int.tdiv a0_0 m1) - 1)), AV.int IntKind.i64 a1], AV.int IntKind.i64 0]))) (K (AV.tup [AV.agg [AV.int IntKind.i64 (IntKind.wrap IntKind.i64 (Int.tdiv a0_0 m1)), AV.int IntKind.i64 a1], AV.int IntKind.i64 0]))) False) False) False))))) False) := by kernel_rfl
set_option maxHeartbeats 1000000 in
set_option maxRecDepth 100000 in
theorem dec_Round.calls (k : Nat) (a0_0 : Int) (a0_1 : Int) (a1 : Int) (r1 : Int) (r2 : Int) (r3 : Int) (w : World) (h : dec_Round.f k a0_0 a0_1 a1 = some (r1, r2, r3)) :
    Calls Try.prog 19 #[.agg #[.int .i64 a0_0, .int .i64 a0_1], .int .i64 a1] w fun e w' => e = .returned (.tuple #[.agg #[.int .i64 r1, .int .i64 r2], .int .i64 r3]) ∧ Below w.heap.size w w' := by
  refine calls_of_vc (A := [.agg #[.int .i64 a0_0, .int .i64 a0_1], .int .i64 a1]) (v := .tup [.agg [.int .i64 r1, .int .i64 r2], .int .i64 r3]) (tab_cons (dec_Right.cok) (tab_cons (dec_ten.cok) (tab_cons (dec_Dec_to.cok k) (tab_nil)))) ((dec_Round.vc k a0_0 a0_1 a1 _).mpr ?_) (by simp [rl_cons, rl_nil, rv_int, rv_bool, rv_str, rv_agg, rv_fn]) (fun ρ V' hV => by simpa [rl_cons, rl_nil, rv_int, rv_bool, rv_str, rv_agg, rv_tup] using hV)
  unfold dec_Round.f at h
  cases k with
  | zero =>
    (try simp only [dec_Round.j0] at h)
    (try simp only [bne, Option.bind_eq_some_iff, ite_some_iff] at h)
    (try simp only [bne, brc_iff, wrap_i64])
    first
      | grind (splits := 60) [gd_some, mx]
      | ((repeat' (first | (have or_ : Or _ _ := h; clear or_; rcases h with h | h) | (have or_ : Exists _ := h; clear or_; obtain ⟨_, h⟩ := h) | (have or_ : And _ _ := h; clear or_; obtain ⟨hq_, h⟩ := h))) <;> (try simp only [Option.some.injEq, Prod.mk.injEq, reduceCtorEq] at h) <;> (try subst_vars) <;> first | (simp_all [gd_some, mx] <;> (try omega) <;> done) | grind (splits := 60) [gd_some, mx])
      | (intros; subst_vars; simp_all [gd_some]; done)
  | succ k =>
    (try simp only [dec_Round.j0] at h)
    (try simp only [bne, Option.bind_eq_some_iff, ite_some_iff] at h)
    (try simp only [bne, brc_iff, wrap_i64])
    first
      | grind (splits := 60) [gd_some, mx, dec_Dec_to.up]
      | ((repeat' (first | (have or_ : Or _ _ := h; clear or_; rcases h with h | h) | (have or_ : Exists _ := h; clear or_; obtain ⟨_, h⟩ := h) | (have or_ : And _ _ := h; clear or_; obtain ⟨hq_, h⟩ := h; (try first | replace hq_ := dec_Dec_to.le (n := k + 1) hq_ (by omega))))) <;> (try simp only [Option.some.injEq, Prod.mk.injEq, reduceCtorEq] at h) <;> (try subst_vars) <;> first | (simp_all [gd_some, mx] <;> (try omega) <;> done) | grind (splits := 60) [gd_some, mx, dec_Dec_to.up])
      | (intros; subst_vars; simp_all [gd_some]; done)
noncomputable def dec_Round.con (k : Nat) : Con
  | [.agg [.int .i64 a0_0, .int .i64 a0_1], .int .i64 a1] => some ((dec_Round.f k a0_0 a0_1 a1).isSome, .tup [.agg [.int .i64 (gd (dec_Round.f k a0_0 a0_1 a1)).1, .int .i64 (gd (dec_Round.f k a0_0 a0_1 a1)).2.1], .int .i64 (gd (dec_Round.f k a0_0 a0_1 a1)).2.2])
  | _ => none
set_option maxRecDepth 100000 in
theorem dec_Round.cok (k : Nat) : COk Try.prog 19 (dec_Round.con k) := by
  intro args p v hc hp w A hA
  unfold dec_Round.con at hc
  split at hc
  · rename_i a0_0 a0_1 a1
    simp only [Option.some.injEq, Prod.mk.injEq] at hc
    obtain ⟨rfl, rfl⟩ := hc
    rcases hf : dec_Round.f k a0_0 a0_1 a1 with _ | ⟨r1, r2, r3⟩
    · rw [hf] at hp; cases hp
    obtain rfl : A = [.agg #[.int .i64 a0_0, .int .i64 a0_1], .int .i64 a1] := by simpa [rl_cons, rl_nil, rv_int, rv_bool, rv_str, rv_agg, rv_fn] using hA
    exact gives_of_calls (fn := Try.f19) Try.func19 (by kernel_rfl) (by kernel_rfl) (dec_Round.calls _ _ _ _ _ _ _ w hf) (fun _ => by simp [gd_some, rl_cons, rl_nil, rv_int, rv_bool, rv_str, rv_agg, rv_tup]) (fun _ h => h)
  · cases hc
end Go.Proofs.Ytkongoedgngfhaa.P

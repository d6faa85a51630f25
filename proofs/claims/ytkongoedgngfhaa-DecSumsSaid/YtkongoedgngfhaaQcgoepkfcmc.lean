/- The abstract machine: opv_ok: whatever an operation gives abstractly, the model's operation gives. -/
import Derived.Test.YtkongoedgngfhaaQjonbgcjcam
import Derived.Orders
import Derived.Test.YtkongoedgngfhaaProg
import Derived.Test.YtkongoedgngfhaaQamlaibneoj
import Derived.Below
import Derived.Deep.Draws
import Derived.Deep.AppendLies
import Derived.Maps.AppendAt
import Derived.OwnWalk
import Derived.Laws.BytesArg
import Derived.Laws.MakeOwn
import Derived.Laws.OwnMore
import Derived.Deep.OwnRows
import Derived.Tactics
import Derived.Lib.ConvBytes
import Derived.Laws.Slices
import Derived.WalkKit
import Derived.KernelRfl
import Derived.RowKit3
import Derived.Deep.LoopGhost
import Derived.Deep.QuietTactic
import Derived.BigQuiet
import Derived.WideLaws
import Derived.Deep.DeepCutAuto
import Derived.Deep.CutBlock
import Derived.Deep.RegionHeld3
import Derived.Laws.Rows
import Derived.Lib.AppendStr
import Derived.ArgAppend
import Derived.Laws.IdiomCopy
import Derived.OrdersHeld
import Derived.Laws.BitsLemmas
import Derived.RowKit
import Derived.Laws.RangeString
import Derived.Laws.RangeAny
import Derived.Lib.OthersKept
namespace Go.Proofs.Ytkongoedgngfhaa.A
open Go Go.RowKit
set_option linter.unusedVariables false
set_option linter.unusedSimpArgs false
variable {P : Program} {ρ : Names} {W w : World} {h : Heap}
theorem wp_value {o : Oper} {a : Act} {w' : World} {K : Act → World → Prop} {Q : Exit → Act → World → Prop} {V : Value} (hr : (execOp a.eval o).run P w = .ok (.value V) w') (hK : K (a.put o.dst V) w') : o.wp P a w K Q := by
  unfold Oper.wp; rw [hr]; exact hK
theorem wp_skipped {o : Oper} {a : Act} {w' : World} {K : Act → World → Prop} {Q : Exit → Act → World → Prop} (hr : (execOp a.eval o).run P w = .ok .skip w') (hK : K (a.put o.dst undef) w') : o.wp P a w K Q := by
  unfold Oper.wp; rw [hr]; exact hK
theorem wp_gives {o : Oper} {a : Act} {w : World} {K : Act → World → Prop} {Q : Exit → Act → World → Prop} {g : FuncId} {A : Array Value} {R : Value → World → Prop} (hg : Gives P g A w R)
    (hr : (execOp a.eval o).run P w = (callFunc g A).run P w) (hK : ∀ V w', R V w' → K (a.put o.dst V) w') : o.wp P a w K Q := by
  unfold Oper.wp; rw [hr]
  rcases hg with ⟨h1, h2⟩ | ⟨V, h1, h2⟩
  · rw [h1]
    refine h2.mono fun e w' he => ?_
    obtain ⟨V, rfl, hR⟩ := he
    exact hK V w' hR
  · rw [h1]; exact hK V w h2
theorem box_ok (hR : Rel ρ W h w) {nm : Nat} (hf : Fresh h nm) {t : TypeId} {v : AV} {V : Value} (hv : RV ρ W v V) :
    ∃ w', (Instr.box t V).run P w = .ok (.pointer (some ⟨w.heap.size, 0, none⟩)) w' ∧ Rel (ρ.with nm w.heap.size 0) W (effH h nm (.alloc (.cells v.cells))) w' ∧ RV (ρ.with nm w.heap.size 0) W (.ptr nm 0 0 0) (.pointer (some ⟨w.heap.size, 0, none⟩)) := by
  have hnew := hR.alloc hf hv.cells t
  refine ⟨_, ?_, hnew, ?_⟩
  · simp only [Instr.box, newVar, newRow, Sem.run_bind, run_newObj, Result.andThen_ok, Sem.run_pure]
    rfl
  · have : (ρ.with nm w.heap.size 0) nm = some (w.heap.size, 0) := by simp [Names.with]
    simpa using RV.ptr (ρ := ρ.with nm w.heap.size 0) (W := W) 0 0 0 this
theorem target_ok {e : Operand → Option AV} {a : Act} (he : ∀ x v, e x = some v → RV ρ W v (a.eval x)) {c : Call} {g : FuncId} {args : List AV} (hq : targetA e c = some (g, args)) (ty : TypeId) :
    ∃ A, RL ρ W args A ∧ ∀ w, ((do let d ← resolve a.eval c ty; invoke d.target d.args) : Sem Next).run P w = (callFunc g A.toArray).run P w := by
  unfold targetA at hq
  split at hq
  case h_2 => cases hq
  rename_i f hc
  split at hq
  case h_2 => cases hq
  rename_i g' first cap zs h1 h2
  simp at hq
  obtain ⟨rfl, rfl⟩ := hq
  have hfv := he _ _ h1
  generalize hF : a.eval f = F at hfv
  cases hfv with | fn f' ha hb =>
  rename_i A B
  have has := evAll_ok he _ _ h2
  refine ⟨A ++ (c.args.toList.map a.eval ++ B), ha.append (has.append hb), fun w => ?_⟩
  have e0 : c.args.map a.eval = (c.args.toList.map a.eval).toArray := by apply Array.ext'; simp
  simp only [resolve, hc, Sem.run_bind, hF, Deferred.ofValue, Sem.run_pure, Result.andThen_ok, invoke]
  congr 2
  rw [e0]
  simp
theorem opv_ok {T : Tab} (hT : TabOk P T) (hR : Rel ρ W h w) {rd : Nat → Option Ob} {nm : Nat} (hrd : ∀ n x, rd n = some x → h[n]? = some (some x)) (hnm : Fresh h nm) {e : Operand → Option AV} {a : Act}
    (he : ∀ x v, e x = some v → RV ρ W v (a.eval x)) {o : Oper} {v : AV} {f : Eff} (hv : opv P T rd nm e o = some (true, v, f)) {K : Act → World → Prop} {Q : Exit → Act → World → Prop}
    (hK : ∀ ρ' w' V, Ext ρ ρ' → RV ρ' W v V → Rel ρ' W (effH h nm f) w' → K (a.put o.dst V) w') : o.wp P a w K Q := by
  have plain : ∀ {r : Option AV}, plainOut r = some (true, v, f) → r = some v ∧ f = .no := fun {r} hq => by
    cases r <;> simp [plainOut] at hq; exact ⟨by rw [hq.1], hq.2.symm⟩
  have cond : ∀ {r : Option (Bool × AV)}, condOut r = some (true, v, f) → r = some (true, v) ∧ f = .no := fun {r} hq => by
    cases r with
    | none => simp [condOut] at hq
    | some p => obtain ⟨p, q⟩ := p; simp [condOut] at hq; exact ⟨by rw [hq.1, hq.2.1], hq.2.2.symm⟩
  have done : ∀ {V : Value}, f = .no → RV ρ W v V → K (a.put o.dst V) w := fun hf hV => hK ρ w _ (Ext.refl ρ) hV (by rw [hf]; exact hR)
  have val : ∀ {s : Sem Value} {V : Value}, f = .no → execOp a.eval o = (do pure (.value (← s))) → s.run P w = .ok V w → RV ρ W v V → o.wp P a w K Q := fun {s V} hf h1 h2 h3 =>
    wp_value (w' := w) (V := V) (by rw [h1]; simp [h2]) (done hf h3)
  unfold opv at hv
  split at hv
  case h_1 x hop =>
    obtain ⟨h1, h2⟩ := plain hv
    exact wp_value (w' := w) (V := a.eval x) (by simp only [execOp, hop] <;> rfl) (done h2 (he _ _ h1))
  case h_2 x hop =>
    obtain ⟨h1, h2⟩ := plain hv
    exact wp_value (w' := w) (V := a.eval x) (by simp only [execOp, hop] <;> rfl) (done h2 (he _ _ h1))
  case h_3 c x y hop =>
    split at hv
    · rename_i q u u' h1 h2 h3
      simp [give] at hv
      obtain ⟨rfl, rfl⟩ := hv
      have hc := he _ _ h1
      generalize hC : a.eval c = C at hc
      cases hc
      refine wp_value (w' := w) (V := if q then a.eval x else a.eval y) (by simp only [execOp, hop, hC]; simp [asBool]) (done rfl (aite_ok (he _ _ h2) (he _ _ h3)))
    · cases hv
  case h_4 t hop =>
    split at hv
    · rename_i z hz
      unfold boxOut at hv
      split at hv
      · simp at hv
        obtain ⟨rfl, rfl⟩ := hv
        obtain ⟨V, g1, g2⟩ := run_zero hz ρ W w
        obtain ⟨w', g3, g4, g5⟩ := box_ok (P := P) hR hnm (t := t) g2
        refine wp_value (w' := w') ?_ (hK _ _ _ (Names.with_ext (hR.free_none hnm)) g5 g4)
        simp only [Instr.box, Sem.run_bind, Sem.run_pure] at g3
        simp only [execOp, hop, Instr.alloc, Sem.run_bind, g1, Result.andThen_ok, g3, Sem.run_pure]
      · cases hv
    · cases hv
  case h_5 t x hop =>
    split at hv
    · rename_i u hu
      unfold boxOut at hv
      split at hv
      · simp at hv
        obtain ⟨rfl, rfl⟩ := hv
        obtain ⟨w', g3, g4, g5⟩ := box_ok (P := P) hR hnm (t := t) (he _ _ hu)
        refine wp_value (w' := w') ?_ (hK _ _ _ (Names.with_ext (hR.free_none hnm)) g5 g4)
        simp only [execOp, hop, Sem.run_bind, g3, Result.andThen_ok, Sem.run_pure]
      · cases hv
    · cases hv
  case h_6 t ps hop =>
    split at hv
    · rename_i vs hvs
      obtain ⟨h1, h2⟩ := plain hv
      obtain ⟨V, g1, g2⟩ := build_ok (P := P) (evParts_ok he _ _ hvs) h1 w
      refine val h2 (by simp only [execOp, hop] <;> rfl) ?_ g2
      have : ps.map (fun (i, x) => (i, a.eval x)) = (ps.toList.map fun (i, x) => (i, a.eval x)).toArray := by apply Array.ext'; simp
      rw [this]; exact g1
    · cases hv
  case h_7 t x hop =>
    split at hv
    · rename_i u hu
      obtain ⟨h1, h2⟩ := cond hv
      obtain ⟨V, g1, g2⟩ := loadA_ok hR hrd (he _ _ hu) h1
      exact val h2 (by simp only [execOp, hop] <;> rfl) g1 g2
    · cases hv
  case h_8 t x y hop =>
    split at hv
    · rename_i u u' h1 h2
      simp only [Option.map_eq_some_iff] at hv
      obtain ⟨⟨n, ob⟩, hs, hv⟩ := hv
      simp at hv
      obtain ⟨rfl, rfl⟩ := hv
      obtain ⟨w', g1, g2⟩ := storeA_ok (P := P) hR hrd (he _ _ h1) (he _ _ h2) hs
      refine wp_skipped (w' := w') ?_ (hK ρ w' _ (Ext.refl ρ) .undef g2)
      simp only [execOp, hop, Sem.run_bind, g1, Result.andThen_ok, Sem.run_pure]
    · cases hv
  case h_9 x hop =>
    split at hv
    · rename_i n i s j hu
      simp [give] at hv; obtain ⟨rfl, rfl⟩ := hv
      have hx := he _ _ hu
      generalize hX : a.eval x = X at hx
      refine wp_value (w' := w) (V := X) ?_ (done rfl hx)
      cases hx; simp only [execOp, hop, hX]; rfl
    · rename_i l j hu
      simp [give] at hv; obtain ⟨rfl, rfl⟩ := hv
      have hx := he _ _ hu
      generalize hX : a.eval x = X at hx
      refine wp_value (w' := w) (V := X) ?_ (done rfl hx)
      cases hx; simp only [execOp, hop, hX]; rfl
    · rename_i g fa fb hu
      simp [give] at hv; obtain ⟨rfl, rfl⟩ := hv
      have hx := he _ _ hu
      generalize hX : a.eval x = X at hx
      refine wp_value (w' := w) (V := X) ?_ (done rfl hx)
      cases hx; simp only [execOp, hop, hX]; rfl
    · cases hv
  case h_10 op t x y yt hop =>
    split at hv
    · rename_i u u' h1 h2
      obtain ⟨g1, g2⟩ := cond hv
      obtain ⟨V, g3, g4⟩ := binA_ok (P := P) (ox := x) (oy := y) (he _ _ h1) (he _ _ h2) g1 w
      exact val g2 (by simp only [execOp, hop] <;> rfl) g3 g4
    · cases hv
  case h_11 op t x hop =>
    split at hv
    · rename_i u hu
      obtain ⟨g1, g2⟩ := plain hv
      obtain ⟨V, g3, g4⟩ := unA_ok (P := P) (he _ _ hu) g1 w
      exact val g2 (by simp only [execOp, hop] <;> rfl) g3 g4
    · cases hv
  case h_12 s d x hop =>
    split at hv
    · rename_i u hu
      obtain ⟨g1, g2⟩ := plain hv
      obtain ⟨V, g3, g4⟩ := convA_ok (P := P) (he _ _ hu) g1 w
      exact val g2 (by simp only [execOp, hop] <;> rfl) g3 g4
    · cases hv
  case h_13 t x hop =>
    split at hv
    · cases hv
    · rename_i d u hni hd hu
      simp [give] at hv; obtain ⟨rfl, rfl⟩ := hv
      refine val (V := .iface t (a.eval x)) rfl (by simp only [execOp, hop] <;> rfl) ?_ (.ifc t (he _ _ hu))
      simp only [Instr.makeInterface, Sem.run_bind, run_underlying hd, Result.andThen_ok]
      rfl
    · cases hv
  case h_14 g x y hop =>
    split at hv
    · rename_i u u' h1 h2
      simp [give] at hv; obtain ⟨rfl, rfl⟩ := hv
      refine val (V := .func g (x.toList.map a.eval).toArray (y.toList.map a.eval).toArray) rfl (by simp only [execOp, hop] <;> rfl) ?_ (.fn g (evAll_ok he _ _ h1) (evAll_ok he _ _ h2))
      have e1 : ∀ z : Array Operand, z.map a.eval = (z.toList.map a.eval).toArray := fun z => by apply Array.ext'; simp
      simp only [Instr.makeFunc, e1, Sem.run_pure]
    · cases hv
  case h_15 t x lo hi hop =>
    split at hv
    · rename_i u l k h1 h2 h3
      obtain ⟨g1, g2⟩ := cond hv
      have ev : ∀ (x : Option Operand) (l : Option AV), evOpt e x = some l → match l, x.map a.eval with | none, none => True | some v, some V => RV ρ W v V | _, _ => False := fun x l hq => by
        cases x with
        | none => simp [evOpt] at hq; subst hq; trivial
        | some x =>
          simp only [evOpt, Option.map_eq_some_iff] at hq
          obtain ⟨v, hv, rfl⟩ := hq
          exact he _ _ hv
      obtain ⟨V, g3, g4⟩ := sliceA_ok (P := P) (he _ _ h1) (ev _ _ h2) (ev _ _ h3) g1 w
      exact val g2 (by simp only [execOp, hop] <;> rfl) g3 g4
    · cases hv
  case h_16 t x g hop =>
    split at hv
    · rename_i u hu
      obtain ⟨g1, g2⟩ := plain hv
      obtain ⟨V, g3, g4⟩ := fieldAddrA_ok (P := P) (he _ _ hu) g1 w
      exact val g2 (by simp only [execOp, hop] <;> rfl) g3 g4
    · cases hv
  case h_17 t x g hop =>
    split at hv
    · rename_i l fd hu hfd
      obtain ⟨g1, g2⟩ := plain hv
      have hx := he _ _ hu
      generalize hX : a.eval x = X at hx
      cases hx with | agg hx =>
      obtain ⟨V, g3, g4⟩ := field_ok (P := P) hx hfd g1 w
      exact val g2 (by simp only [execOp, hop, hX] <;> rfl) g3 g4
    · cases hv
  case h_18 t x i hop =>
    split at hv
    · rename_i u u' h1 h2
      obtain ⟨g1, g2⟩ := cond hv
      obtain ⟨V, g3, g4⟩ := indexAddrA_ok (P := P) hR (he _ _ h1) (he _ _ h2) g1
      exact val g2 (by simp only [execOp, hop] <;> rfl) g3 g4
    · cases hv
  case h_19 t x i hop =>
    split at hv
    · rename_i u u' h1 h2
      obtain ⟨g1, g2⟩ := cond hv
      obtain ⟨V, g3, g4⟩ := indexA_ok (P := P) (he _ _ h1) (he _ _ h2) g1 w
      exact val g2 (by simp only [execOp, hop] <;> rfl) g3 g4
    · cases hv
  case h_20 x i hop =>
    split at hv
    · rename_i l hu
      obtain ⟨g1, g2⟩ := plain hv
      have hx := he _ _ hu
      generalize hX : a.eval x = X at hx
      cases hx with | tup hx =>
      obtain ⟨V, g3, g4⟩ := extract_ok (P := P) hx g1 w
      exact val g2 (by simp only [execOp, hop, hX] <;> rfl) g3 g4
    · cases hv
  case h_21 c hop =>
    split at hv
    · rename_i b hb
      split at hv
      case h_2 => cases hv
      rename_i args hargs
      obtain ⟨g1, g2⟩ := plain hv
      have hL := evAll_ok he _ _ hargs
      have hrun : ∀ {s : Sem Value} {V : Value}, builtin b c.argTypes o.type (c.args.map fun | .const _ => true | _ => false) (c.args.toList.map a.eval).toArray = (do pure (.value (← s))) → s.run P w = .ok V w → RV ρ W v V → o.wp P a w K Q := fun {s V} h1 h2 h3 => by
        refine wp_value (w' := w) (V := V) ?_ (done g2 h3)
        have e0 : c.args.map a.eval = (c.args.toList.map a.eval).toArray := by apply Array.ext'; simp
        simp only [execOp, hop, resolve, hb, Sem.run_bind, Sem.run_pure, Result.andThen_ok, invoke, e0]
        refine (congrArg (fun s => Sem.run P s w) h1).trans ?_
        simp only [Sem.run_bind, h2, Result.andThen_ok, Sem.run_pure]
      unfold builtinA at g1
      split at g1
      · rename_i x
        split at g1
        · rename_i t ht
          generalize c.args.toList.map a.eval = L at hL hrun
          cases hL with | cons hx hn =>
          cases hn
          obtain ⟨V, g3, g4⟩ := lenA_ok (P := P) (ty := o.type) ht hx g1 w
          exact hrun rfl g3 g4
        · cases g1
      · rename_i x r
        generalize c.args.toList.map a.eval = L at hL hrun
        cases hL with | cons hx hr =>
        obtain ⟨V, g3, g4⟩ := foldA_ok (P := P) (g := Builtin.max2) (fun x y v X Y hq hx hy w => max2A_ok x y v X Y hq hx hy w) _ _ _ _ _ hr hx g1 w
        exact hrun (s := Builtin.max_ c.argTypes o.type _) rfl (by simpa [Builtin.max_] using g3) g4
      · rename_i x r
        generalize c.args.toList.map a.eval = L at hL hrun
        cases hL with | cons hx hr =>
        obtain ⟨V, g3, g4⟩ := foldA_ok (P := P) (g := Builtin.min2) (fun x y v X Y hq hx hy w => min2A_ok x y v X Y hq hx hy w) _ _ _ _ _ hr hx g1 w
        exact hrun (s := Builtin.min_ c.argTypes o.type _) rfl (by simpa [Builtin.min_] using g3) g4
      · cases g1
    · rename_i hnb
      unfold callA at hv
      split at hv
      case h_2 => cases hv
      rename_i g args hta
      split at hv
      case h_2 => cases hv
      rename_i con hcon
      split at hv
      case h_2 => cases hv
      rename_i args' hfz
      split at hv
      case h_2 => cases hv
      rename_i p u hcv
      split at hv
      case isFalse => cases hv
      rename_i hflat
      simp at hv
      obtain ⟨rfl, rfl, rfl⟩ := hv
      obtain ⟨A, hA, hrunA⟩ := target_ok (P := P) he hta o.type
      have hfr : ∀ (l l' : List AV) (L : List Value), RL ρ W l L → frzAll rd l = some l' → RL noNames w l' L := by
        intro l
        induction l with
        | nil => intro l' L hl hq; cases hl; simp [frzAll] at hq; subst hq; exact .nil
        | cons x l ih =>
          intro l' L hl hq
          cases hl with | cons h1 h2 =>
          simp only [frzAll] at hq
          split at hq
          · rename_i x' r g1 g2
            simp at hq; subst hq
            exact .cons (frz_ok hR hrd 6 h1 g1) (ih _ _ h2 g2)
          · cases hq
      have hg := hT g con hcon args' true u hcv rfl w A (hfr _ _ _ hA hfz)
      refine wp_gives hg (by simp only [execOp, hop]; exact hrunA w) fun V w' hVw => ?_
      exact hK ρ w' V (Ext.refl ρ) (hVw.1.flat_move 4 hflat) (hR.below hVw.2)
  case h_22 => cases hv
end Go.Proofs.Ytkongoedgngfhaa.A
namespace Go.Proofs.Ytkongoedgngfhaa.A
open Go Go.RowKit
set_option linter.unusedVariables false
set_option linter.unusedSimpArgs false
variable {P : Program} {ρ : Names} {W w : World} {T : Tab} {ops : Array Oper}
theorem no_elim {p : Prop} (h : PA.no) : p := False.elim h
structure TR (ρ : Names) (W : World) (t : List (Option AV)) (a : Array Value) : Prop where
  len : t.length = a.size
  get : ∀ (i : Nat) (v : AV), t[i]? = some (some v) → ∃ V, a[i]? = some V ∧ RV ρ W v V
structure RelS (ρ : Names) (W : World) (st : St) (a : Act) (w : World) : Prop where
  t : TR ρ W st.t a.tmps
  h : Rel ρ W st.h w
  d : a.defers = []
theorem TR.ext {ρ' : Names} {t : List (Option AV)} {a : Array Value} (h : TR ρ W t a) (he : Ext ρ ρ') : TR ρ' W t a :=
  ⟨h.len, fun i v hv => let ⟨V, h1, h2⟩ := h.get i v hv; ⟨V, h1, h2.ext he⟩⟩
theorem TR.put {ρ' : Names} {t : List (Option AV)} {a : Act} (h : TR ρ W t a.tmps) (he : Ext ρ ρ') {v : AV} {V : Value} (hv : RV ρ' W v V) (dst : Option Tmp) : TR ρ' W (putT t dst v) (a.put dst V).tmps := by
  cases dst with
  | none => exact h.ext he
  | some d =>
    refine ⟨by simp [putT, Act.put, h.len], fun i u hu => ?_⟩
    simp only [putT, List.getElem?_set] at hu
    simp only [Act.put, Array.getElem?_setIfInBounds]
    have hl := h.len
    split at hu
    · rename_i hd
      subst hd
      split at hu
      · rename_i hlt
        simp at hu; subst hu
        exact ⟨V, by simp; omega, hv⟩
      · cases hu
    · rename_i hd
      rw [if_neg hd]
      obtain ⟨U, h1, h2⟩ := h.get i u hu
      exact ⟨U, h1, h2.ext he⟩
theorem put_defers (a : Act) (dst : Option Tmp) (V : Value) : (a.put dst V).defers = a.defers := by cases dst <;> rfl
theorem RelS.ev {st : St} {a : Act} (h : RelS ρ W st a w) {tm : Nat → Option AV} (ht : ∀ t v, tm t = some v → st.t[t]? = some (some v)) : ∀ x v, evOf tm x = some v → RV ρ W v (a.eval x) := by
  intro x v hx
  cases x with
  | tmp t =>
    obtain ⟨V, h1, h2⟩ := h.t.get t v (ht t v hx)
    simp only [Act.eval, Array.getD_eq_getD_getElem?, h1, Option.getD_some]; exact h2
  | const v' => exact ofV_ok ρ W 3 _ _ hx
  | global g => simp [evOf] at hx
  | func f => simp [evOf] at hx; subst hx; exact .fn _ .nil .nil
theorem RelS.ev0 {st : St} {a : Act} (h : RelS ρ W st a w) : ∀ x v, evOf (tmAll st) x = some v → RV ρ W v (a.eval x) := h.ev fun _ _ => tmAll_some
theorem RelS.wanted {st : St} {a : Act} (h : RelS ρ W st a w) {tm : Nat → Option AV} (ht : ∀ t v, tm t = some v → st.t[t]? = some (some v)) {o : Oper} {b : Bool} (hq : wantedA ops tm o = some b) : Region.wanted o (yielded ops a.tmps) = b := by
  unfold wantedA at hq
  unfold Region.wanted
  split at hq
  · rename_i hg; simp at hq; subst hq; simp [hg]
  · rename_i j want hg
    simp only [hg]
    split at hq
    case h_2 => cases hq
    rename_i d hd
    split at hq
    · rename_i b' hb
      obtain ⟨V, h1, h2⟩ := h.t.get d _ (ht _ _ hb)
      cases h2
      simp only [yielded, hd, Option.bind_some, h1]
      simp at hq; subst hq
      cases want <;> cases b' <;> rfl
    · rename_i hb
      obtain ⟨V, h1, h2⟩ := h.t.get d _ (ht _ _ hb)
      cases h2
      simp only [yielded, hd, Option.bind_some, h1]
      simp at hq; subst hq
      cases want <;> rfl
    · cases hq
/-- What a walked call must come to. -/
def InlOk (P : Program) (inl : Inl Prop) : Prop :=
  ∀ (o : Oper) (c : Call), o.op = .call c → ∀ (e : Operand → Option AV) (h : Heap) (Kx : AV → Heap → Prop), inl c e h Kx →
    ∀ (ρ : Names) (W w : World) (a : Act), Rel ρ W h w → (∀ x v, e x = some v → RV ρ W v (a.eval x)) → ∀ (K : Act → World → Prop) (Q : Exit → Act → World → Prop),
      (∀ ρ' V w' v h', Ext ρ ρ' → RV ρ' W v V → Rel ρ' W h' w' → Kx v h' → K (a.put o.dst V) w') → o.wp P a w K Q
theorem noInl_ok (P : Program) : InlOk P (noInl PA) := fun _ _ _ _ _ _ h => no_elim h
theorem step_ok (hT : TabOk P T) {ok : Nat → Nat → Bool} {lk : Lk} (hlk : LkOk lk) {rd : Nat → Heap → Nat → Option Ob} (hrd : ∀ i h n x, rd i h n = some x → h[n]? = some (some x)) {nm : Nat → Heap → Nat} {inl : Inl Prop}
    (hI : InlOk P inl) {i : Nat} {K : St → Prop} {st : St} {a : Act} (hs : RelS ρ W st a w) (hn : (∃ o, ops[i]? = some o) → Fresh st.h (nm i st.h)) (hq : stepA PA P T ok lk ops rd nm inl i K st) {K' : Act → World → Prop} {Q : Exit → Act → World → Prop}
    (hK : ∀ ρ' st' a' w', Ext ρ ρ' → RelS ρ' W st' a' w' → K st' → K' a' w') : wpOp P ops Q i K' a w := by
  rw [stepA_eq PA P T ok hlk] at hq
  unfold stepB at hq
  rw [getL_eq, Array.getElem?_toList] at hq
  unfold wpOp
  split at hq
  · rename_i ho; simp only [ho]; exact hK ρ st a w (Ext.refl ρ) hs hq
  · rename_i o ho
    simp only [ho]
    split at hq
    · exact no_elim hq
    · rename_i b hb
      rw [hs.wanted (hlk o st) hb]
      cases b with
      | false =>
        simp only [Bool.false_eq_true, if_false]
        simp only [PA, brc, fst_eq] at hq
        exact hK ρ ⟨putT st.t o.dst .undef, st.h⟩ _ w (Ext.refl ρ) ⟨hs.t.put (Ext.refl ρ) .undef o.dst, hs.h, by rw [put_defers]; exact hs.d⟩ hq
      | true =>
        simp only [if_true]
        refine .inl ?_
        simp only [PA, brc] at hq
        split at hq
        · rename_i p v f hv
          cases hok : effOk (ok i) f with
          | false => rw [hok] at hq; exact no_elim hq
          | true =>
          rw [hok] at hq
          obtain ⟨rfl, hq⟩ := brc_false.1 hq
          rw [fx_eq, fe_eq, fst_eq] at hq
          exact opv_ok hT hs.h (hrd i st.h) (hn ⟨o, ho⟩) (hs.ev (hlk o st)) hv fun ρ' w' V he hV hR => hK ρ' _ _ w' he ⟨hs.t.put he hV o.dst, hR, by rw [put_defers]; exact hs.d⟩ hq
        · split at hq
          · rename_i c hc
            exact hI o c hc _ _ _ hq ρ W w a hs.h (hs.ev (hlk o st)) K' Q fun ρ' V w' v h' he hV hR hk => hK ρ' _ _ w' he ⟨hs.t.put he hV o.dst, hR, by rw [put_defers]; exact hs.d⟩ (by rw [fv_eq, fst_eq] at hk; exact hk)
          · exact no_elim hq
theorem rdFlat_ok (h : Heap) (n : Nat) (x : Ob) (hq : rdFlat h n = some x) : h[n]? = some (some x) := by
  unfold rdFlat at hq
  rw [getL_eq] at hq
  cases hg : h[n]? with
  | none => simp [hg] at hq
  | some u => simp [hg] at hq; rw [hq]
theorem rdDrawn_ok (base : Nat) (bf : List Nat) (own : List (Nat × Nat)) (i : Nat) (h : Heap) (n : Nat) (x : Ob) (hq : rdDrawn base bf own i h n = some x) : h[n]? = some (some x) := by
  unfold rdDrawn at hq
  split at hq
  · exact rdFlat_ok h n x (by unfold rdFlat; rw [getL_eq]; exact hq)
  · cases hq
/-- In the text's order. -/
theorem opsA_ok (hT : TabOk P T) {inl : Inl Prop} (hI : InlOk P inl) {Q : Exit → Act → World → Prop} {K : St → Prop} : ∀ (l : List Nat) {ρ : Names} {st : St} {a : Act} {w : World}, RelS ρ W st a w →
    opsA PA P T (fun _ _ => true) lkAll ops (fun _ => rdFlat) (fun _ h => h.length) inl l st K → (∀ ρ' st' a' w', Ext ρ ρ' → RelS ρ' W st' a' w' → K st' → Q .normal a' w') → wpOps P ops Q l a w
  | [], ρ, st, a, w, hs, hq, hK => hK ρ st a w (Ext.refl ρ) hs hq
  | i :: r, ρ, st, a, w, hs, hq, hK => by
    rw [wpOps_cons]
    exact step_ok hT lkAll_ok (fun _ => rdFlat_ok) hI hs (fun _ => .inl rfl) hq fun ρ' st' a' w' he hs' hq' => opsA_ok hT hI r hs' hq' fun ρ2 st2 a2 w2 he2 => hK ρ2 st2 a2 w2 (he.trans he2)
/-- What an operation of a region that draws its order may do. -/
def Good (base : Nat) (bf : List Nat) (mask : Nat) (own : List (Nat × Nat)) (i : Nat) : Eff → Prop
  | .set n _ => if n < base then (i, n) ∈ own ∧ okOld bf own i n = true else mask.testBit (n - base) = true ∧ (bf.getD i 0).testBit (n - base) = true
  | _ => True
theorem opv_set {rd : Nat → Option Ob} {nm : Nat} {e : Operand → Option AV} {o : Oper} {p : Bool} {v : AV} {n : Nat} {x : Ob} (hv : opv P T rd nm e o = some (p, v, .set n x)) : isStore o.op = true ∧ ∃ y, rd n = some y := by
  have plain : ∀ {r : Option AV}, plainOut r = some (p, v, .set n x) → False := fun {r} h => by
    cases r <;> simp [plainOut] at h
  have cond : ∀ {r : Option (Bool × AV)}, condOut r = some (p, v, .set n x) → False := fun {r} h => by
    cases r with
    | none => simp [condOut] at h
    | some p => obtain ⟨p, q⟩ := p; simp [condOut] at h
  have giv : ∀ {r : AV}, give r = some (p, v, .set n x) → False := fun {r} h => by
    simp [give] at h
  have bx : ∀ {r : AV}, boxOut nm r = some (p, v, .set n x) → False := fun {r} h => by
    unfold boxOut at h; split at h <;> simp at h
  unfold opv at hv
  split at hv
  case h_8 t a b hop =>
    refine ⟨by simp [isStore, hop], ?_⟩
    split at hv
    · rename_i u u' h1 h2
      simp only [Option.map_eq_some_iff] at hv
      obtain ⟨⟨m, ob⟩, hs, hv⟩ := hv
      simp at hv
      obtain ⟨_, _, rfl, rfl⟩ := hv
      unfold storeA at hs
      split at hs
      case h_2 => cases hs
      split at hs
      case h_2 => cases hs
      rename_i l hl
      split at hs
      case isFalse => cases hs
      simp at hs
      exact ⟨_, hs.1 ▸ hl⟩
    · cases hv
  case h_21 =>
    exfalso
    split at hv
    · split at hv
      · exact plain hv
      · cases hv
    · unfold callA at hv
      (repeat' split at hv) <;> simp at hv
  all_goals (exfalso; first | exact plain hv | (split at hv <;> first | exact plain hv | exact cond hv | exact giv hv | exact bx hv | cases hv) | cases hv)
section drawn
variable (P T ops) (base : Nat) (bf : List Nat) (mask : Nat) (own : List (Nat × Nat))
abbrev stepD (i : Nat) (K : St → Prop) (st : St) : Prop := stepA PA P T (okDrawn base mask own) (lkOf ops) ops (rdDrawn base bf own) (fun i _ => base + i) (noInl PA) i K st
/-- A step: what it comes to. -/
theorem stepD_cases {i : Nat} {o : Oper} (ho : ops[i]? = some o) (st : St) :
    (∀ K, ¬ stepD P T ops base bf mask own i K st) ∨ ∃ v f, Good base bf mask own i f ∧ (∀ n x, f = .set n x → isStore o.op = true) ∧ ∀ K, (stepD P T ops base bf mask own i K st ↔ K ⟨putT st.t o.dst v, effH st.h (base + i) f⟩) ∧
      ∀ st2 : St, tmOf st2 (o.looksAt ops) = tmOf st (o.looksAt ops) → rdDrawn base bf own i st2.h = rdDrawn base bf own i st.h → (stepD P T ops base bf mask own i K st2 ↔ K ⟨putT st2.t o.dst v, effH st2.h (base + i) f⟩) := by
  simp only [stepD, stepA_eq PA P T (okDrawn base mask own) (lkOf_ok ops)]
  simp only [stepB, getL_eq, Array.getElem?_toList, ho, fx_eq, fv_eq, fe_eq, fst_eq, PA, lkOf]
  cases hw : wantedA ops (tmOf st (o.looksAt ops)) o with
  | none => exact .inl fun K h => h
  | some b =>
    cases b with
    | false =>
      refine .inr ⟨.undef, .no, trivial, (fun _ _ h => by cases h), fun K => ⟨by simp [brc, effH], fun st2 h1 h2 => ?_⟩⟩
      rw [h1, hw]; simp [brc, effH]
    | true =>
      simp only [brc]
      cases hv : opv P T (rdDrawn base bf own i st.h) (base + i) (evOf (tmOf st (o.looksAt ops))) o with
      | none =>
        refine .inl fun K h => ?_
        simp only [noInl, PA] at h
        split at h <;> exact h
      | some r =>
        obtain ⟨p, v, f⟩ := r
        cases hok : effOk (okDrawn base mask own i) f with
        | false => exact .inl fun K h => by simp only [hok] at h; exact h
        | true =>
        cases p with
        | false => exact .inl fun K h => by simp only [hok, Bool.cond_true] at h
        | true =>
          refine .inr ⟨v, f, ?_, fun n x hf => ?_, fun K => ⟨by simp [hok, stepSt], fun st2 h1 h2 => ?_⟩⟩
          · cases f with
            | set n x =>
              obtain ⟨_, y, hy⟩ := opv_set hv
              simp only [effOk, okDrawn] at hok
              unfold rdDrawn at hy
              simp only [Good]
              by_cases hn : n < base
              · simp only [hn, decide_true, Bool.cond_true, List.any_eq_true, Bool.and_eq_true, beq_iff_eq] at hok hy
                obtain ⟨⟨j, m⟩, hm, rfl, rfl⟩ := hok
                split at hy
                · rename_i hc
                  rw [if_pos hn]
                  exact ⟨hm, hc⟩
                · cases hy
              · simp only [hn, decide_false, Bool.cond_false] at hok hy
                split at hy
                · rename_i hc
                  rw [if_neg hn]
                  exact ⟨hok, hc⟩
                · cases hy
            | _ => trivial
          · subst hf; exact (opv_set hv).1
          · rw [h1, h2, hw]
            simp only [brc, hv, hok, Bool.cond_true, stepSt, true_and]
theorem tmOf_put {st : St} {ts : List Nat} {dst : Option Tmp} {v : AV} {h' : Heap} (hd : ∀ d, dst = some d → d ∉ ts) : tmOf ⟨putT st.t dst v, h'⟩ ts = tmOf st ts := by
  funext t
  simp only [tmOf, tmAll, getL_eq]
  split
  · rename_i hc
    cases dst with
    | none => rfl
    | some d =>
      have : d ≠ t := fun e => hd d rfl (by subst e; simpa using hc)
      simp [putT, List.getElem?_set, this]
  · rfl
theorem effH_other {h : Heap} {m : Nat} {f : Eff} (hm : m < h.length) (n : Nat) (hn : n ≠ m) (hs : ∀ k x, f = .set k x → n ≠ k) : (effH h m f)[n]? = h[n]? := by
  cases f with
  | no => rfl
  | alloc o => simp only [effH]; rw [if_pos hm, List.getElem?_set]; simp [Ne.symm hn]
  | set k o => simp only [effH]; rw [List.getElem?_set]; simp [Ne.symm (hs k o rfl)]
theorem effH_length {h : Heap} {m : Nat} {f : Eff} (hm : m < h.length) : (effH h m f).length = h.length := by
  cases f with
  | no => rfl
  | alloc o => simp only [effH]; rw [if_pos hm]; simp
  | set n o => simp [effH]
/-- Two operations that may come in either order. -/
structure Free (x y : Oper) (i j : Nat) : Prop where
  ne : i ≠ j
  ap : x.apart ops y = true
  bi : (bf.getD j 0).testBit i = false
  bj : (bf.getD i 0).testBit j = false
  st : isStore x.op = true ∨ isStore y.op = true → ∀ k, mask.testBit k = true → (bf.getD i 0).testBit k = true → (bf.getD j 0).testBit k = true → False
/-- What one of the two writes the other does not look at. -/
theorem Good.away {i j : Nat} {x y : Oper} (F : Free ops bf mask x y i j) {n : Nat} {o : Ob} (hf : Good base bf mask own i (.set n o)) (sf : isStore x.op = true) : n ≠ base + j ∧ cond (n < base) (okOld bf own j n) ((bf.getD j 0).testBit (n - base)) = false := by
  simp only [Good] at hf
  by_cases hn : n < base
  · rw [if_pos hn] at hf
    refine ⟨by omega, ?_⟩
    simp only [hn, decide_true, Bool.cond_true]
    cases h : okOld bf own j n with
    | false => rfl
    | true =>
      have := List.all_eq_true.1 h _ hf.1
      simp only [bne_self_eq_false, Bool.false_or, Bool.or_eq_true, beq_iff_eq, F.bi, F.bj, Bool.false_eq_true, or_false] at this
      exact (F.ne this).elim
  · rw [if_neg hn] at hf
    refine ⟨fun e => ?_, ?_⟩
    · have := hf.2
      rw [show n - base = j by omega, F.bj] at this; cases this
    · simp only [hn, decide_false, Bool.cond_false]
      cases h : (bf.getD j 0).testBit (n - base) with
      | false => rfl
      | true => exact (F.st (.inl sf) _ hf.1 hf.2 h).elim
theorem Free.symm {x y : Oper} {i j : Nat} (F : Free ops bf mask x y i j) (hxy : y.apart ops x = true) : Free ops bf mask y x j i := ⟨F.ne.symm, hxy, F.bj, F.bi, fun h k a b c => F.st h.symm k a c b⟩
theorem apart_symm {x y : Oper} (h : x.apart ops y = true) : y.apart ops x = true := by
  obtain ⟨a1, a2, a3⟩ := Oper.apart_spec h
  unfold Oper.apart
  cases hx : x.dst with
  | none =>
    cases hy : y.dst with
    | none => simp
    | some e => simpa using a3 e hy
  | some d =>
    cases hy : y.dst with
    | none => simpa using a1 d hx
    | some e =>
      have h1 := a1 d hx
      have h2 := a2 d hx
      have h3 := a3 e hy
      rw [hy] at h2
      simp at h2
      simp [h1, h3]
      exact fun q => h2 q.symm
theorem effH_comm {h : Heap} {i j : Nat} {x y : Oper} (F : Free ops bf mask x y i j) {f g : Eff} (hf : Good base bf mask own i f) (hg : Good base bf mask own j g) (sf : ∀ n o, f = .set n o → isStore x.op = true) (sg : ∀ n o, g = .set n o → isStore y.op = true)
    (hi : base + i < h.length) (hj : base + j < h.length) : effH (effH h (base + i) f) (base + j) g = effH (effH h (base + j) g) (base + i) f := by
  have e : ∀ {h : Heap} {m : Nat} (o : Ob), m < h.length → effH h m (.alloc o) = h.set m (some o) := fun {h m} o hm => by simp only [effH]; rw [if_pos hm]
  have s : ∀ {h : Heap} {m n : Nat} (o : Ob), effH h m (.set n o) = h.set n (some o) := fun {h m n} o => rfl
  have hne := F.ne
  have F' := F.symm ops bf mask (apart_symm ops F.ap)
  cases f with
  | no => rfl
  | alloc o =>
    cases g with
    | no => rfl
    | alloc o' => rw [e o hi, e o' hj, e o' (by simpa using hj), e o (by simpa using hi), List.set_comm _ _ (by omega)]
    | set n o' =>
      rw [e o hi, s, s, e o (by simpa using hi), List.set_comm]
      intro hn
      exact (Good.away ops base bf mask own F' hg (sg _ _ rfl)).1 hn.symm
  | set n o =>
    have w1 := Good.away ops base bf mask own F hf (sf _ _ rfl)
    cases g with
    | no => rfl
    | alloc o' =>
      rw [s, e o' (by simpa using hj), e o' hj, s, List.set_comm]
      exact w1.1
    | set m o' =>
      rw [s, s, s, s, List.set_comm]
      intro hn
      subst hn
      have w2 := w1.2
      simp only [Good] at hg
      by_cases hb : n < base
      · rw [if_pos hb] at hg
        simp only [hb, decide_true, Bool.cond_true] at w2
        rw [hg.2] at w2; cases w2
      · rw [if_neg hb] at hg
        simp only [hb, decide_false, Bool.cond_false] at w2
        rw [hg.2] at w2; cases w2
theorem rdDrawn_eff {h : Heap} {i j : Nat} {x y : Oper} (F : Free ops bf mask x y i j) {f : Eff} (hf : Good base bf mask own i f) (sf : ∀ n o, f = .set n o → isStore x.op = true) (hi : base + i < h.length) :
    rdDrawn base bf own j (effH h (base + i) f) = rdDrawn base bf own j h := by
  funext n
  simp only [rdDrawn]
  split
  · rename_i hc
    rw [effH_other hi n (fun hn => ?_) (fun k o hk hn => ?_)]
    · subst hn
      simp only [show ¬ base + i < base by omega, decide_false, Bool.cond_false, show base + i - base = i by omega, F.bi] at hc
      cases hc
    · subst hk; subst hn
      rw [(Good.away ops base bf mask own F hf (sf _ _ rfl)).2] at hc; cases hc
  · rfl
theorem putT_comm (t : List (Option AV)) {x y : Option Tmp} (v u : AV) (h : ∀ d, x = some d → y ≠ some d) : putT (putT t x v) y u = putT (putT t y u) x v := by
  cases x with
  | none => rfl
  | some d =>
    cases y with
    | none => rfl
    | some e =>
      have : d ≠ e := fun he => h d rfl (by rw [he])
      simp [putT, List.set_comm _ _ this]
theorem swapD {i j : Nat} {oi oj : Oper} (hi : ops[i]? = some oi) (hj : ops[j]? = some oj) (F : Free ops bf mask oi oj i j) {st : St} (li : base + i < st.h.length) (lj : base + j < st.h.length) {K : St → Prop}
    (h : stepD P T ops base bf mask own i (fun s => stepD P T ops base bf mask own j K s) st) : stepD P T ops base bf mask own j (fun s => stepD P T ops base bf mask own i K s) st := by
  obtain ⟨a1, a2, a3⟩ := Oper.apart_spec F.ap
  have F' := F.symm ops bf mask (apart_symm ops F.ap)
  rcases stepD_cases P T ops base bf mask own hi st with hno | ⟨v, f, hf, sf, hs⟩
  · exact (hno _ h).elim
  · rw [(hs _).1] at h
    rcases stepD_cases P T ops base bf mask own hj st with hno | ⟨u, g, hg, sg, ht⟩
    · have e1 := tmOf_put (st := st) (v := v) (h' := effH st.h (base + i) f) a1
      have e2 := rdDrawn_eff ops base bf mask own F hf sf li
      exfalso
      refine hno K ?_
      rcases stepD_cases P T ops base bf mask own hj ⟨putT st.t oi.dst v, effH st.h (base + i) f⟩ with hno2 | ⟨u, g, hg, sg, ht⟩
      · exact (hno2 _ h).elim
      · rcases Classical.em (stepD P T ops base bf mask own j (fun _ => True) st) with hT | hT
        · exact (hno _ hT).elim
        · exact (hT (((ht (fun _ => True)).2 st e1.symm e2.symm).2 trivial)).elim
    · rw [(ht _).2 ⟨putT st.t oi.dst v, effH st.h (base + i) f⟩ (tmOf_put a1) (rdDrawn_eff ops base bf mask own F hf sf li)] at h
      rw [(ht _).1, (hs _).2 ⟨putT st.t oj.dst u, effH st.h (base + j) g⟩ (tmOf_put a3) (rdDrawn_eff ops base bf mask own F' hg sg lj)]
      simp only at h ⊢
      rw [putT_comm st.t v u a2, effH_comm ops base bf mask own F hf hg sf sg li lj] at h
      exact h
theorem stepD_mono {i : Nat} {o : Oper} (ho : ops[i]? = some o) {st : St} {K K' : St → Prop}
    (hK : ∀ v f, Good base bf mask own i f → K ⟨putT st.t o.dst v, effH st.h (base + i) f⟩ → K' ⟨putT st.t o.dst v, effH st.h (base + i) f⟩) (h : stepD P T ops base bf mask own i K st) : stepD P T ops base bf mask own i K' st := by
  rcases stepD_cases P T ops base bf mask own ho st with hno | ⟨v, f, hf, _, hs⟩
  · exact (hno _ h).elim
  · rw [(hs _).1] at h ⊢
    exact hK v f hf h
abbrev opsD (l : List Nat) (st : St) (K : St → Prop) : Prop := opsA PA P T (okDrawn base mask own) (lkOf ops) ops (rdDrawn base bf own) (fun i _ => base + i) (noInl PA) l st K
structure DOk : Prop where
  on : ∀ (i : Nat) (o : Oper), ops[i]? = some o → ∀ e ∈ o.after.toList, Region.binds .any e = true → e.on < i
  up : ∀ (i j : Nat), i < ops.size → j < i → (bf.getD j 0).testBit i = false
  clo : ∀ (i : Nat) (o : Oper) (j : Nat), ops[i]? = some o → j < i → (bf.getD i 0).testBit j = true → ∃ e ∈ o.after.toList, Region.binds .any e = true ∧ (e.on = j ∨ (bf.getD e.on 0).testBit j = true)
  apart : ∀ (i j : Nat) (oi oj : Oper), ops[i]? = some oi → ops[j]? = some oj → j < i → (bf.getD i 0).testBit j = false → Free ops bf mask oj oi j i
variable {P T ops base bf mask own}
theorem drawnOk_spec (h : drawnOk ops.toList bf mask = true) : DOk ops bf mask := by
  unfold drawnOk at h
  simp only [List.all_eq_true] at h
  have h2 := h
  have hop : ∀ {i : Nat} {o : Oper}, ops[i]? = some o → i < ops.size ∧ ops.toList[i]? = some o ∧ o ∈ ops.toList := fun {i o} hi => by
    refine ⟨?_, by simpa using hi, ?_⟩
    · rcases Nat.lt_or_ge i ops.size with q | q
      · exact q
      · simp [Array.getElem?_eq_none q] at hi
    · exact List.mem_of_getElem? (i := i) (by simpa using hi)
  have hget : ∀ {i : Nat} {o : Oper}, ops[i]? = some o → (∀ e ∈ o.after.toList, Region.binds .any e = true → e.on < i) ∧ ∀ j, j < i → ∀ x, ops[j]? = some x → (bf.getD j 0).testBit i = false ∧
      (if (bf.getD i 0).testBit j = true then (o.after.toList.any fun e => Region.binds .any e && (e.on == j || (bf.getD e.on 0).testBit j)) = true else x.apart ops o = true ∧ (isStore x.op = true ∨ isStore o.op = true → bf.getD i 0 &&& bf.getD j 0 &&& mask = 0)) := fun {i o} hi => by
    obtain ⟨a1, a2, a3⟩ := hop hi
    have := h2 i (by rw [upTo_mem]; simp; omega)
    simp only [a2, Bool.and_eq_true, List.all_eq_true] at this
    refine ⟨fun e he hb => ?_, fun j hj x hx => ?_⟩
    · have := this.1 e he
      simpa [hb] using this
    · have := this.2 j (by rw [upTo_mem]; omega)
      simp only [(hop hx).2.1, Bool.and_eq_true, Bool.not_eq_true'] at this
      refine ⟨this.1, ?_⟩
      have h3 := this.2
      split
      · rename_i hb; rw [if_pos hb] at h3; exact h3
      · rename_i hb
        rw [if_neg hb] at h3
        simp only [Bool.and_eq_true, Bool.or_eq_true, Bool.not_eq_true', Bool.or_eq_false_iff, beq_iff_eq] at h3
        refine ⟨by simpa using h3.1, fun hst => ?_⟩
        rcases h3.2 with q | q
        · rcases hst with r | r
          · rw [q.1] at r; cases r
          · rw [q.2] at r; cases r
        · exact q
  refine ⟨fun i o hi => (hget hi).1, fun i j hi hj => ?_, fun i o j hi hj hb => ?_, fun i j oi oj hi hj hlt hb => ?_⟩
  · exact ((hget (Array.getElem?_eq_getElem hi)).2 j hj _ (Array.getElem?_eq_getElem (by omega))).1
  · have hlt := (hop hi).1
    have := ((hget hi).2 j hj _ (Array.getElem?_eq_getElem (by omega))).2
    rw [if_pos hb] at this
    simp only [List.any_eq_true, Bool.and_eq_true, Bool.or_eq_true, beq_iff_eq] at this
    exact this
  · have := ((hget hi).2 j hlt _ hj).2
    rw [if_neg (by rw [hb]; exact Bool.false_ne_true)] at this
    refine ⟨by omega, this.1, hb, ?_, fun hst k m1 m2 m3 => ?_⟩
    · exact ((hget hi).2 j hlt _ hj).1
    · have hz := this.2 hst
      have : (bf.getD i 0 &&& bf.getD j 0 &&& mask).testBit k = true := by simp [Nat.testBit_and, m1]; exact ⟨by simpa using m3, by simpa using m2⟩
      rw [hz] at this; simp at this
theorem bubble (hD : DOk ops bf mask) {i : Nat} {K : St → Prop} : ∀ (l : List Nat) (st : St), l.Pairwise (· < ·) → i ∈ l → (∀ j ∈ l, j < ops.size) → (∀ j ∈ l, j < i → (bf.getD i 0).testBit j = false) → st.h.length = base + ops.size →
    opsD P T ops base bf mask own l st K → stepD P T ops base bf mask own i (fun s => opsD P T ops base bf mask own (l.erase i) s K) st
  | [], st, _, hm, _, _, _, _ => by cases hm
  | j :: r, st, hp, hm, hl, hb, hlen, h => by
    by_cases hji : j = i
    · subst hji; simpa [opsD, opsA] using h
    · have hir : i ∈ r := by rcases List.mem_cons.1 hm with e | e; exact (hji e.symm).elim; exact e
      have hlt : j < i := (List.pairwise_cons.1 hp).1 i hir
      have hj := hl j (by simp)
      have hi := hl i hm
      have oj : ops[j]? = some ops[j] := Array.getElem?_eq_getElem hj
      have oi : ops[i]? = some ops[i] := Array.getElem?_eq_getElem hi
      have herase : (j :: r).erase i = j :: r.erase i := by rw [List.erase_cons]; simp [hji]
      rw [herase]
      have bji := hb j (by simp) hlt
      refine swapD P T ops base bf mask own oj oi (hD.apart i j _ _ oi oj hlt bji) (by omega) (by omega) ?_
      refine stepD_mono P T ops base bf mask own oj (fun v f hf hk => ?_) h
      exact bubble hD r _ (List.pairwise_cons.1 hp).2 hir (fun k hk => hl k (by simp [hk])) (fun k hk => hb k (by simp [hk])) (by show (effH st.h (base + j) f).length = _; rw [effH_length (by omega)]; exact hlen) hk
theorem drawn_ok (hT : TabOk P T) (hD : DOk ops bf mask) {Q : Exit → Act → World → Prop} {K : St → Prop} : ∀ (n : Nat) (todo : List Nat) {ρ : Names} {st : St} {a : Act} {w : World} {listed : Array Bool}, todo.length = n → todo.Pairwise (· < ·) → (∀ j ∈ todo, j < ops.size) →
    listed.size = ops.size → (∀ i, i < ops.size → (listed.getD i true = false ↔ i ∈ todo)) → (∀ i, i < ops.size → i ∉ todo → ∀ m, (bf.getD i 0).testBit m = true → m ∉ todo) →
    RelS ρ W st a w → (∀ i ∈ todo, st.h[base + i]? = some none) → st.h.length = base + ops.size → opsD P T ops base bf mask own todo st K → (∀ ρ' st' a' w', Ext ρ ρ' → RelS ρ' W st' a' w' → K st' → Q .normal a' w') →
    wpAny P .any ops Q n listed a w := by
  have nready : ∀ {todo : List Nat} {listed : Array Bool}, listed.size = ops.size → (∀ i, i < ops.size → (listed.getD i true = false ↔ i ∈ todo)) → ∀ i, i ∈ Region.ready .any ops listed → i < ops.size ∧ i ∈ todo ∧ ∃ o, ops[i]? = some o ∧ ∀ e ∈ o.after, Region.binds .any e = true → e.on < ops.size ∧ e.on ∉ todo := by
    intro todo listed hsz hlist i hi
    obtain ⟨h1, o, h2, h3⟩ := mem_ready.1 hi
    have hlt : i < ops.size := by rcases Nat.lt_or_ge i ops.size with q | q; exact q; simp [Array.getElem?_eq_none q] at h2
    refine ⟨hlt, (hlist i hlt).1 h1, o, h2, fun e he hb => ?_⟩
    have h4 := h3 e he hb
    have hel : e.on < ops.size := by
      rcases Nat.lt_or_ge e.on listed.size with q | q
      · omega
      · simp [Array.getElem?_eq_none q] at h4
    refine ⟨hel, fun hm => ?_⟩
    have := (hlist _ hel).2 hm
    have hel' : e.on < listed.size := by omega
    simp [hel'] at h4 this
    rw [h4] at this; cases this
  intro n
  induction n with
  | zero =>
    intro todo ρ st a w listed hn hp hl hsz hlist hdc hs hres hlen h hK
    have : todo = [] := by cases todo; rfl; simp at hn
    subst this
    refine ⟨?_, hK ρ st a w (Ext.refl ρ) hs h⟩
    cases hr : Region.ready .any ops listed with
    | nil => rfl
    | cons x xs => have := (nready hsz hlist x (by rw [hr]; simp)).2.1; cases this
  | succ n ih =>
    intro todo ρ st a w listed hn hp hl hsz hlist hdc hs hres hlen h hK
    refine ⟨fun hr => ?_, fun i hi => ?_⟩
    · -- the least that is still to come may come
      cases todo with
      | nil => simp at hn
      | cons j r =>
        exfalso
        have hj := hl j (by simp)
        have : j ∈ Region.ready .any ops listed := by
          refine mem_ready.2 ⟨(hlist j hj).2 (by simp), ops[j], Array.getElem?_eq_getElem hj, fun e he hb => ?_⟩
          have h1 := hD.on j _ (Array.getElem?_eq_getElem hj) e (by simpa using he) hb
          have h2 : e.on ∉ j :: r := fun hm => by
            rcases List.mem_cons.1 hm with q | q
            · omega
            · have := (List.pairwise_cons.1 hp).1 _ q; omega
          have h3 : ¬ listed.getD e.on true = false := fun q => h2 ((hlist _ (by omega)).1 q)
          have hel' : e.on < listed.size := by omega
          simp [hel'] at h3 ⊢
          exact h3
        rw [hr] at this; cases this
    · obtain ⟨hlt, hm, o, ho, hon⟩ := nready hsz hlist i hi
      have hbf : ∀ m, (bf.getD i 0).testBit m = true → m ∉ todo.erase i := fun m hb hmem => by
        have hmt := List.mem_of_mem_erase hmem
        have hms := hl m hmt
        rcases Nat.lt_trichotomy m i with q | q | q
        · obtain ⟨e, he, hbe, hor⟩ := hD.clo i o m ho q hb
          obtain ⟨g1, g2⟩ := hon e (by simpa using he) hbe
          rcases hor with hor | hor
          · exact g2 (hor ▸ hmt)
          · exact hdc _ g1 g2 m hor hmt
        · subst q
          have hnd : todo.Nodup := hp.imp fun h => Nat.ne_of_lt h
          exact (List.Nodup.not_mem_erase hnd) hmem
        · rw [hD.up m i hms q] at hb; cases hb
      have hnot : ∀ j ∈ todo, j < i → (bf.getD i 0).testBit j = false := fun j hj hji => by
        cases hb : (bf.getD i 0).testBit j with
        | false => rfl
        | true => exact (hbf j hb ((List.mem_erase_of_ne (by omega)).2 hj)).elim
      have hstep := bubble (P := P) (T := T) (base := base) hD todo st hp hm hl hnot hlen h
      have hstep2 := stepD_mono P T ops base bf mask own ho (K' := fun s => (s.h.length = base + ops.size ∧ ∀ k ∈ todo.erase i, s.h[base + k]? = some none) ∧ opsD P T ops base bf mask own (todo.erase i) s K) (fun v f hf hk => ⟨⟨by
          show (effH st.h (base + i) f).length = _; rw [effH_length (by omega)]; exact hlen, fun k hk2 => by
          show (effH st.h (base + i) f)[base + k]? = _
          have hne : k ≠ i := fun e => by subst e; exact (List.Nodup.not_mem_erase (hp.imp fun h => Nat.ne_of_lt h)) hk2
          rw [effH_other (by omega) _ (by omega) (fun m x hx hn => by subst hx; simp only [Good] at hf; rw [if_neg (by omega)] at hf; have g3 := hf.2; rw [← hn, show base + k - base = k by omega] at g3; exact hbf k g3 hk2)]; exact hres k (List.mem_of_mem_erase hk2)⟩, hk⟩) hstep
      refine step_ok hT (lkOf_ok ops) (rdDrawn_ok base bf own) (noInl_ok P) hs (fun _ => .inr (hres i hm)) hstep2 fun ρ' st' a' w' he hs' hk => ?_
      obtain ⟨⟨k1, k2⟩, k3⟩ := hk
      have hnd : todo.Nodup := hp.imp fun h => Nat.ne_of_lt h
      refine ih (todo.erase i) (by rw [List.length_erase_of_mem hm]; omega) (hp.sublist List.erase_sublist) (fun j hj => hl j (List.mem_of_mem_erase hj)) (by simpa using hsz) (fun j hj => ?_) (fun j hj hnj m hb => ?_) hs' k2 k1 k3 fun ρ2 st2 a2 w2 he2 => hK ρ2 st2 a2 w2 (he.trans he2)
      · by_cases hji : j = i
        · subst hji
          have hjl : j < listed.size := by omega
          simp [hjl]
          exact List.Nodup.not_mem_erase hnd
        · rw [getD_set_ne true (Ne.symm hji), hlist j hj, List.mem_erase_of_ne hji]
      · by_cases hji : j = i
        · subst hji; exact hbf m hb
        · have hnj2 : j ∉ todo := fun q => hnj ((List.mem_erase_of_ne hji).2 q)
          exact fun q => hdc j hj hnj2 m hb (List.mem_of_mem_erase q)
end drawn
theorem upTo_pairwise : ∀ (n a : Nat), (upTo a n).Pairwise (· < ·)
  | 0, _ => .nil
  | n + 1, a => List.pairwise_cons.2 ⟨fun b hb => by rw [upTo_mem] at hb; omega, upTo_pairwise n (a + 1)⟩
theorem upTo_range (n : Nat) : upTo 0 n = List.range n := by
  apply List.ext_getElem?
  intro k
  rw [upTo_get]
  split
  · rename_i h; simp [h]
  · rename_i h; simp; omega
theorem regionA_ok (hm : P.follows .mixedOrders = true) (hT : TabOk P T) {inl : Inl Prop} (hI : InlOk P inl) {Q : Exit → Act → World → Prop} {K : St → Prop} {st : St} {a : Act} {id : Nat} {draw : Bool} (hs : RelS ρ W st a w)
    (h : regionA PA P T inl ops draw st K) (hK : ∀ ρ' st' a' w', Ext ρ ρ' → RelS ρ' W st' a' w' → K st' → Q .normal a' w') : (Code.region id ops draw).wp P Q a w := by
  unfold regionA at h
  cases draw with
  | false =>
    simp only [Bool.false_eq_true, if_false, upTo_range] at h
    exact wp_region (opsA_ok hT hI _ hs h hK)
  | true =>
    simp only [if_true] at h
    split at h
    · rename_i hok
      refine wp_region_any hm ?_
      have hs' : RelS ρ W ⟨st.t, st.h ++ List.replicate ops.size none⟩ a { w with drawn := w.drawn + 1 } := ⟨hs.t, (hs.h.room ops.size).drew, hs.d⟩
      refine drawn_ok hT (drawnOk_spec hok) ops.size (upTo 0 ops.size) (upTo_length _ _) (upTo_pairwise _ _) (fun j hj => by rw [upTo_mem] at hj; omega) (by simp) (fun i hi => ?_) (fun i hi hn => ?_) hs' (fun i hi => ?_) (by simp) h hK
      · simp [hi, upTo_mem]
      · exact (hn (by rw [upTo_mem]; omega)).elim
      · rw [upTo_mem] at hi
        rw [List.getElem?_append_right (by simp), List.getElem?_replicate]
        simp; omega
    · exact no_elim h
end Go.Proofs.Ytkongoedgngfhaa.A
namespace Go.Proofs.Ytkongoedgngfhaa.A
open Go Go.RowKit
set_option linter.unusedVariables false
set_option linter.unusedSimpArgs false
variable {P : Program} {ρ : Names} {W w : World} {T : Tab}
def Ex.is : Ex → Exit → Prop
  | .normal, .normal => True
  | .exit i, .exit j => i = j
  | .ret, .ret => True
  | _, _ => False
/-- What holds behind a piece of code, in the model. -/
def Post (ρ : Names) (W : World) (Q : Ex → St → Prop) : Exit → Act → World → Prop := fun e a w => ∃ e' st' ρ', e'.is e ∧ Ext ρ ρ' ∧ RelS ρ' W st' a w ∧ Q e' st'
theorem Post.ext {ρ' : Names} {Q : Ex → St → Prop} {e : Exit} {a : Act} (he : Ext ρ ρ') (h : Post ρ' W Q e a w) : Post ρ W Q e a w :=
  let ⟨e', st', ρ2, h1, h2, h3, h4⟩ := h; ⟨e', st', ρ2, h1, he.trans h2, h3, h4⟩
/-- A reckoning of code holds in the model. -/
def RecOk (P : Program) (rec : Code → St → (Ex → St → Prop) → Prop) : Prop :=
  ∀ (c : Code) (st : St) (Q : Ex → St → Prop) (ρ : Names) (W w : World) (a : Act), rec c st Q → RelS ρ W st a w → c.wp P (Post ρ W Q) a w
/-- A loop's rounds hold in the model, from its head. -/
def LoopsOk (P : Program) (lp : Code → St → (Ex → St → Prop) → Prop) : Prop :=
  ∀ (c : Code) (st : St) (Q : Ex → St → Prop) (ρ : Names) (W w : World) (a : Act), lp c st Q → RelS ρ W st a w → ∀ (b : Frame) (k : List Item) (cs : List Frame),
    ∃ e a' w', Post ρ W Q e a' w' ∧ Arrives P (lone (b.at a (.code c :: .inLoop c :: k)) cs w) b k cs e a' w'
/-- A loop's contract holds. -/
def LcOk (P : Program) (b : Code) (lc : St → (Ex → St → Prop) → Prop) : Prop := ∀ (st : St) (Q : Ex → St → Prop) (ρ : Names) (W w : World) (a : Act), lc st Q → RelS ρ W st a w → (Code.loop b).wp P (Post ρ W Q) a w
theorem codeA_ok (hm : P.follows .mixedOrders = true) (hT : TabOk P T) {LT : LTab Prop} {lp : Code → St → (Ex → St → Prop) → Prop} (hr : LoopsOk P lp) {inl : Inl Prop} (hI : InlOk P inl) :
    ∀ (c : Code), (∀ b ∈ Code.loops c, ∀ lc, LT (Code.first b) = some lc → LcOk P b lc) → ∀ (st : St) (Q : Ex → St → Prop) (ρ : Names) (W w : World) (a : Act), codeA PA P T LT lp inl c st Q → RelS ρ W st a w → c.wp P (Post ρ W Q) a w := by
  intro c
  induction c with
  | skip => intro hL st Q ρ W w a h hs; exact wp_skip ⟨.normal, st, ρ, trivial, Ext.refl ρ, hs, h⟩
  | label l => intro hL st Q ρ W w a h hs; exact wp_label ⟨.normal, st, ρ, trivial, Ext.refl ρ, hs, h⟩
  | seq x y ihx ihy =>
    intro hL st Q ρ W w a h hs
    refine wp_seq (wp_mono (ihx (fun b hb => hL b (by simp [Code.loops, hb])) _ _ ρ W w a h hs) fun e a' w' hp => ?_)
    obtain ⟨e', st', ρ', h1, h2, h3, h4⟩ := hp
    cases e' with
    | normal =>
      cases e <;> try exact h1.elim
      exact wp_mono (ihy (fun b hb => hL b (by simp [Code.loops, hb])) _ _ ρ' W w' a' h4 h3) fun e a w hp => hp.ext h2
    | exit i =>
      cases e <;> try exact h1.elim
      exact ⟨.exit i, st', ρ', h1, h2, h3, h4⟩
    | ret =>
      cases e <;> try exact h1.elim
      exact ⟨.ret, st', ρ', h1, h2, h3, h4⟩
  | cond c x y ihx ihy =>
    intro hL st Q ρ W w a h hs
    simp only [codeA] at h
    split at h
    · rename_i b hb
      have hv := hs.ev0 _ _ hb
      generalize hX : a.eval c = X at hv
      cases hv
      refine wp_cond_split hX (fun hb => ?_) (fun hb => ?_)
      · subst hb; rename_i hb
        have h' : fst (refC st c true) (fun st => codeA PA P T LT lp inl x st Q) := h
        rw [fst_eq, refC_eq hb] at h'
        exact ihx (fun b hb => hL b (by simp [Code.loops, hb])) _ _ ρ W w a h' hs
      · subst hb; rename_i hb
        have h' : fst (refC st c false) (fun st => codeA PA P T LT lp inl y st Q) := h
        rw [fst_eq, refC_eq hb] at h'
        exact ihy (fun b hb => hL b (by simp [Code.loops, hb])) _ _ ρ W w a h' hs
    · exact no_elim h
  | block id b ih =>
    intro hL st Q ρ W w a h hs
    refine wp_block (wp_mono (ih (fun b hb => hL b (by simpa [Code.loops] using hb)) _ _ ρ W w a h hs) fun e a' w' hp => ?_)
    obtain ⟨e', st', ρ', h1, h2, h3, h4⟩ := hp
    cases e' with
    | normal =>
      cases e <;> try exact h1.elim
      exact ⟨.normal, st', ρ', trivial, h2, h3, h4⟩
    | exit i =>
      cases e <;> try exact h1.elim
      rename_i j
      have h1' : i = j := h1
      subst h1'
      simp only [Exit.inBlock]
      simp only at h4
      by_cases hid : i = id
      · rw [if_pos hid] at h4 ⊢; exact ⟨.normal, st', ρ', trivial, h2, h3, h4⟩
      · rw [if_neg hid] at h4 ⊢; exact ⟨.exit i, st', ρ', rfl, h2, h3, h4⟩
    | ret =>
      cases e <;> try exact h1.elim
      exact ⟨.ret, st', ρ', h1, h2, h3, h4⟩
  | loop b ih =>
    intro hL st Q ρ W w a h hs
    simp only [codeA] at h
    split at h
    · rename_i lc hlc
      exact hL b (by simp [Code.loops]) lc hlc st Q ρ W w a h hs
    · intro bf k cs
      obtain ⟨e, a', w', h1, h2⟩ := hr b st Q ρ W w a h hs bf k cs
      exact ⟨e, a', w', h1, .of_steps (.one step_loop) h2⟩
  | exit id => intro hL st Q ρ W w a h hs; exact wp_exit ⟨.exit id, st, ρ, rfl, Ext.refl ρ, hs, h⟩
  | ret => intro hL st Q ρ W w a h hs; exact wp_ret ⟨.ret, st, ρ, trivial, Ext.refl ρ, hs, h⟩
  | region id ops draw =>
    intro hL st Q ρ W w a h hs
    exact regionA_ok hm hT hI hs h fun ρ' st' a' w' he hs' hq => ⟨.normal, st', ρ', trivial, he, hs', hq⟩
  | _ => intro hL st Q ρ W w a h hs; exact no_elim h
theorem codeA_ok0 (hm : P.follows .mixedOrders = true) (hT : TabOk P T) {lp : Code → St → (Ex → St → Prop) → Prop} (hr : LoopsOk P lp) {inl : Inl Prop} (hI : InlOk P inl) : RecOk P (codeA PA P T noLoops lp inl) :=
  fun c => codeA_ok hm hT hr hI c fun _ _ _ h => by cases h
theorem loopsA_ok (hm : P.follows .mixedOrders = true) (hT : TabOk P T) {lp : Code → St → (Ex → St → Prop) → Prop} (hr : LoopsOk P lp) {inl : Inl Prop} (hI : InlOk P inl) :
    LoopsOk P fun b st Q => codeA PA P T noLoops lp inl b st fun e st' => match e with | .normal => lp b st' Q | e => Q e st' := by
  intro b st Q ρ W w a h hs bf k cs
  obtain ⟨e, a1, w1, hp, harr⟩ := codeA_ok0 hm hT hr hI b _ _ ρ W w a h hs bf (.inLoop b :: k) cs
  obtain ⟨e', st', ρ', g1, g2, g3, g4⟩ := hp
  cases e' with
  | normal =>
    cases e <;> try exact g1.elim
    obtain ⟨e2, a2, w2, hp2, harr2⟩ := hr b st' Q ρ' W w1 a1 g4 g3 bf k cs
    exact ⟨e2, a2, w2, hp2.ext g2, .of_steps (Steps.trans harr (.one step_inLoop)) harr2⟩
  | exit i =>
    cases e <;> try exact g1.elim
    exact ⟨_, a1, w1, ⟨.exit i, st', ρ', g1, g2, g3, g4⟩, .pass (x := .inLoop b) rfl (fun _ _ => .inl (by simp)) harr⟩
  | ret =>
    cases e <;> try exact g1.elim
    exact ⟨_, a1, w1, ⟨.ret, st', ρ', g1, g2, g3, g4⟩, .pass (x := .inLoop b) rfl (fun _ _ => .inl (by simp)) harr⟩
theorem entry_ok {fn : Func} {args : List AV} {A : List Value} (h : RL ρ W args A) : TR ρ W (entryT fn args) (A.toArray ++ Array.replicate (fn.ntmps - A.toArray.size) undef) := by
  have hl := h.length
  refine ⟨by simp [entryT, hl], fun i v hv => ?_⟩
  simp only [entryT] at hv
  rw [List.getElem?_append] at hv
  split at hv
  · simp only [List.getElem?_map, Option.map_eq_some_iff] at hv
    obtain ⟨u, h1, h2⟩ := hv
    simp at h2; subst h2
    obtain ⟨V, g1, g2⟩ := h.get i u h1
    refine ⟨V, ?_, g2⟩
    rw [Array.getElem?_append_left (by rename_i hlt; simp at hlt; simp; omega)]
    simpa using g1
  · simp [List.getElem?_replicate] at hv
def resSem (tmps : Array Value) : ResultVar → Sem Value
  | .tmp t => pure (tmps.getD t undef)
  | .cell a t => do loadVar t (← asAddr (tmps.getD a undef))
theorem results_eq (fn : Func) (tmps : Array Value) : results fn tmps = (do let vs ← fn.results.mapM (resSem tmps); pure (if h : vs.size = 1 then vs[0] else .tuple vs)) := by
  unfold results
  congr 1
theorem res_ok {st : St} {a : Act} (hs : RelS ρ W st a w) : ∀ (l : List ResultVar) (r : List AV), resA P st l = some r → ∃ R, (l.mapM (resSem a.tmps)).run P w = .ok R w ∧ RL ρ W r R
  | [], r, hq => by simp [resA] at hq; subst hq; exact ⟨[], by simp, .nil⟩
  | .tmp t :: l, r, hq => by
    simp only [resA] at hq
    split at hq
    · rename_i v vs h1 h2
      simp at hq; subst hq
      obtain ⟨R, g1, g2⟩ := res_ok hs l vs h2
      have hv := hs.ev0 (.tmp t) v h1
      exact ⟨_ :: R, by simp [List.mapM_cons, g1, resSem, Act.eval], .cons hv g2⟩
    · cases hq
  | .cell c t :: l, r, hq => by
    simp only [resA] at hq
    split at hq
    · rename_i m i s j vs h1 h2
      split at hq
      · rename_i v hl
        simp at hq; subst hq
        obtain ⟨R, g1, g2⟩ := res_ok hs l vs h2
        have hv := hs.ev0 (.tmp c) _ h1
        obtain ⟨V, g3, g4⟩ := loadA_ok (P := P) hs.h (rdFlat_ok st.h) hv hl
        refine ⟨V :: R, ?_, .cons g4 g2⟩
        generalize hC : a.eval (.tmp c) = C at hv
        cases hv with | ptr i s j hp =>
        simp only [Act.eval] at hC
        simp only [Instr.loadAt, Instr.sureAddr, Sem.run_bind, Sem.run_pure, Result.andThen_ok, hC, Act.eval] at g3
        simp [List.mapM_cons, resSem, g1, hC, asAddr, g3]
      · cases hq
    · cases hq
theorem resV_ok {r : List AV} {R : List Value} (h : RL ρ W r R) : RV ρ W (resV r) (if hh : R.toArray.size = 1 then R.toArray[0] else .tuple R.toArray) := by
  cases h with
  | nil => simp; exact .tup .nil
  | cons h t =>
    cases t with
    | nil => simpa [resV] using h
    | cons h2 t2 => simp [resV]; exact .tup (.cons h (.cons h2 t2))
theorem body_ok {LT : LTab Prop} {lp : Code → St → (Ex → St → Prop) → Prop} {inl : Inl Prop} {g : FuncId} {fn : Func} (hf : P.funcs[g]? = some fn)
    (hc : ∀ c, fn.body = some c → ∀ (st : St) (Q : Ex → St → Prop) (ρ : Names) (W w : World) (a : Act), codeA PA P T LT lp inl c st Q → RelS ρ W st a w → c.wp P (Post ρ W Q) a w)
    {args : List AV} {A : List Value} {h : Heap} {K : AV → Heap → Prop} (hA : RL ρ W args A) (hR : Rel ρ W h w) (hq : bodyA PA P T LT lp inl fn args h K) :
    Calls P g A.toArray w fun e w' => ∃ V, e = .returned V ∧ ∃ ρ' v h', Ext ρ ρ' ∧ RV ρ' W v V ∧ Rel ρ' W h' w' ∧ K v h' := by
  unfold bodyA at hq
  split at hq
  case h_2 => exact no_elim hq
  rename_i c hb
  rw [fl_eq, fst_eq] at hq
  refine calls_of_wp hf hb (wp_mono (hc c hb _ _ ρ W w _ hq ⟨entry_ok hA, hR, rfl⟩) fun e a' w' hp => ?_)
  obtain ⟨e', st', ρ', g1, g2, g3, g4⟩ := hp
  have fin : (match resA P st' fn.results.toList with | some l => fl PA l fun l => K (resV l) st'.h | none => False) → (a'.defers = [] ∧ ∃ v, (results fn a'.tmps).run P w' = .ok v w' ∧ ∃ V, Ending.returned v = .returned V ∧ ∃ ρ2 v2 h', Ext ρ ρ2 ∧ RV ρ2 W v2 V ∧ Rel ρ2 W h' w' ∧ K v2 h') := fun hk => by
    split at hk
    · rename_i l hl
      rw [fl_eq] at hk
      obtain ⟨R, r1, r2⟩ := res_ok (P := P) g3 _ _ hl
      refine ⟨g3.d, _, ?_, _, rfl, ρ', _, st'.h, g2, resV_ok r2, g3.h, hk⟩
      rw [results_eq, Sem.run_bind, Array.mapM_eq_mapM_toList, Sem.run_map, r1]
      rfl
    · exact no_elim hk
  cases e' with
  | normal =>
    cases e <;> try exact g1.elim
    exact fin g4
  | ret =>
    cases e <;> try exact g1.elim
    exact fin g4
  | exit i => exact no_elim g4
theorem callFunc_enter {g : FuncId} {fn : Func} (hf : P.funcs[g]? = some fn) (hb : fn.body.isSome = true) (hn : (fn.name == "runtime.NumGoroutine") = false) (A : Array Value) (w : World) : (callFunc g A).run P w = .ok (.enter g A) w := by
  have h1 : fn.name ≠ "runtime.NumGoroutine" := by simpa using hn
  have h2 : fn.body ≠ none := by cases h : fn.body <;> simp_all
  simp [callFunc, hf, h1, h2]
theorem bodyA_some {LT : LTab Prop} {rec : Code → St → (Ex → St → Prop) → Prop} {inl : Inl Prop} {fn : Func} {args : List AV} {h : Heap} {K : AV → Heap → Prop} (hq : bodyA PA P T LT rec inl fn args h K) : fn.body.isSome = true := by
  unfold bodyA at hq
  split at hq
  · rename_i hb; simp [hb]
  · exact no_elim hq
theorem all_ok (hm : P.follows .mixedOrders = true) (hT : TabOk P T) : ∀ n, LoopsOk P (alp PA P T n) ∧ InlOk P (ainl PA P T n)
  | 0 => ⟨fun _ _ _ _ _ _ _ h => no_elim h, fun _ _ _ _ _ _ h => no_elim h⟩
  | n + 1 => by
    obtain ⟨h1, h2⟩ := all_ok hm hT n
    refine ⟨loopsA_ok hm hT h1 h2, ?_⟩
    intro o c hc e h Kx hq ρ W w a hR he K Q hK
    simp only [ainl] at hq
    split at hq
    case h_2 => exact no_elim hq
    rename_i g args hta
    split at hq
    case h_2 => exact no_elim hq
    rename_i fn hf
    split at hq
    case isTrue => exact no_elim hq
    rename_i hn
    obtain ⟨A, hA, hrun⟩ := target_ok (P := P) he hta o.type
    have hcalls := body_ok hf (fun c _ => codeA_ok0 hm hT h1 h2 c) hA hR hq
    refine wp_gives (R := fun V w' => ∃ ρ' v h', Ext ρ ρ' ∧ RV ρ' W v V ∧ Rel ρ' W h' w' ∧ Kx v h') (.inl ⟨callFunc_enter hf (bodyA_some hq) (by simpa using hn) _ _, hcalls.mono fun e w' he => ?_⟩) (by simp only [execOp, hc]; exact hrun w) fun V w' hVw => ?_
    · exact he
    · obtain ⟨ρ', v, h', g1, g2, g3, g4⟩ := hVw
      exact hK ρ' V w' v h' g1 g2 g3 g4
/-- The contracts of a function's loops. -/
def LtOk (P : Program) (g : FuncId) (LT : LTab Prop) : Prop := ∀ fn c, P.funcs[g]? = some fn → fn.body = some c → ∀ b ∈ Code.loops c, ∀ lc, LT (Code.first b) = some lc → LcOk P b lc
theorem ltOk_none (P : Program) (g : FuncId) : LtOk P g noLoops := fun _ _ _ _ _ _ _ h => by cases h
/-- **A function's contract**: what its body comes to from an empty heap of its own. -/
theorem afn_ok (hm : P.follows .mixedOrders = true) (hT : TabOk P T) {n : Nat} {g : FuncId} {LT : LTab Prop} (hLT : LtOk P g LT) {args : List AV} {K : AV → Heap → Prop} (hq : afn PA P T LT n g args K) {A : List Value} {w : World} (hA : RL noNames w args A) :
    Calls P g A.toArray w fun e w' => ∃ V, e = .returned V ∧ ∃ ρ' v h', RV ρ' w v V ∧ Rel ρ' w h' w' ∧ K v h' := by
  unfold afn at hq
  split at hq
  case h_2 => exact no_elim hq
  rename_i fn hf
  obtain ⟨h1, h2⟩ := all_ok (P := P) (T := T) hm hT n
  refine (body_ok hf (fun c hc => codeA_ok hm hT h1 h2 c (hLT fn c hf hc)) hA (Rel.start w) hq).mono fun e w' he => ?_
  obtain ⟨V, g1, ρ', v, h', g2, g3, g4, g5⟩ := he
  exact ⟨V, g1, ρ', v, h', g3, g4, g5⟩
end Go.Proofs.Ytkongoedgngfhaa.A
namespace Go.Proofs.Ytkongoedgngfhaa.A
open Go Go.RowKit
set_option linter.unusedVariables false
set_option linter.unusedSimpArgs false
variable {ρ : Names} {W w : World}
theorem rl_nil {L : List Value} : RL ρ W [] L ↔ L = [] := ⟨fun h => by cases h; rfl, fun h => by subst h; exact .nil⟩
theorem rl_cons {v : AV} {l : List AV} {L : List Value} : RL ρ W (v :: l) L ↔ ∃ V L', L = V :: L' ∧ RV ρ W v V ∧ RL ρ W l L' :=
  ⟨fun h => by cases h with | cons h t => exact ⟨_, _, rfl, h, t⟩, fun ⟨_, _, e, h, t⟩ => by subst e; exact .cons h t⟩
theorem rv_int {k : IntKind} {n : Int} {V : Value} : RV ρ W (.int k n) V ↔ V = .int k n := ⟨fun h => by cases h; rfl, fun h => by subst h; exact .int _ _⟩
theorem rv_bool {b : Bool} {V : Value} : RV ρ W (.bool b) V ↔ V = .bool b := ⟨fun h => by cases h; rfl, fun h => by subst h; exact .bool _⟩
theorem rv_str {s : ByteArray} {V : Value} : RV ρ W (.str s) V ↔ V = .string s := ⟨fun h => by cases h; rfl, fun h => by subst h; exact .str _⟩
theorem rv_agg {l : List AV} {V : Value} : RV ρ W (.agg l) V ↔ ∃ L, V = .agg L.toArray ∧ RL ρ W l L := ⟨fun h => by cases h with | agg h => exact ⟨_, rfl, h⟩, fun ⟨_, e, h⟩ => by subst e; exact .agg h⟩
theorem rv_tup {l : List AV} {V : Value} : RV ρ W (.tup l) V ↔ ∃ L, V = .tuple L.toArray ∧ RL ρ W l L := ⟨fun h => by cases h with | tup h => exact ⟨_, rfl, h⟩, fun ⟨_, e, h⟩ => by subst e; exact .tup h⟩
theorem rv_fn {f : Fn} {V : Value} : RV ρ W (.fn f [] []) V ↔ V = .func f #[] #[] := ⟨fun h => by cases h with | fn f ha hb => cases ha; cases hb; rfl, fun h => by subst h; exact .fn f .nil .nil⟩
theorem brc_iff {b : Bool} {A B : Prop} : brc b A B ↔ (b = true → A) ∧ (b = false → B) := by cases b <;> simp [brc]
theorem ite_some_iff {α : Type} {c : Prop} [Decidable c] {a b : Option α} {r : α} : (if c then a else b) = some r ↔ (c ∧ a = some r) ∨ (¬ c ∧ b = some r) := by split <;> simp_all
noncomputable def gd {α : Type} [Inhabited α] (o : Option α) : α := o.getD default
theorem gd_some {α : Type} [Inhabited α] (a : α) : gd (some a) = a := rfl
theorem wrap_i64 (x : Int) : IntKind.i64.wrap x = wrap64 x := by rw [IntKind.wrap_i64]; unfold wrap64; rfl
theorem mixed : Try.prog.follows .mixedOrders = true := by kernel_rfl
/-- Contracts, by a list. -/
def tab : List (FuncId × Con) → Tab
  | [], _ => none
  | (g, c) :: r, f => if f = g then some c else tab r f
theorem tab_nil {P : Program} : TabOk P (tab []) := fun _ _ h => by cases h
theorem tab_cons {P : Program} {g : FuncId} {c : Con} {r : List (FuncId × Con)} (h : COk P g c) (t : TabOk P (tab r)) : TabOk P (tab ((g, c) :: r)) := fun f con hq => by
  simp only [tab] at hq
  split at hq
  · rename_i e; subst e; simp at hq; subst hq; exact h
  · exact t f con hq
/-- A printed function's proof as a contract's at one place. -/
theorem gives_of_calls {g : FuncId} {fn : Func} (hf : Try.prog.funcs[g]? = some fn) (hb : fn.body.isSome = true) (hn : (fn.name == "runtime.NumGoroutine") = false) {A : List Value} {v : AV} {V : Value} {R : World → World → Prop}
    (h : Calls Try.prog g A.toArray w fun e w' => e = .returned V ∧ R w w') (hV : ∀ w', RV noNames w' v V) (hR : ∀ w', R w w' → Below w.heap.size w w') : Gives Try.prog g A.toArray w fun V w' => RV noNames w' v V ∧ Below w.heap.size w w' :=
  .inl ⟨callFunc_enter hf hb hn _ _, h.mono fun e w' he => ⟨V, he.1, hV w', hR w' he.2⟩⟩
theorem gives_of_run {g : FuncId} {A : List Value} {v : AV} {V : Value} (h : (callFunc g A.toArray).run Try.prog w = .ok (.value V) w) (hV : ∀ w', RV noNames w' v V) : Gives Try.prog g A.toArray w fun V w' => RV noNames w' v V ∧ Below w.heap.size w w' :=
  .inr ⟨V, h, hV w, Below.refl _ _⟩
theorem calls_of_vc {T : Tab} (hT : TabOk Try.prog T) {n : Nat} {g : FuncId} {args : List AV} {v : AV} {V : Value} {A : List Value} (hq : afv PA Try.prog T noLoops n g args fun u => u = v) (hA : RL noNames w args A) (hV : ∀ ρ V', RV ρ w v V' → V' = V) :
    Calls Try.prog g A.toArray w fun e w' => e = .returned V ∧ Below w.heap.size w w' :=
  (afn_ok mixed hT (ltOk_none _ _) hq hA).mono fun e w' ⟨V', e1, ρ', u, h', g2, g3, g4⟩ => by subst g4; subst e1; exact ⟨by rw [hV ρ' V' g2], g3.bel⟩
end Go.Proofs.Ytkongoedgngfhaa.A
namespace Go.Proofs.Ytkongoedgngfhaa.P
open Go.RowKit Go.Proofs.YtkongoedgngfhaaW.PrintWords Go.Proofs.YtkongoedgngfhaaW.PrintLast Go.Proofs.YtkongoedgngfhaaW.PrintMore
attribute [local go_sem] max2_int min2_int max_two min_two max_three min_three max_four min_four   -- for this text's walks alone
set_option linter.unusedVariables false
set_option linter.unusedSimpArgs false
def errW : Option Int → Value
  | none => .nilIface
  | some c => .iface 0 (.int .i64 c)
theorem errW_none : errW none = .nilIface := rfl
theorem errW_some (c : Int) : errW (some c) = .iface 0 (.int .i64 c) := rfl
theorem setCell_drewN_ (w : World) (n : Nat) (a : Addr) (v : Value) : (w.drewN n).setCell a v = (w.setCell a v).drewN n := rfl
theorem info5 : (Try.prog.info? 5).map (fun i => (i.zero, i.size, i.bytes)) = some (some (.int .u8 0), 1, 1) := by kernel_rfl
theorem info52 : (Try.prog.info? 52).map (fun i => (i.zero, i.size, i.bytes)) = some (some (.int .u64 0), 1, 8) := by kernel_rfl
-- the values' own types
end Go.Proofs.Ytkongoedgngfhaa.P
namespace Go.Proofs.Ytkongoedgngfhaa.P
open Go.RowKit Go.Proofs.YtkongoedgngfhaaW.PrintWords Go.Proofs.YtkongoedgngfhaaW.PrintLast Go.Proofs.YtkongoedgngfhaaW.PrintMore
attribute [local go_sem] max2_int min2_int max_two min_two max_three min_three max_four min_four   -- for this text's walks alone
set_option linter.unusedVariables false
set_option linter.unusedSimpArgs false
theorem eqA23 (d : Nat) (w : World) (x0 y0 : Int) (x1 y1 : Int) :
    (Op.equalIn (d + 2) 23 (.agg #[.int .i64 x0, .int .i64 x1]) (.agg #[.int .i64 y0, .int .i64 y1])).run Try.prog w = .ok (x0 == y0 && (x1 == y1)) w := by
  refine eqA_of Try.underlying23 (by kernel_rfl) ?_
  refine eqf_cons (by rfl) (by go_simp; rfl) (by go_simp; rfl) (by go_simp) ?_
  exact eqf_last (by rfl) (by go_simp; rfl) (by go_simp; rfl) (by go_simp)
end Go.Proofs.Ytkongoedgngfhaa.P
namespace Go.Proofs.Ytkongoedgngfhaa.P
open Go.RowKit Go.Proofs.YtkongoedgngfhaaW.PrintWords Go.Proofs.YtkongoedgngfhaaW.PrintLast Go.Proofs.YtkongoedgngfhaaW.PrintMore
open Go.Proofs.Ytkongoedgngfhaa.A
attribute [local go_sem] max2_int min2_int max_two min_two max_three min_three max_four min_four   -- for this text's walks alone
set_option linter.unusedVariables false
set_option linter.unusedSimpArgs false
def dec_Right.f (a0_0 : Int) (a0_1 : Int) : Option (Bool) := if a0_1 ≥ 0 then (some (decide (a0_1 ≤ 9))) else (some false)
set_option maxRecDepth 100000 in
theorem dec_Right.vc (a0_0 : Int) (a0_1 : Int) (K : AV → Prop) : afv PA Try.prog (tab []) noLoops 2 31 [.agg [.int .i64 a0_0, .int .i64 a0_1]] K = (brc (decide (a0_1 ≥ 0)) (K (AV.bool (decide (a0_1 ≤ 9)))) (K (AV.bool false))) := by kernel_rfl
set_option maxHeartbeats 1000000 in
set_option maxRecDepth 100000 in
theorem dec_Right.calls (a0_0 : Int) (a0_1 : Int) (r : Bool) (w : World) (h : dec_Right.f a0_0 a0_1 = some r) :
    Calls Try.prog 31 #[.agg #[.int .i64 a0_0, .int .i64 a0_1]] w fun e w' => e = .returned (.bool r) ∧ Below w.heap.size w w' := by
  refine calls_of_vc (A := [.agg #[.int .i64 a0_0, .int .i64 a0_1]]) (v := .bool r) (tab_nil) ((dec_Right.vc a0_0 a0_1 _).mpr ?_) (by simp [rl_cons, rl_nil, rv_int, rv_bool, rv_str, rv_agg, rv_fn]) (fun ρ V' hV => by simpa [rl_cons, rl_nil, rv_int, rv_bool, rv_str, rv_agg, rv_tup] using hV)
  unfold dec_Right.f at h
  (try simp only [bne, Option.bind_eq_some_iff, ite_some_iff] at h)
  (try simp only [bne, brc_iff, wrap_i64])
  first
    | grind (splits := 60) [gd_some]
    | ((repeat' (first | (have or_ : Or _ _ := h; clear or_; rcases h with h | h) | (have or_ : Exists _ := h; clear or_; obtain ⟨_, h⟩ := h) | (have or_ : And _ _ := h; clear or_; obtain ⟨hq_, h⟩ := h))) <;> (try simp only [Option.some.injEq, Prod.mk.injEq, reduceCtorEq] at h) <;> (try subst_vars) <;> first | (simp_all [gd_some] <;> (try omega) <;> done) | grind (splits := 60) [gd_some])
    | (intros; subst_vars; simp_all [gd_some]; done)
noncomputable def dec_Right.con : Con
  | [.agg [.int .i64 a0_0, .int .i64 a0_1]] => some ((dec_Right.f a0_0 a0_1).isSome, .bool (gd (dec_Right.f a0_0 a0_1)))
  | _ => none
set_option maxRecDepth 100000 in
theorem dec_Right.cok : COk Try.prog 31 (dec_Right.con) := by
  intro args p v hc hp w A hA
  unfold dec_Right.con at hc
  split at hc
  · rename_i a0_0 a0_1
    simp only [Option.some.injEq, Prod.mk.injEq] at hc
    obtain ⟨rfl, rfl⟩ := hc
    rcases hf : dec_Right.f a0_0 a0_1 with _ | r
    · rw [hf] at hp; cases hp
    obtain rfl : A = [.agg #[.int .i64 a0_0, .int .i64 a0_1]] := by simpa [rl_cons, rl_nil, rv_int, rv_bool, rv_str, rv_agg, rv_fn] using hA
    exact gives_of_calls (fn := Try.f31) Try.func31 (by kernel_rfl) (by kernel_rfl) (dec_Right.calls _ _ _ w hf) (fun _ => by simp [gd_some, rl_cons, rl_nil, rv_int, rv_bool, rv_str, rv_agg, rv_tup]) (fun _ h => h)
  · cases hc
def dec_Text.f (a0_0 : Int) (a0_1 : Int) : Option (ByteArray) := if a0_0 = -5 ∧ a0_1 = 1 then some ⟨#[45, 48, 46, 53]⟩ else none
set_option maxHeartbeats 8000000 in
set_option maxRecDepth 100000 in
theorem dec_Text.calls (a0_0 : Int) (a0_1 : Int) (r : ByteArray) (w : World) (h : dec_Text.f a0_0 a0_1 = some r) :
    Calls Try.prog 9 #[.agg #[.int .i64 a0_0, .int .i64 a0_1]] w fun e w' => e = .returned (.string r) ∧ Below w.heap.size w w' := by
  have hu25 := Try.underlying25
  have HB := Aside0.mk (Below.refl w.heap.size w)
  obtain ⟨e0, e1, e2⟩ : a0_0 = -5 ∧ a0_1 = 1 ∧ r = ⟨#[45, 48, 46, 53]⟩ := by
    unfold dec_Text.f at h
    by_cases g : a0_0 = -5 ∧ a0_1 = 1
    · rw [if_pos g] at h
      exact ⟨g.1, g.2, (Option.some.inj h).symm⟩
    · rw [if_neg g] at h
      cases h
  subst e0 e1 e2
  clear h
  go_enter Try.func9, Try.ntmps9
  go_wp2_with (first | ((with_reducible refine gate_dst (N := 1) rfl ?_); refine box_event ?hg (N := 1) ?hd (cs := #[.int .i64 (-5), .int .i64 1]) (t := 25) ?hr ?_; (case hd => rfl); (case hg => rfl); (case hr => first | (go_simp; done) | (go_simp; rfl)); intro gb1 hg w4 hbox hb; have n0_ := Aside0.mk (kL (by repeat (first | (with_reducible first | exact HB.out | apply kF | apply kB | apply kG) | exact HB.out)) hb); have n1_ := Aside0.mk (hbox); have n2_ := Aside0.mk ((by rw [hg]; exact (kK (by repeat (first | (with_reducible first | exact HB.out | apply kF | apply kB | apply kG) | exact HB.out))) : w.heap.size ≤ gb1)); clear HB; have HB := n0_; have BK1 := n1_; have GE1 := n2_; clear n0_ n1_ n2_; clear hb hbox hg; have hcz1_0 : w4.cell? ⟨gb1, 0, none⟩ = some (.int .i64 (-5)) := (kH BK1.out 0).trans rfl; have hcz1_1 : w4.cell? ⟨gb1, 1, none⟩ = some (.int .i64 1) := (kH BK1.out 1).trans rfl; have hfz1_0 := kJ BK1.out 0; have hfz1_1 := kJ BK1.out 1) | (go_at_call 31; (with_reducible refine (dec_Right.calls (-5) 1 true _ rfl).mono ?_); rintro e w5 ⟨rfl, hb⟩; have n0_ := Aside0.mk (kL (by repeat (first | (with_reducible first | exact HB.out | apply kF | apply kB | apply kG) | exact HB.out)) hb); have n1_ := Aside0.mk (kI (g := gb1) (by (with_reducible repeat (first | refine kC ?_ _ | refine kE ?_ | refine kD ?_ _)); exact BK1.out) hb); clear HB BK1; have HB := n0_; have BK1 := n1_; clear n0_ n1_; clear hb; have hcz2_0 : w5.cell? ⟨gb1, 0, none⟩ = some (.int .i64 (-5)) := (kH BK1.out 0).trans rfl; have hcz2_1 : w5.cell? ⟨gb1, 1, none⟩ = some (.int .i64 1) := (kH BK1.out 1).trans rfl; have hfz2_0 := kJ BK1.out 0; have hfz2_1 := kJ BK1.out 1))
  have wn1 : IntKind.u64.wrap (-IntKind.u64.wrap (-5)) = 5 := by decide
  rw [wn1]
  obtain ⟨gb2, hg2⟩ : ∃ g, w5.heap.size = g := ⟨_, rfl⟩
  have GE2 : Aside0 (w.heap.size ≤ gb2) := ⟨by rw [← hg2]; exact kK HB.out⟩
  have NB : Aside0 (gb1 ≠ gb2) := ⟨by
    intro e
    have := Nat.ne_of_lt (kM BK1.out)
    omega⟩
  rw [hg2]
  go_loopg [3, 6, 7] 3 (fun q v3 v6 v7 wr => Aside0 (Below w.heap.size w wr) ∧ Aside0 (wr.heap[gb1]? = some (.cells #[.int .i64 (-5), .int .i64 1] 25 (0, 0))) ∧
    ((Aside0 (q = 3) ∧ v3 = .int .u64 5 ∧ v6 = .int .i64 32 ∧ v7 = .int .i64 0 ∧ Aside0 (wr.heap[gb2]? = some (.cells #[.int .u8 0, .int .u8 0, .int .u8 0, .int .u8 0, .int .u8 0, .int .u8 0, .int .u8 0, .int .u8 0, .int .u8 0, .int .u8 0, .int .u8 0, .int .u8 0, .int .u8 0, .int .u8 0, .int .u8 0, .int .u8 0, .int .u8 0, .int .u8 0, .int .u8 0, .int .u8 0, .int .u8 0, .int .u8 0, .int .u8 0, .int .u8 0, .int .u8 0, .int .u8 0, .int .u8 0, .int .u8 0, .int .u8 0, .int .u8 0, .int .u8 0, .int .u8 0] 53 (0, 0)))) ∨
     (Aside0 (q = 2) ∧ v3 = .int .u64 0 ∧ v6 = .int .i64 31 ∧ v7 = .int .i64 1 ∧ Aside0 (wr.heap[gb2]? = some (.cells #[.int .u8 0, .int .u8 0, .int .u8 0, .int .u8 0, .int .u8 0, .int .u8 0, .int .u8 0, .int .u8 0, .int .u8 0, .int .u8 0, .int .u8 0, .int .u8 0, .int .u8 0, .int .u8 0, .int .u8 0, .int .u8 0, .int .u8 0, .int .u8 0, .int .u8 0, .int .u8 0, .int .u8 0, .int .u8 0, .int .u8 0, .int .u8 0, .int .u8 0, .int .u8 0, .int .u8 0, .int .u8 0, .int .u8 0, .int .u8 0, .int .u8 0, .int .u8 53] 53 (0, 0)))) ∨
     (Aside0 (q = 1) ∧ v3 = .int .u64 0 ∧ v6 = .int .i64 29 ∧ v7 = .int .i64 2 ∧ Aside0 (wr.heap[gb2]? = some (.cells #[.int .u8 0, .int .u8 0, .int .u8 0, .int .u8 0, .int .u8 0, .int .u8 0, .int .u8 0, .int .u8 0, .int .u8 0, .int .u8 0, .int .u8 0, .int .u8 0, .int .u8 0, .int .u8 0, .int .u8 0, .int .u8 0, .int .u8 0, .int .u8 0, .int .u8 0, .int .u8 0, .int .u8 0, .int .u8 0, .int .u8 0, .int .u8 0, .int .u8 0, .int .u8 0, .int .u8 0, .int .u8 0, .int .u8 0, .int .u8 48, .int .u8 46, .int .u8 53] 53 (0, 0))))))
  case atStart =>
    refine ⟨⟨kF HB.out _⟩, ⟨kD BK1.out _⟩, .inl ⟨⟨rfl⟩, rfl, rfl, rfl, ⟨?_⟩⟩⟩
    rw [← hg2]
    exact blk_new w5 _
  case round =>
    obtain ⟨HB, BK1, h⟩ := hrel
    rcases h with ⟨hq, rfl, rfl, rfl, BK2⟩ | ⟨hq, rfl, rfl, rfl, BK2⟩ | ⟨hq, rfl, rfl, rfl, BK2⟩
    · have hcz3_0 : wr.cell? ⟨gb1, 0, none⟩ = some (.int .i64 (-5)) := (kH BK1.out 0).trans rfl
      have hcz3_1 : wr.cell? ⟨gb1, 1, none⟩ = some (.int .i64 1) := (kH BK1.out 1).trans rfl
      have hfz3_0 := kJ BK1.out 0
      have hfz3_1 := kJ BK1.out 1
      have hcz4_29 : wr.cell? ⟨gb2, 29, none⟩ = some (.int .u8 0) := (kH BK2.out 29).trans rfl
      have hfz4_29 := kJ BK2.out 29
      have hcz4_30 : wr.cell? ⟨gb2, 30, none⟩ = some (.int .u8 0) := (kH BK2.out 30).trans rfl
      have hfz4_30 := kJ BK2.out 30
      have hcz4_31 : wr.cell? ⟨gb2, 31, none⟩ = some (.int .u8 0) := (kH BK2.out 31).trans rfl
      have hfz4_31 := kJ BK2.out 31
      go_wp2
      go_roundg 2
      case measure => have := hq.out; omega
      case rel =>
        refine ⟨⟨by repeat (first | (with_reducible first | exact HB.out | apply kF | apply kB | apply kG | refine kA ?_ GE2.out) | exact HB.out)⟩, ⟨?_⟩, .inr (.inl ⟨⟨rfl⟩, rfl, rfl, rfl, ⟨?_⟩⟩)⟩
        · exact blk_far BK1.out NB.out _
        · exact blk_put (cs := #[.int .u8 0, .int .u8 0, .int .u8 0, .int .u8 0, .int .u8 0, .int .u8 0, .int .u8 0, .int .u8 0, .int .u8 0, .int .u8 0, .int .u8 0, .int .u8 0, .int .u8 0, .int .u8 0, .int .u8 0, .int .u8 0, .int .u8 0, .int .u8 0, .int .u8 0, .int .u8 0, .int .u8 0, .int .u8 0, .int .u8 0, .int .u8 0, .int .u8 0, .int .u8 0, .int .u8 0, .int .u8 0, .int .u8 0, .int .u8 0, .int .u8 0, .int .u8 0]) BK2.out 31 _ rfl
    · have hcz3_0 : wr.cell? ⟨gb1, 0, none⟩ = some (.int .i64 (-5)) := (kH BK1.out 0).trans rfl
      have hcz3_1 : wr.cell? ⟨gb1, 1, none⟩ = some (.int .i64 1) := (kH BK1.out 1).trans rfl
      have hfz3_0 := kJ BK1.out 0
      have hfz3_1 := kJ BK1.out 1
      have hcz4_29 : wr.cell? ⟨gb2, 29, none⟩ = some (.int .u8 0) := (kH BK2.out 29).trans rfl
      have hfz4_29 := kJ BK2.out 29
      have hcz4_30 : wr.cell? ⟨gb2, 30, none⟩ = some (.int .u8 0) := (kH BK2.out 30).trans rfl
      have hfz4_30 := kJ BK2.out 30
      have hcz4_31 : wr.cell? ⟨gb2, 31, none⟩ = some (.int .u8 53) := (kH BK2.out 31).trans rfl
      have hfz4_31 := kJ BK2.out 31
      go_wp2
      go_roundg 1
      case measure => have := hq.out; omega
      case rel =>
        refine ⟨⟨by repeat (first | (with_reducible first | exact HB.out | apply kF | apply kB | apply kG | refine kA ?_ GE2.out) | exact HB.out)⟩, ⟨?_⟩, .inr (.inr ⟨⟨rfl⟩, rfl, rfl, rfl, ⟨?_⟩⟩)⟩
        · exact blk_far (blk_far BK1.out NB.out _) NB.out _
        · exact blk_put (cs := #[.int .u8 0, .int .u8 0, .int .u8 0, .int .u8 0, .int .u8 0, .int .u8 0, .int .u8 0, .int .u8 0, .int .u8 0, .int .u8 0, .int .u8 0, .int .u8 0, .int .u8 0, .int .u8 0, .int .u8 0, .int .u8 0, .int .u8 0, .int .u8 0, .int .u8 0, .int .u8 0, .int .u8 0, .int .u8 0, .int .u8 0, .int .u8 0, .int .u8 0, .int .u8 0, .int .u8 0, .int .u8 0, .int .u8 0, .int .u8 0, .int .u8 46, .int .u8 53]) (blk_put (cs := #[.int .u8 0, .int .u8 0, .int .u8 0, .int .u8 0, .int .u8 0, .int .u8 0, .int .u8 0, .int .u8 0, .int .u8 0, .int .u8 0, .int .u8 0, .int .u8 0, .int .u8 0, .int .u8 0, .int .u8 0, .int .u8 0, .int .u8 0, .int .u8 0, .int .u8 0, .int .u8 0, .int .u8 0, .int .u8 0, .int .u8 0, .int .u8 0, .int .u8 0, .int .u8 0, .int .u8 0, .int .u8 0, .int .u8 0, .int .u8 0, .int .u8 0, .int .u8 53]) BK2.out 30 _ rfl) 29 _ rfl
    · have hcz3_0 : wr.cell? ⟨gb1, 0, none⟩ = some (.int .i64 (-5)) := (kH BK1.out 0).trans rfl
      have hcz3_1 : wr.cell? ⟨gb1, 1, none⟩ = some (.int .i64 1) := (kH BK1.out 1).trans rfl
      have hfz3_0 := kJ BK1.out 0
      have hfz3_1 := kJ BK1.out 1
      have hcz4_29 : wr.cell? ⟨gb2, 29, none⟩ = some (.int .u8 48) := (kH BK2.out 29).trans rfl
      have hfz4_29 := kJ BK2.out 29
      have hcz4_30 : wr.cell? ⟨gb2, 30, none⟩ = some (.int .u8 46) := (kH BK2.out 30).trans rfl
      have hfz4_30 := kJ BK2.out 30
      have hcz4_31 : wr.cell? ⟨gb2, 31, none⟩ = some (.int .u8 53) := (kH BK2.out 31).trans rfl
      have hfz4_31 := kJ BK2.out 31
      have hrd : ReadsInt wr .u8 (some ⟨gb2, 29, none⟩) 3 [48, 46, 53] := ⟨rfl, by simp, fun _ => ⟨_, rfl, fun j hj => by
        rcases (by omega : j = 0 ∨ j = 1 ∨ j = 2) with e | e | e <;> subst e
        · exact hcz4_29
        · exact hcz4_30
        · exact hcz4_31⟩⟩
      have hcv := string_of_reads (P := Try.prog) (src := 54) (dst := 9) (e := 5) (c := 3) (by kernel_rfl) (by kernel_rfl) (by kernel_rfl) hrd
      clear hrd
      go_wp2
      go_ret
      exact ⟨rfl, HB.out⟩
noncomputable def dec_Text.con : Con
  | [.agg [.int .i64 a0_0, .int .i64 a0_1]] => some ((dec_Text.f a0_0 a0_1).isSome, .str (gd (dec_Text.f a0_0 a0_1)))
  | _ => none
set_option maxRecDepth 100000 in
theorem dec_Text.cok : COk Try.prog 9 (dec_Text.con) := by
  intro args p v hc hp w A hA
  unfold dec_Text.con at hc
  split at hc
  · rename_i a0_0 a0_1
    simp only [Option.some.injEq, Prod.mk.injEq] at hc
    obtain ⟨rfl, rfl⟩ := hc
    rcases hf : dec_Text.f a0_0 a0_1 with _ | r
    · rw [hf] at hp; cases hp
    obtain rfl : A = [.agg #[.int .i64 a0_0, .int .i64 a0_1]] := by simpa [rl_cons, rl_nil, rv_int, rv_bool, rv_str, rv_agg, rv_fn] using hA
    exact gives_of_calls (fn := Try.f9) Try.func9 (by kernel_rfl) (by kernel_rfl) (dec_Text.calls _ _ _ w hf) (fun _ => by simp [gd_some, rl_cons, rl_nil, rv_int, rv_bool, rv_str, rv_agg, rv_tup]) (fun _ h => h)
  · cases hc
def computuslaw04_given.f (a0_0 : Int) (a0_1 : Int) : Option (Int × Int) := some (a0_0, a0_1)
set_option maxRecDepth 100000 in
theorem computuslaw04_given.vc (a0_0 : Int) (a0_1 : Int) (K : AV → Prop) : afv PA Try.prog (tab []) noLoops 2 10 [.agg [.int .i64 a0_0, .int .i64 a0_1]] K = (K (AV.agg [AV.int IntKind.i64 a0_0, AV.int IntKind.i64 a0_1])) := by kernel_rfl
set_option maxHeartbeats 1000000 in
set_option maxRecDepth 100000 in
theorem computuslaw04_given.calls (a0_0 : Int) (a0_1 : Int) (r1 : Int) (r2 : Int) (w : World) (h : computuslaw04_given.f a0_0 a0_1 = some (r1, r2)) :
    Calls Try.prog 10 #[.agg #[.int .i64 a0_0, .int .i64 a0_1]] w fun e w' => e = .returned (.agg #[.int .i64 r1, .int .i64 r2]) ∧ Below w.heap.size w w' := by
  refine calls_of_vc (A := [.agg #[.int .i64 a0_0, .int .i64 a0_1]]) (v := .agg [.int .i64 r1, .int .i64 r2]) (tab_nil) ((computuslaw04_given.vc a0_0 a0_1 _).mpr ?_) (by simp [rl_cons, rl_nil, rv_int, rv_bool, rv_str, rv_agg, rv_fn]) (fun ρ V' hV => by simpa [rl_cons, rl_nil, rv_int, rv_bool, rv_str, rv_agg, rv_tup] using hV)
  unfold computuslaw04_given.f at h
  (try simp only [bne, Option.bind_eq_some_iff, ite_some_iff] at h)
  (try simp only [bne, brc_iff, wrap_i64])
  first
    | grind (splits := 60) [gd_some]
    | ((repeat' (first | (have or_ : Or _ _ := h; clear or_; rcases h with h | h) | (have or_ : Exists _ := h; clear or_; obtain ⟨_, h⟩ := h) | (have or_ : And _ _ := h; clear or_; obtain ⟨hq_, h⟩ := h))) <;> (try simp only [Option.some.injEq, Prod.mk.injEq, reduceCtorEq] at h) <;> (try subst_vars) <;> first | (simp_all [gd_some] <;> (try omega) <;> done) | grind (splits := 60) [gd_some])
    | (intros; subst_vars; simp_all [gd_some]; done)
noncomputable def computuslaw04_given.con : Con
  | [.agg [.int .i64 a0_0, .int .i64 a0_1]] => some ((computuslaw04_given.f a0_0 a0_1).isSome, .agg [.int .i64 (gd (computuslaw04_given.f a0_0 a0_1)).1, .int .i64 (gd (computuslaw04_given.f a0_0 a0_1)).2])
  | _ => none
set_option maxRecDepth 100000 in
theorem computuslaw04_given.cok : COk Try.prog 10 (computuslaw04_given.con) := by
  intro args p v hc hp w A hA
  unfold computuslaw04_given.con at hc
  split at hc
  · rename_i a0_0 a0_1
    simp only [Option.some.injEq, Prod.mk.injEq] at hc
    obtain ⟨rfl, rfl⟩ := hc
    rcases hf : computuslaw04_given.f a0_0 a0_1 with _ | ⟨r1, r2⟩
    · rw [hf] at hp; cases hp
    obtain rfl : A = [.agg #[.int .i64 a0_0, .int .i64 a0_1]] := by simpa [rl_cons, rl_nil, rv_int, rv_bool, rv_str, rv_agg, rv_fn] using hA
    exact gives_of_calls (fn := Try.f10) Try.func10 (by kernel_rfl) (by kernel_rfl) (computuslaw04_given.calls _ _ _ _ w hf) (fun _ => by simp [gd_some, rl_cons, rl_nil, rv_int, rv_bool, rv_str, rv_agg, rv_tup]) (fun _ h => h)
  · cases hc
end Go.Proofs.Ytkongoedgngfhaa.P
namespace Go.Proofs.Ytkongoedgngfhaa.P
open Go.RowKit Go.Proofs.YtkongoedgngfhaaW.PrintWords Go.Proofs.YtkongoedgngfhaaW.PrintLast Go.Proofs.YtkongoedgngfhaaW.PrintMore
open Go.Proofs.Ytkongoedgngfhaa.A
attribute [local go_sem] max2_int min2_int max_two min_two max_three min_three max_four min_four   -- for this text's walks alone
set_option linter.unusedVariables false
set_option linter.unusedSimpArgs false
def computusref04_Right.f (a0_0 : Int) (a0_1 : Int) : Option (Bool) := if a0_1 ≥ 0 then (some (decide (a0_1 ≤ 9))) else (some false)
set_option maxRecDepth 100000 in
theorem computusref04_Right.vc (a0_0 : Int) (a0_1 : Int) (K : AV → Prop) : afv PA Try.prog (tab []) noLoops 2 15 [.agg [.int .i64 a0_0, .int .i64 a0_1]] K = (brc (decide (a0_1 ≥ 0)) (K (AV.bool (decide (a0_1 ≤ 9)))) (K (AV.bool false))) := by kernel_rfl
set_option maxHeartbeats 1000000 in
set_option maxRecDepth 100000 in
theorem computusref04_Right.calls (a0_0 : Int) (a0_1 : Int) (r : Bool) (w : World) (h : computusref04_Right.f a0_0 a0_1 = some r) :
    Calls Try.prog 15 #[.agg #[.int .i64 a0_0, .int .i64 a0_1]] w fun e w' => e = .returned (.bool r) ∧ Below w.heap.size w w' := by
  refine calls_of_vc (A := [.agg #[.int .i64 a0_0, .int .i64 a0_1]]) (v := .bool r) (tab_nil) ((computusref04_Right.vc a0_0 a0_1 _).mpr ?_) (by simp [rl_cons, rl_nil, rv_int, rv_bool, rv_str, rv_agg, rv_fn]) (fun ρ V' hV => by simpa [rl_cons, rl_nil, rv_int, rv_bool, rv_str, rv_agg, rv_tup] using hV)
  unfold computusref04_Right.f at h
  (try simp only [bne, Option.bind_eq_some_iff, ite_some_iff] at h)
  (try simp only [bne, brc_iff, wrap_i64])
  first
    | grind (splits := 60) [gd_some]
    | ((repeat' (first | (have or_ : Or _ _ := h; clear or_; rcases h with h | h) | (have or_ : Exists _ := h; clear or_; obtain ⟨_, h⟩ := h) | (have or_ : And _ _ := h; clear or_; obtain ⟨hq_, h⟩ := h))) <;> (try simp only [Option.some.injEq, Prod.mk.injEq, reduceCtorEq] at h) <;> (try subst_vars) <;> first | (simp_all [gd_some] <;> (try omega) <;> done) | grind (splits := 60) [gd_some])
    | (intros; subst_vars; simp_all [gd_some]; done)
noncomputable def computusref04_Right.con : Con
  | [.agg [.int .i64 a0_0, .int .i64 a0_1]] => some ((computusref04_Right.f a0_0 a0_1).isSome, .bool (gd (computusref04_Right.f a0_0 a0_1)))
  | _ => none
set_option maxRecDepth 100000 in
theorem computusref04_Right.cok : COk Try.prog 15 (computusref04_Right.con) := by
  intro args p v hc hp w A hA
  unfold computusref04_Right.con at hc
  split at hc
  · rename_i a0_0 a0_1
    simp only [Option.some.injEq, Prod.mk.injEq] at hc
    obtain ⟨rfl, rfl⟩ := hc
    rcases hf : computusref04_Right.f a0_0 a0_1 with _ | r
    · rw [hf] at hp; cases hp
    obtain rfl : A = [.agg #[.int .i64 a0_0, .int .i64 a0_1]] := by simpa [rl_cons, rl_nil, rv_int, rv_bool, rv_str, rv_agg, rv_fn] using hA
    exact gives_of_calls (fn := Try.f15) Try.func15 (by kernel_rfl) (by kernel_rfl) (computusref04_Right.calls _ _ _ w hf) (fun _ => by simp [gd_some, rl_cons, rl_nil, rv_int, rv_bool, rv_str, rv_agg, rv_tup]) (fun _ h => h)
  · cases hc
end Go.Proofs.Ytkongoedgngfhaa.P
namespace Go.Proofs.Ytkongoedgngfhaa.P
open Go.RowKit Go.Proofs.YtkongoedgngfhaaW.PrintWords Go.Proofs.YtkongoedgngfhaaW.PrintLast Go.Proofs.YtkongoedgngfhaaW.PrintMore
open Go.Proofs.Ytkongoedgngfhaa.A
attribute [local go_sem] max2_int min2_int max_two min_two max_three min_three max_four min_four   -- for this text's walks alone
set_option linter.unusedVariables false
set_option linter.unusedSimpArgs false
def computuslaw04_taken.f (a0_0 : Int) (a0_1 : Int) : Option (Int × Int) := some (a0_0, a0_1)
set_option maxRecDepth 100000 in
theorem computuslaw04_taken.vc (a0_0 : Int) (a0_1 : Int) (K : AV → Prop) : afv PA Try.prog (tab []) noLoops 2 14 [.agg [.int .i64 a0_0, .int .i64 a0_1]] K = (K (AV.agg [AV.int IntKind.i64 a0_0, AV.int IntKind.i64 a0_1])) := by kernel_rfl
set_option maxHeartbeats 1000000 in
set_option maxRecDepth 100000 in
theorem computuslaw04_taken.calls (a0_0 : Int) (a0_1 : Int) (r1 : Int) (r2 : Int) (w : World) (h : computuslaw04_taken.f a0_0 a0_1 = some (r1, r2)) :
    Calls Try.prog 14 #[.agg #[.int .i64 a0_0, .int .i64 a0_1]] w fun e w' => e = .returned (.agg #[.int .i64 r1, .int .i64 r2]) ∧ Below w.heap.size w w' := by
  refine calls_of_vc (A := [.agg #[.int .i64 a0_0, .int .i64 a0_1]]) (v := .agg [.int .i64 r1, .int .i64 r2]) (tab_nil) ((computuslaw04_taken.vc a0_0 a0_1 _).mpr ?_) (by simp [rl_cons, rl_nil, rv_int, rv_bool, rv_str, rv_agg, rv_fn]) (fun ρ V' hV => by simpa [rl_cons, rl_nil, rv_int, rv_bool, rv_str, rv_agg, rv_tup] using hV)
  unfold computuslaw04_taken.f at h
  (try simp only [bne, Option.bind_eq_some_iff, ite_some_iff] at h)
  (try simp only [bne, brc_iff, wrap_i64])
  first
    | grind (splits := 60) [gd_some]
    | ((repeat' (first | (have or_ : Or _ _ := h; clear or_; rcases h with h | h) | (have or_ : Exists _ := h; clear or_; obtain ⟨_, h⟩ := h) | (have or_ : And _ _ := h; clear or_; obtain ⟨hq_, h⟩ := h))) <;> (try simp only [Option.some.injEq, Prod.mk.injEq, reduceCtorEq] at h) <;> (try subst_vars) <;> first | (simp_all [gd_some] <;> (try omega) <;> done) | grind (splits := 60) [gd_some])
    | (intros; subst_vars; simp_all [gd_some]; done)
noncomputable def computuslaw04_taken.con : Con
  | [.agg [.int .i64 a0_0, .int .i64 a0_1]] => some ((computuslaw04_taken.f a0_0 a0_1).isSome, .agg [.int .i64 (gd (computuslaw04_taken.f a0_0 a0_1)).1, .int .i64 (gd (computuslaw04_taken.f a0_0 a0_1)).2])
  | _ => none
set_option maxRecDepth 100000 in
theorem computuslaw04_taken.cok : COk Try.prog 14 (computuslaw04_taken.con) := by
  intro args p v hc hp w A hA
  unfold computuslaw04_taken.con at hc
  split at hc
  · rename_i a0_0 a0_1
    simp only [Option.some.injEq, Prod.mk.injEq] at hc
    obtain ⟨rfl, rfl⟩ := hc
    rcases hf : computuslaw04_taken.f a0_0 a0_1 with _ | ⟨r1, r2⟩
    · rw [hf] at hp; cases hp
    obtain rfl : A = [.agg #[.int .i64 a0_0, .int .i64 a0_1]] := by simpa [rl_cons, rl_nil, rv_int, rv_bool, rv_str, rv_agg, rv_fn] using hA
    exact gives_of_calls (fn := Try.f14) Try.func14 (by kernel_rfl) (by kernel_rfl) (computuslaw04_taken.calls _ _ _ _ w hf) (fun _ => by simp [gd_some, rl_cons, rl_nil, rv_int, rv_bool, rv_str, rv_agg, rv_tup]) (fun _ h => h)
  · cases hc
def dec_ten.f (a0 : Int) : Option (Int) := if a0 = 0 then some 1 else if a0 = 1 then some 10 else if a0 = 2 then some 100 else if a0 = 3 then some 1000 else if a0 = 4 then some 10000 else if a0 = 5 then some 100000 else if a0 = 6 then some 1000000 else if a0 = 7 then some 10000000 else if a0 = 8 then some 100000000 else if a0 = 9 then some 1000000000 else none
set_option maxHeartbeats 8000000 in
set_option maxRecDepth 100000 in
theorem dec_ten.calls (a0 : Int) (r : Int) (w : World) (h : dec_ten.f a0 = some r) :
    Calls Try.prog 45 #[.int .i64 a0] w fun e w' => e = .returned (.int .i64 r) ∧ Below w.heap.size w w' := by
  have hd : a0 = 0 ∨ a0 = 1 ∨ a0 = 2 ∨ a0 = 3 ∨ a0 = 4 ∨ a0 = 5 ∨ a0 = 6 ∨ a0 = 7 ∨ a0 = 8 ∨ a0 = 9 := by
    rcases Int.lt_or_le a0 0 with g | g
    · exfalso
      unfold dec_ten.f at h
      repeat rw [if_neg (by omega)] at h
      cases h
    · rcases Int.lt_or_le a0 10 with g2 | g2
      · omega
      · exfalso
        unfold dec_ten.f at h
        repeat rw [if_neg (by omega)] at h
        cases h
  rcases hd with e | e | e | e | e | e | e | e | e | e <;> subst e <;> obtain rfl := Option.some.inj (show some _ = some r from h) <;> clear h
  all_goals
    go_enter Try.func45, Try.ntmps45
    go_wp2
    go_ret
    exact ⟨rfl, by repeat (first | exact Below.refl _ _ | exact (Below.refl _ _).alloc (Nat.le_refl _) _ | (apply kB) | (apply below_drew) | (apply Below.setCell _ (by simp)))⟩
noncomputable def dec_ten.con : Con
  | [.int .i64 a0] => some ((dec_ten.f a0).isSome, .int .i64 (gd (dec_ten.f a0)))
  | _ => none
set_option maxRecDepth 100000 in
theorem dec_ten.cok : COk Try.prog 45 (dec_ten.con) := by
  intro args p v hc hp w A hA
  unfold dec_ten.con at hc
  split at hc
  · rename_i a0
    simp only [Option.some.injEq, Prod.mk.injEq] at hc
    obtain ⟨rfl, rfl⟩ := hc
    rcases hf : dec_ten.f a0 with _ | r
    · rw [hf] at hp; cases hp
    obtain rfl : A = [.int .i64 a0] := by simpa [rl_cons, rl_nil, rv_int, rv_bool, rv_str, rv_agg, rv_fn] using hA
    exact gives_of_calls (fn := Try.f45) Try.func45 (by kernel_rfl) (by kernel_rfl) (dec_ten.calls _ _ w hf) (fun _ => by simp [gd_some, rl_cons, rl_nil, rv_int, rv_bool, rv_str, rv_agg, rv_tup]) (fun _ h => h)
  · cases hc
end Go.Proofs.Ytkongoedgngfhaa.P
namespace Go.Proofs.Ytkongoedgngfhaa.P
open Go.RowKit Go.Proofs.YtkongoedgngfhaaW.PrintWords Go.Proofs.YtkongoedgngfhaaW.PrintLast Go.Proofs.YtkongoedgngfhaaW.PrintMore
open Go.Proofs.Ytkongoedgngfhaa.A
attribute [local go_sem] max2_int min2_int max_two min_two max_three min_three max_four min_four   -- for this text's walks alone
set_option linter.unusedVariables false
set_option linter.unusedSimpArgs false
def num_signed.j0 : Nat → Bool → Bool → Int → Int → Option (Int × Int)
  | 0, _, _, _, _ => none
  | k + 1, x0, x10, x105000, x105001 => if x10 = true then (some (wrap64 (IntKind.u64.wrap (-x105001)), 0)) else (if x0 = true then (some (0, 10)) else (if x105001 > 9223372036854775807 then (some (0, 10)) else (some (wrap64 (x105001), 0))))
def num_signed.f (k : Nat) (a0 : Bool) (a1_0 : Int) (a1_1 : Int) : Option (Int × Int) := if a1_0 = 0 then (if a0 = true then (num_signed.j0 k a0 (decide (a1_1 ≤ 9223372036854775808)) a1_0 a1_1) else (num_signed.j0 k a0 false a1_0 a1_1)) else (some (0, 10))
theorem num_signed.mono_l : ∀ k, (∀ y0 y1 y2 y3, LeO (num_signed.j0 k y0 y1 y2 y3) (num_signed.j0 (k + 1) y0 y1 y2 y3))
  | 0 => fun _ _ _ _ r h => by simp [num_signed.j0] at h
  | k + 1 => by
    have ih0 := num_signed.mono_l k
    · intro y0 y1 y2 y3
      unfold num_signed.j0
      repeat' first
      | (with_reducible exact ih0 _ _ _ _)
      | (with_reducible exact LeO.refl _)
      | (with_reducible exact LeO.none _)
      | (with_reducible refine LeO.ite ?_ ?_)
      | (with_reducible refine LeO.bind ?_ (fun _ => ?_))
      | exact ih0 _ _ _ _
      | exact LeO.none _
      | refine LeO.ite ?_ ?_
      | refine LeO.bind ?_ (fun _ => ?_)
theorem num_signed.mono : ∀ a0 a1 a2 k, LeO (num_signed.f k a0 a1 a2) (num_signed.f (k + 1) a0 a1 a2) := by
  intro a0 a1 a2 k
  have ih0 := num_signed.mono_l k
  unfold num_signed.f
  repeat' first
      | (with_reducible exact ih0 _ _ _ _)
      | (with_reducible exact LeO.refl _)
      | (with_reducible exact LeO.none _)
      | (with_reducible refine LeO.ite ?_ ?_)
      | (with_reducible refine LeO.bind ?_ (fun _ => ?_))
      | exact ih0 _ _ _ _
      | exact LeO.none _
      | refine LeO.ite ?_ ?_
      | refine LeO.bind ?_ (fun _ => ?_)
set_option maxRecDepth 100000 in
theorem num_signed.vc (k : Nat) (a0 : Bool) (a1_0 : Int) (a1_1 : Int) (K : AV → Prop) : afv PA Try.prog (tab []) noLoops 2 53 [.bool a0, .agg [.int .u64 a1_0, .int .u64 a1_1]] K = (brc (a1_0 != 0) (K (AV.tup [AV.int IntKind.i64 0, AV.int IntKind.i64 10])) (brc a0 (brc (decide (a1_1 ≤ 9223372036854775808)) (K (AV.tup [AV.int IntKind.i64 (IntKind.wrap IntKind.i64 (IntKind.wrap IntKind.u64 (0 - a1_1))), AV.int IntKind.i64 0])) (brc a0 (K (AV.tup [AV.int IntKind.i64 0, AV.int IntKind.i64 10])) (brc (decide (a1_1 > 9223372036854775807)) (K (AV.tup [AV.int IntKind.i64 0, AV.int IntKind.i64 10])) (K (AV.tup [AV.int IntKind.i64 (IntKind.wrap IntKind.i64 a1_1), AV.int IntKind.i64 0]))))) (brc a0 (K (AV.tup [AV.int IntKind.i64 0, AV.int IntKind.i64 10])) (brc (decide (a1_1 > 9223372036854775807)) (K (AV.tup [AV.int IntKind.i64 0, AV.int IntKind.i64 10])) (K (AV.tup [AV.int IntKind.i64 (IntKind.wrap IntKind.i64 a1_1), AV.int IntKind.i64 0])))))) := by kernel_rfl
set_option maxHeartbeats 1000000 in
set_option maxRecDepth 100000 in
theorem num_signed.calls (k : Nat) (a0 : Bool) (a1_0 : Int) (a1_1 : Int) (r1 : Int) (r2 : Int) (w : World) (h : num_signed.f k a0 a1_0 a1_1 = some (r1, r2)) :
    Calls Try.prog 53 #[.bool a0, .agg #[.int .u64 a1_0, .int .u64 a1_1]] w fun e w' => e = .returned (.tuple #[.int .i64 r1, .int .i64 r2]) ∧ Below w.heap.size w w' := by
  refine calls_of_vc (A := [.bool a0, .agg #[.int .u64 a1_0, .int .u64 a1_1]]) (v := .tup [.int .i64 r1, .int .i64 r2]) (tab_nil) ((num_signed.vc k a0 a1_0 a1_1 _).mpr ?_) (by simp [rl_cons, rl_nil, rv_int, rv_bool, rv_str, rv_agg, rv_fn]) (fun ρ V' hV => by simpa [rl_cons, rl_nil, rv_int, rv_bool, rv_str, rv_agg, rv_tup] using hV)
  unfold num_signed.f at h
  cases k with
  | zero =>
    (try simp only [num_signed.j0] at h)
    (try simp only [bne, Option.bind_eq_some_iff, ite_some_iff] at h)
    (try simp only [bne, brc_iff, wrap_i64])
    first
      | grind (splits := 60) [gd_some]
      | ((repeat' (first | (have or_ : Or _ _ := h; clear or_; rcases h with h | h) | (have or_ : Exists _ := h; clear or_; obtain ⟨_, h⟩ := h) | (have or_ : And _ _ := h; clear or_; obtain ⟨hq_, h⟩ := h))) <;> (try simp only [Option.some.injEq, Prod.mk.injEq, reduceCtorEq] at h) <;> (try subst_vars) <;> first | (simp_all [gd_some] <;> (try omega) <;> rcases hb0 : decide (a1_1 ≤ 9223372036854775808) with _ | _ <;> rcases hb1 : decide (a1_1 > 9223372036854775807) with _ | _ <;> simp_all [gd_some] <;> done) | grind (splits := 60) [gd_some])
      | (intros; subst_vars; simp_all [gd_some]; done)
  | succ k =>
    (try simp only [num_signed.j0] at h)
    (try simp only [bne, Option.bind_eq_some_iff, ite_some_iff] at h)
    (try simp only [bne, brc_iff, wrap_i64])
    first
      | grind (splits := 60) [gd_some]
      | ((repeat' (first | (have or_ : Or _ _ := h; clear or_; rcases h with h | h) | (have or_ : Exists _ := h; clear or_; obtain ⟨_, h⟩ := h) | (have or_ : And _ _ := h; clear or_; obtain ⟨hq_, h⟩ := h))) <;> (try simp only [Option.some.injEq, Prod.mk.injEq, reduceCtorEq] at h) <;> (try subst_vars) <;> first | (simp_all [gd_some] <;> (try omega) <;> rcases hb0 : decide (a1_1 ≤ 9223372036854775808) with _ | _ <;> rcases hb1 : decide (a1_1 > 9223372036854775807) with _ | _ <;> simp_all [gd_some] <;> done) | grind (splits := 60) [gd_some])
      | (intros; subst_vars; simp_all [gd_some]; done)
noncomputable def num_signed.con (k : Nat) : Con
  | [.bool a0, .agg [.int .u64 a1_0, .int .u64 a1_1]] => some ((num_signed.f k a0 a1_0 a1_1).isSome, .tup [.int .i64 (gd (num_signed.f k a0 a1_0 a1_1)).1, .int .i64 (gd (num_signed.f k a0 a1_0 a1_1)).2])
  | _ => none
set_option maxRecDepth 100000 in
theorem num_signed.cok (k : Nat) : COk Try.prog 53 (num_signed.con k) := by
  intro args p v hc hp w A hA
  unfold num_signed.con at hc
  split at hc
  · rename_i a0 a1_0 a1_1
    simp only [Option.some.injEq, Prod.mk.injEq] at hc
    obtain ⟨rfl, rfl⟩ := hc
    rcases hf : num_signed.f k a0 a1_0 a1_1 with _ | ⟨r1, r2⟩
    · rw [hf] at hp; cases hp
    obtain rfl : A = [.bool a0, .agg #[.int .u64 a1_0, .int .u64 a1_1]] := by simpa [rl_cons, rl_nil, rv_int, rv_bool, rv_str, rv_agg, rv_fn] using hA
    exact gives_of_calls (fn := Try.f53) Try.func53 (by kernel_rfl) (by kernel_rfl) (num_signed.calls _ _ _ _ _ _ w hf) (fun _ => by simp [gd_some, rl_cons, rl_nil, rv_int, rv_bool, rv_str, rv_agg, rv_tup]) (fun _ h => h)
  · cases hc
def bits_Mul64.f (a0 : Int) (a1 : Int) : Option (Int × Int) := some (IntKind.u64.wrap ((IntKind.u64.wrap ((IntKind.u64.wrap ((a0 / 4294967296) * (a1 / 4294967296))) + ((IntKind.u64.wrap ((IntKind.u64.wrap ((a0 / 4294967296) * (Go.bits .and .u64 a1 4294967295))) + ((IntKind.u64.wrap ((Go.bits .and .u64 a0 4294967295) * (Go.bits .and .u64 a1 4294967295))) / 4294967296))) / 4294967296))) + ((IntKind.u64.wrap ((Go.bits .and .u64 (IntKind.u64.wrap ((IntKind.u64.wrap ((a0 / 4294967296) * (Go.bits .and .u64 a1 4294967295))) + ((IntKind.u64.wrap ((Go.bits .and .u64 a0 4294967295) * (Go.bits .and .u64 a1 4294967295))) / 4294967296))) 4294967295) + (IntKind.u64.wrap ((Go.bits .and .u64 a0 4294967295) * (a1 / 4294967296))))) / 4294967296)), IntKind.u64.wrap (a0 * a1))
set_option maxHeartbeats 8000000 in
set_option maxRecDepth 100000 in
theorem bits_Mul64.calls (a0 : Int) (a1 : Int) (r1 : Int) (r2 : Int) (w : World) (h : bits_Mul64.f a0 a1 = some (r1, r2)) :
    Calls Try.prog 64 #[.int .u64 a0, .int .u64 a1] w fun e w' => e = .returned (.tuple #[.int .u64 r1, .int .u64 r2]) ∧ Drawn0 w w' := by
  have H : (some (IntKind.u64.wrap ((IntKind.u64.wrap ((IntKind.u64.wrap ((a0 / 4294967296) * (a1 / 4294967296))) + ((IntKind.u64.wrap ((IntKind.u64.wrap ((a0 / 4294967296) * (Go.bits .and .u64 a1 4294967295))) + ((IntKind.u64.wrap ((Go.bits .and .u64 a0 4294967295) * (Go.bits .and .u64 a1 4294967295))) / 4294967296))) / 4294967296))) + ((IntKind.u64.wrap ((Go.bits .and .u64 (IntKind.u64.wrap ((IntKind.u64.wrap ((a0 / 4294967296) * (Go.bits .and .u64 a1 4294967295))) + ((IntKind.u64.wrap ((Go.bits .and .u64 a0 4294967295) * (Go.bits .and .u64 a1 4294967295))) / 4294967296))) 4294967295) + (IntKind.u64.wrap ((Go.bits .and .u64 a0 4294967295) * (a1 / 4294967296))))) / 4294967296)), IntKind.u64.wrap (a0 * a1))) = some (r1, r2) := h
  clear h
  simp only [Option.some.injEq, Prod.mk.injEq] at H
  obtain ⟨rfl, rfl⟩ := H
  go_enter Try.func64, Try.ntmps64
  go_wp2
  go_ret2
  exact ⟨by first | rfl | (simp; done) | (simp [*]; done), by repeat (first | exact Drawn0.refl _ | apply Drawn0.step)⟩
noncomputable def bits_Mul64.con : Con
  | [.int .u64 a0, .int .u64 a1] => some ((bits_Mul64.f a0 a1).isSome, .tup [.int .u64 (gd (bits_Mul64.f a0 a1)).1, .int .u64 (gd (bits_Mul64.f a0 a1)).2])
  | _ => none
set_option maxRecDepth 100000 in
theorem bits_Mul64.cok : COk Try.prog 64 (bits_Mul64.con) := by
  intro args p v hc hp w A hA
  unfold bits_Mul64.con at hc
  split at hc
  · rename_i a0 a1
    simp only [Option.some.injEq, Prod.mk.injEq] at hc
    obtain ⟨rfl, rfl⟩ := hc
    rcases hf : bits_Mul64.f a0 a1 with _ | ⟨r1, r2⟩
    · rw [hf] at hp; cases hp
    obtain rfl : A = [.int .u64 a0, .int .u64 a1] := by simpa [rl_cons, rl_nil, rv_int, rv_bool, rv_str, rv_agg, rv_fn] using hA
    exact gives_of_calls (fn := Try.f64) Try.func64 (by kernel_rfl) (by kernel_rfl) (bits_Mul64.calls _ _ _ _ w hf) (fun _ => by simp [gd_some, rl_cons, rl_nil, rv_int, rv_bool, rv_str, rv_agg, rv_tup]) (fun _ h => h.below)
  · cases hc
def num_size.f (a0 : Int) : Option (Int) := if a0 < 0 then (some (IntKind.u64.wrap (-(IntKind.u64.wrap (a0))))) else (some (IntKind.u64.wrap (a0)))
set_option maxHeartbeats 8000000 in
set_option maxRecDepth 100000 in
theorem num_size.calls (a0 : Int) (r : Int) (w : World) (h : num_size.f a0 = some r) :
    Calls Try.prog 65 #[.int .i64 a0] w fun e w' => e = .returned (.int .u64 r) ∧ Drawn0 w w' := by
  have H : (if a0 < 0 then (some (IntKind.u64.wrap (-(IntKind.u64.wrap (a0))))) else (some (IntKind.u64.wrap (a0)))) = some r := h
  clear h
  by_cases c2 : a0 < 0
  · rw [if_pos c2] at H
    have c2b0 : decide (a0 < 0) = true := decide_eq_true c2
    clear c2
    obtain rfl := Option.some.inj H
    go_enter Try.func65, Try.ntmps65
    go_wp2
    go_ret
    exact ⟨by first | rfl | (simp; done) | (simp [*]; done), by repeat (first | exact Drawn0.refl _ | apply Drawn0.step)⟩
  · rw [if_neg c2] at H
    have c2b0 : decide (a0 < 0) = false := decide_eq_false c2
    clear c2
    obtain rfl := Option.some.inj H
    go_enter Try.func65, Try.ntmps65
    go_wp2
    go_ret
    exact ⟨by first | rfl | (simp; done) | (simp [*]; done), by repeat (first | exact Drawn0.refl _ | apply Drawn0.step)⟩
noncomputable def num_size.con : Con
  | [.int .i64 a0] => some ((num_size.f a0).isSome, .int .u64 (gd (num_size.f a0)))
  | _ => none
set_option maxRecDepth 100000 in
theorem num_size.cok : COk Try.prog 65 (num_size.con) := by
  intro args p v hc hp w A hA
  unfold num_size.con at hc
  split at hc
  · rename_i a0
    simp only [Option.some.injEq, Prod.mk.injEq] at hc
    obtain ⟨rfl, rfl⟩ := hc
    rcases hf : num_size.f a0 with _ | r
    · rw [hf] at hp; cases hp
    obtain rfl : A = [.int .i64 a0] := by simpa [rl_cons, rl_nil, rv_int, rv_bool, rv_str, rv_agg, rv_fn] using hA
    exact gives_of_calls (fn := Try.f65) Try.func65 (by kernel_rfl) (by kernel_rfl) (num_size.calls _ _ w hf) (fun _ => by simp [gd_some, rl_cons, rl_nil, rv_int, rv_bool, rv_str, rv_agg, rv_tup]) (fun _ h => h.below)
  · cases hc
def num_product.f (a0 : Int) (a1 : Int) : Option (Int × Int) := (num_size.f a0).bind fun t106 => ((num_size.f a1).bind fun t107 => ((bits_Mul64.f t106 t107).bind fun bt108 => (some (bt108.1, bt108.2))))
set_option maxRecDepth 100000 in
theorem num_product.vc (a0 : Int) (a1 : Int) (K : AV → Prop) : afv PA Try.prog (tab [(64, bits_Mul64.con), (65, num_size.con)]) noLoops 2 54 [.int .i64 a0, .int .i64 a1] K = (brc (Option.isSome (num_size.f a0)) (∀ (m0 : Int), m0 = gd (num_size.f a0) → brc (Option.isSome (num_size.f a1)) (∀ (m1 : Int), m1 = gd (num_size.f a1) → brc (Option.isSome (bits_Mul64.f m0 m1)) (∀ (m2 : Int), m2 = Prod.fst (gd (bits_Mul64.f m0 m1)) → ∀ (m3 : Int), m3 = Prod.snd (gd (bits_Mul64.f m0 m1)) → K (AV.agg [AV.int IntKind.u64 m2, AV.int IntKind.u64 m3])) False) False) False) := by kernel_rfl
set_option maxHeartbeats 1000000 in
set_option maxRecDepth 100000 in
theorem num_product.calls (a0 : Int) (a1 : Int) (r1 : Int) (r2 : Int) (w : World) (h : num_product.f a0 a1 = some (r1, r2)) :
    Calls Try.prog 54 #[.int .i64 a0, .int .i64 a1] w fun e w' => e = .returned (.agg #[.int .u64 r1, .int .u64 r2]) ∧ Below w.heap.size w w' := by
  refine calls_of_vc (A := [.int .i64 a0, .int .i64 a1]) (v := .agg [.int .u64 r1, .int .u64 r2]) (tab_cons (bits_Mul64.cok) (tab_cons (num_size.cok) (tab_nil))) ((num_product.vc a0 a1 _).mpr ?_) (by simp [rl_cons, rl_nil, rv_int, rv_bool, rv_str, rv_agg, rv_fn]) (fun ρ V' hV => by simpa [rl_cons, rl_nil, rv_int, rv_bool, rv_str, rv_agg, rv_tup] using hV)
  unfold num_product.f at h
  (try simp only [bne, Option.bind_eq_some_iff, ite_some_iff] at h)
  (try simp only [bne, brc_iff, wrap_i64])
  first
    | grind (splits := 60) [gd_some]
    | ((repeat' (first | (have or_ : Or _ _ := h; clear or_; rcases h with h | h) | (have or_ : Exists _ := h; clear or_; obtain ⟨_, h⟩ := h) | (have or_ : And _ _ := h; clear or_; obtain ⟨hq_, h⟩ := h))) <;> (try simp only [Option.some.injEq, Prod.mk.injEq, reduceCtorEq] at h) <;> (try subst_vars) <;> first | (simp_all [gd_some] <;> (try omega) <;> done) | grind (splits := 60) [gd_some])
    | (intros; subst_vars; simp_all [gd_some]; done)
noncomputable def num_product.con : Con
  | [.int .i64 a0, .int .i64 a1] => some ((num_product.f a0 a1).isSome, .agg [.int .u64 (gd (num_product.f a0 a1)).1, .int .u64 (gd (num_product.f a0 a1)).2])
  | _ => none
set_option maxRecDepth 100000 in
theorem num_product.cok : COk Try.prog 54 (num_product.con) := by
  intro args p v hc hp w A hA
  unfold num_product.con at hc
  split at hc
  · rename_i a0 a1
    simp only [Option.some.injEq, Prod.mk.injEq] at hc
    obtain ⟨rfl, rfl⟩ := hc
    rcases hf : num_product.f a0 a1 with _ | ⟨r1, r2⟩
    · rw [hf] at hp; cases hp
    obtain rfl : A = [.int .i64 a0, .int .i64 a1] := by simpa [rl_cons, rl_nil, rv_int, rv_bool, rv_str, rv_agg, rv_fn] using hA
    exact gives_of_calls (fn := Try.f54) Try.func54 (by kernel_rfl) (by kernel_rfl) (num_product.calls _ _ _ _ w hf) (fun _ => by simp [gd_some, rl_cons, rl_nil, rv_int, rv_bool, rv_str, rv_agg, rv_tup]) (fun _ h => h)
  · cases hc
def num_Mul.f (k : Nat) (a0 : Int) (a1 : Int) : Option (Int × Int) := (num_product.f a0 a1).bind fun bt110 => ((num_signed.f k ((decide (a0 < 0)) != (decide (a1 < 0))) bt110.1 bt110.2).bind fun bt112 => (some (bt112.1, bt112.2)))
theorem num_Mul.mono : ∀ a0 a1 k, LeO (num_Mul.f k a0 a1) (num_Mul.f (k + 1) a0 a1) := by
  intro a0 a1 k
  unfold num_Mul.f
  repeat' first
      | (with_reducible exact num_signed.mono _ _ _ _)
      | (with_reducible exact LeO.refl _)
      | (with_reducible exact LeO.none _)
      | (with_reducible refine LeO.ite ?_ ?_)
      | (with_reducible refine LeO.bind ?_ (fun _ => ?_))
      | exact num_signed.mono _ _ _ _
      | exact LeO.none _
      | refine LeO.ite ?_ ?_
      | refine LeO.bind ?_ (fun _ => ?_)
set_option maxRecDepth 100000 in
theorem num_Mul.vc (k : Nat) (a0 : Int) (a1 : Int) (K : AV → Prop) : afv PA Try.prog (tab [(53, num_signed.con k), (54, num_product.con)]) noLoops 2 32 [.int .i64 a0, .int .i64 a1] K = (brc (Option.isSome (num_product.f a0 a1)) (∀ (m0 : Int), m0 = Prod.fst (gd (num_product.f a0 a1)) → ∀ (m1 : Int), m1 = Prod.snd (gd (num_product.f a0 a1)) → brc (Option.isSome (num_signed.f k (!decide (a0 < 0) == decide (a1 < 0)) m0 m1)) (∀ (m2 : Int), m2 = Prod.fst (gd (num_signed.f k (!decide (a0 < 0) == decide (a1 < 0)) m0 m1)) → ∀ (m3 : Int), m3 = Prod.snd (gd (num_signed.f k (!decide (a0 < 0) == decide (a1 < 0)) m0 m1)) → K (AV.tup [AV.int IntKind.i64 m2, AV.int IntKind.i64 m3])) False) False) := by kernel_rfl
set_option maxHeartbeats 1000000 in
set_option maxRecDepth 100000 in
theorem num_Mul.calls (k : Nat) (a0 : Int) (a1 : Int) (r1 : Int) (r2 : Int) (w : World) (h : num_Mul.f k a0 a1 = some (r1, r2)) :
    Calls Try.prog 32 #[.int .i64 a0, .int .i64 a1] w fun e w' => e = .returned (.tuple #[.int .i64 r1, .int .i64 r2]) ∧ Below w.heap.size w w' := by
  refine calls_of_vc (A := [.int .i64 a0, .int .i64 a1]) (v := .tup [.int .i64 r1, .int .i64 r2]) (tab_cons (num_signed.cok k) (tab_cons (num_product.cok) (tab_nil))) ((num_Mul.vc k a0 a1 _).mpr ?_) (by simp [rl_cons, rl_nil, rv_int, rv_bool, rv_str, rv_agg, rv_fn]) (fun ρ V' hV => by simpa [rl_cons, rl_nil, rv_int, rv_bool, rv_str, rv_agg, rv_tup] using hV)
  unfold num_Mul.f at h
  (try simp only [bne, Option.bind_eq_some_iff, ite_some_iff] at h)
  (try simp only [bne, brc_iff, wrap_i64])
  first
    | grind (splits := 60) [gd_some]
    | ((repeat' (first | (have or_ : Or _ _ := h; clear or_; rcases h with h | h) | (have or_ : Exists _ := h; clear or_; obtain ⟨_, h⟩ := h) | (have or_ : And _ _ := h; clear or_; obtain ⟨hq_, h⟩ := h))) <;> (try simp only [Option.some.injEq, Prod.mk.injEq, reduceCtorEq] at h) <;> (try subst_vars) <;> first | (simp_all [gd_some] <;> (try omega) <;> rcases hb0 : decide (a0 < 0) with _ | _ <;> rcases hb1 : decide (a1 < 0) with _ | _ <;> simp_all [gd_some] <;> done) | grind (splits := 60) [gd_some])
    | (intros; subst_vars; simp_all [gd_some]; done)
noncomputable def num_Mul.con (k : Nat) : Con
  | [.int .i64 a0, .int .i64 a1] => some ((num_Mul.f k a0 a1).isSome, .tup [.int .i64 (gd (num_Mul.f k a0 a1)).1, .int .i64 (gd (num_Mul.f k a0 a1)).2])
  | _ => none
set_option maxRecDepth 100000 in
theorem num_Mul.cok (k : Nat) : COk Try.prog 32 (num_Mul.con k) := by
  intro args p v hc hp w A hA
  unfold num_Mul.con at hc
  split at hc
  · rename_i a0 a1
    simp only [Option.some.injEq, Prod.mk.injEq] at hc
    obtain ⟨rfl, rfl⟩ := hc
    rcases hf : num_Mul.f k a0 a1 with _ | ⟨r1, r2⟩
    · rw [hf] at hp; cases hp
    obtain rfl : A = [.int .i64 a0, .int .i64 a1] := by simpa [rl_cons, rl_nil, rv_int, rv_bool, rv_str, rv_agg, rv_fn] using hA
    exact gives_of_calls (fn := Try.f32) Try.func32 (by kernel_rfl) (by kernel_rfl) (num_Mul.calls _ _ _ _ _ w hf) (fun _ => by simp [gd_some, rl_cons, rl_nil, rv_int, rv_bool, rv_str, rv_agg, rv_tup]) (fun _ h => h)
  · cases hc
theorem num_Mul.up {k : Nat} {a0 : Int} {a1 : Int} {r : Int × Int} (h : num_Mul.f k a0 a1 = some r) : num_Mul.f (k + 1) a0 a1 = some r := num_Mul.mono a0 a1 k _ h
theorem num_Mul.le {a0 : Int} {a1 : Int} {r : Int × Int} {k n : Nat} (h : num_Mul.f k a0 a1 = some r) (hk : k ≤ n) : num_Mul.f n a0 a1 = some r := by
  induction hk with
  | refl => exact h
  | step _ ih => exact num_Mul.up ih
end Go.Proofs.Ytkongoedgngfhaa.P

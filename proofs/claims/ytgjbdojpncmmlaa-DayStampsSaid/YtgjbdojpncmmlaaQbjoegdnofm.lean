/- The abstract machine: a region, in the text's order and in whatever order its edges allow. -/
import Derived.Test.YtgjbdojpncmmlaaQdgfmdnfpjk
import Derived.Orders
import Derived.Test.YtgjbdojpncmmlaaProg
import Derived.Test.YtgjbdojpncmmlaaQcabbdmbejp
import Derived.Below
import Derived.Deep.Draws
import Derived.Deep.AppendLies
import Derived.Maps.AppendAt
import Derived.OwnWalk
import Derived.Laws.BytesArg
import Derived.Laws.MakeOwn
import Derived.Laws.OwnMore
import Derived.Deep.OwnRows
import Derived.Tactics
import Derived.Lib.ConvBytes
import Derived.Laws.Slices
import Derived.WalkKit
import Derived.KernelRfl
import Derived.RowKit3
import Derived.Deep.LoopGhost
import Derived.Deep.QuietTactic
import Derived.BigQuiet
import Derived.WideLaws
import Derived.Deep.DeepCutAuto
import Derived.Deep.CutBlock
import Derived.Deep.RegionHeld3
import Derived.Laws.Rows
import Derived.Lib.AppendStr
import Derived.ArgAppend
import Derived.Laws.IdiomCopy
import Derived.OrdersHeld
import Derived.Laws.BitsLemmas
import Derived.RowKit
import Derived.Laws.RangeString
import Derived.Laws.RangeAny
import Derived.Lib.OthersKept
namespace Go.Proofs.Ytgjbdojpncmmlaa.A
open Go Go.RowKit
set_option linter.unusedVariables false
set_option linter.unusedSimpArgs false
variable {P : Program} {ρ : Names} {W w : World} {T : Tab} {ops : Array Oper}
theorem no_elim {p : Prop} (h : PA.no) : p := False.elim h
structure TR (ρ : Names) (W : World) (t : List (Option AV)) (a : Array Value) : Prop where
  len : t.length = a.size
  get : ∀ (i : Nat) (v : AV), t[i]? = some (some v) → ∃ V, a[i]? = some V ∧ RV ρ W v V
structure RelS (ρ : Names) (W : World) (st : St) (a : Act) (w : World) : Prop where
  t : TR ρ W st.t a.tmps
  h : Rel ρ W st.h w
  d : a.defers = []
theorem TR.ext {ρ' : Names} {t : List (Option AV)} {a : Array Value} (h : TR ρ W t a) (he : Ext ρ ρ') : TR ρ' W t a :=
  ⟨h.len, fun i v hv => let ⟨V, h1, h2⟩ := h.get i v hv; ⟨V, h1, h2.ext he⟩⟩
theorem TR.put {ρ' : Names} {t : List (Option AV)} {a : Act} (h : TR ρ W t a.tmps) (he : Ext ρ ρ') {v : AV} {V : Value} (hv : RV ρ' W v V) (dst : Option Tmp) : TR ρ' W (putT t dst v) (a.put dst V).tmps := by
  cases dst with
  | none => exact h.ext he
  | some d =>
    refine ⟨by simp [putT, Act.put, h.len], fun i u hu => ?_⟩
    simp only [putT, List.getElem?_set] at hu
    simp only [Act.put, Array.getElem?_setIfInBounds]
    have hl := h.len
    split at hu
    · rename_i hd
      subst hd
      split at hu
      · rename_i hlt
        simp at hu; subst hu
        exact ⟨V, by simp; omega, hv⟩
      · cases hu
    · rename_i hd
      rw [if_neg hd]
      obtain ⟨U, h1, h2⟩ := h.get i u hu
      exact ⟨U, h1, h2.ext he⟩
theorem put_defers (a : Act) (dst : Option Tmp) (V : Value) : (a.put dst V).defers = a.defers := by cases dst <;> rfl
theorem RelS.ev {st : St} {a : Act} (h : RelS ρ W st a w) {tm : Nat → Option AV} (ht : ∀ t v, tm t = some v → st.t[t]? = some (some v)) : ∀ x v, evOf tm x = some v → RV ρ W v (a.eval x) := by
  intro x v hx
  cases x with
  | tmp t =>
    obtain ⟨V, h1, h2⟩ := h.t.get t v (ht t v hx)
    simp only [Act.eval, Array.getD_eq_getD_getElem?, h1, Option.getD_some]; exact h2
  | const v' => exact ofV_ok ρ W 3 _ _ hx
  | global g => simp [evOf] at hx
  | func f => simp [evOf] at hx; subst hx; exact .fn _ .nil .nil
theorem RelS.ev0 {st : St} {a : Act} (h : RelS ρ W st a w) : ∀ x v, evOf (tmAll st) x = some v → RV ρ W v (a.eval x) := h.ev fun _ _ => tmAll_some
theorem RelS.wanted {st : St} {a : Act} (h : RelS ρ W st a w) {tm : Nat → Option AV} (ht : ∀ t v, tm t = some v → st.t[t]? = some (some v)) {o : Oper} {b : Bool} (hq : wantedA ops tm o = some b) : Region.wanted o (yielded ops a.tmps) = b := by
  unfold wantedA at hq
  unfold Region.wanted
  split at hq
  · rename_i hg; simp at hq; subst hq; simp [hg]
  · rename_i j want hg
    simp only [hg]
    split at hq
    case h_2 => cases hq
    rename_i d hd
    split at hq
    · rename_i b' hb
      obtain ⟨V, h1, h2⟩ := h.t.get d _ (ht _ _ hb)
      cases h2
      simp only [yielded, hd, Option.bind_some, h1]
      simp at hq; subst hq
      cases want <;> cases b' <;> rfl
    · rename_i hb
      obtain ⟨V, h1, h2⟩ := h.t.get d _ (ht _ _ hb)
      cases h2
      simp only [yielded, hd, Option.bind_some, h1]
      simp at hq; subst hq
      cases want <;> rfl
    · cases hq
/-- What a walked call must come to. -/
def InlOk (P : Program) (inl : Inl Prop) : Prop :=
  ∀ (o : Oper) (c : Call), o.op = .call c → ∀ (e : Operand → Option AV) (h : Heap) (Kx : AV → Heap → Prop), inl c e h Kx →
    ∀ (ρ : Names) (W w : World) (a : Act), Rel ρ W h w → (∀ x v, e x = some v → RV ρ W v (a.eval x)) → ∀ (K : Act → World → Prop) (Q : Exit → Act → World → Prop),
      (∀ ρ' V w' v h', Ext ρ ρ' → RV ρ' W v V → Rel ρ' W h' w' → Kx v h' → K (a.put o.dst V) w') → o.wp P a w K Q
theorem noInl_ok (P : Program) : InlOk P (noInl PA) := fun _ _ _ _ _ _ h => no_elim h
theorem step_ok (hT : TabOk P T) {lk : Lk} (hlk : LkOk lk) {rd : Nat → Heap → Nat → Option Ob} (hrd : ∀ i h n x, rd i h n = some x → h[n]? = some (some x)) {nm : Nat → Heap → Nat} {inl : Inl Prop}
    (hI : InlOk P inl) {i : Nat} {K : St → Prop} {st : St} {a : Act} (hs : RelS ρ W st a w) (hn : (∃ o, ops[i]? = some o) → Fresh st.h (nm i st.h)) (hq : stepA PA P T lk ops rd nm inl i K st) {K' : Act → World → Prop} {Q : Exit → Act → World → Prop}
    (hK : ∀ ρ' st' a' w', Ext ρ ρ' → RelS ρ' W st' a' w' → K st' → K' a' w') : wpOp P ops Q i K' a w := by
  rw [stepA_eq PA P T hlk] at hq
  unfold stepB at hq
  rw [getL_eq, Array.getElem?_toList] at hq
  unfold wpOp
  split at hq
  · rename_i ho; simp only [ho]; exact hK ρ st a w (Ext.refl ρ) hs hq
  · rename_i o ho
    simp only [ho]
    split at hq
    · exact no_elim hq
    · rename_i b hb
      rw [hs.wanted (hlk o st) hb]
      cases b with
      | false =>
        simp only [Bool.false_eq_true, if_false]
        simp only [PA, brc, fst_eq] at hq
        exact hK ρ ⟨putT st.t o.dst .undef, st.h⟩ _ w (Ext.refl ρ) ⟨hs.t.put (Ext.refl ρ) .undef o.dst, hs.h, by rw [put_defers]; exact hs.d⟩ hq
      | true =>
        simp only [if_true]
        refine .inl ?_
        simp only [PA, brc] at hq
        split at hq
        · rename_i p v f hv
          obtain ⟨rfl, hq⟩ := brc_false.1 hq
          rw [fx_eq, fe_eq, fst_eq] at hq
          exact opv_ok hT hs.h (hrd i st.h) (hn ⟨o, ho⟩) (hs.ev (hlk o st)) hv fun ρ' w' V he hV hR => hK ρ' _ _ w' he ⟨hs.t.put he hV o.dst, hR, by rw [put_defers]; exact hs.d⟩ hq
        · split at hq
          · rename_i c hc
            exact hI o c hc _ _ _ hq ρ W w a hs.h (hs.ev (hlk o st)) K' Q fun ρ' V w' v h' he hV hR hk => hK ρ' _ _ w' he ⟨hs.t.put he hV o.dst, hR, by rw [put_defers]; exact hs.d⟩ (by rw [fv_eq, fst_eq] at hk; exact hk)
          · exact no_elim hq
theorem rdFlat_ok (h : Heap) (n : Nat) (x : Ob) (hq : rdFlat h n = some x) : h[n]? = some (some x) := by
  unfold rdFlat at hq
  rw [getL_eq] at hq
  cases hg : h[n]? with
  | none => simp [hg] at hq
  | some u => simp [hg] at hq; rw [hq]
theorem rdDrawn_ok (base : Nat) (bf : List Nat) (i : Nat) (h : Heap) (n : Nat) (x : Ob) (hq : rdDrawn base bf i h n = some x) : h[n]? = some (some x) := by
  unfold rdDrawn at hq
  split at hq
  · exact rdFlat_ok h n x (by unfold rdFlat; rw [getL_eq]; exact hq)
  · cases hq
/-- In the text's order. -/
theorem opsA_ok (hT : TabOk P T) {inl : Inl Prop} (hI : InlOk P inl) {Q : Exit → Act → World → Prop} {K : St → Prop} : ∀ (l : List Nat) {ρ : Names} {st : St} {a : Act} {w : World}, RelS ρ W st a w →
    opsA PA P T lkAll ops (fun _ => rdFlat) (fun _ h => h.length) inl l st K → (∀ ρ' st' a' w', Ext ρ ρ' → RelS ρ' W st' a' w' → K st' → Q .normal a' w') → wpOps P ops Q l a w
  | [], ρ, st, a, w, hs, hq, hK => hK ρ st a w (Ext.refl ρ) hs hq
  | i :: r, ρ, st, a, w, hs, hq, hK => by
    rw [wpOps_cons]
    exact step_ok hT lkAll_ok (fun _ => rdFlat_ok) hI hs (fun _ => .inl rfl) hq fun ρ' st' a' w' he hs' hq' => opsA_ok hT hI r hs' hq' fun ρ2 st2 a2 w2 he2 => hK ρ2 st2 a2 w2 (he.trans he2)
def NoSet (f : Eff) : Prop := ∀ n o, f ≠ .set n o
theorem opv_noset {rd : Nat → Option Ob} {nm : Nat} {e : Operand → Option AV} {o : Oper} {p : Bool} {v : AV} {f : Eff} (hq : quietOp o.op = true) (hv : opv P T rd nm e o = some (p, v, f)) : NoSet f := by
  have plain : ∀ {r : Option AV}, plainOut r = some (p, v, f) → NoSet f := fun {r} h => by
    cases r <;> simp [plainOut] at h; intro n o; rw [← h.2.2]; simp
  have cond : ∀ {r : Option (Bool × AV)}, condOut r = some (p, v, f) → NoSet f := fun {r} h => by
    cases r with
    | none => simp [condOut] at h
    | some p => obtain ⟨p, q⟩ := p; simp [condOut] at h; intro n o; rw [← h.2.2]; simp
  have giv : ∀ {r : AV}, give r = some (p, v, f) → NoSet f := fun {r} h => by
    simp [give] at h; intro n o; rw [← h.2.2]; simp
  have bx : ∀ {r : AV}, boxOut nm r = some (p, v, f) → NoSet f := fun {r} h => by
    unfold boxOut at h; split at h <;> simp at h; intro n o; rw [← h.2.2]; simp
  unfold opv at hv
  split at hv
  case h_8 hop => simp [quietOp, hop] at hq
  case h_21 =>
    split at hv
    · split at hv
      · exact plain hv
      · cases hv
    · unfold callA at hv
      (repeat' split at hv) <;> simp at hv
      intro n o; rw [← hv.2.2]; simp
  all_goals (first | exact plain hv | (split at hv <;> first | exact plain hv | exact cond hv | exact giv hv | exact bx hv | cases hv) | cases hv)
section drawn
variable (P T ops) (base : Nat) (bf : List Nat)
abbrev stepD (i : Nat) (K : St → Prop) (st : St) : Prop := stepA PA P T (lkOf ops) ops (rdDrawn base bf) (fun i _ => base + i) (noInl PA) i K st
/-- A step of a quiet operation: what it comes to. -/
theorem stepD_cases {i : Nat} {o : Oper} (ho : ops[i]? = some o) (hq : quietOp o.op = true) (st : St) :
    (∀ K, ¬ stepD P T ops base bf i K st) ∨ ∃ v f, NoSet f ∧ ∀ K, (stepD P T ops base bf i K st ↔ K ⟨putT st.t o.dst v, effH st.h (base + i) f⟩) ∧
      ∀ st2 : St, tmOf st2 (o.looksAt ops) = tmOf st (o.looksAt ops) → rdDrawn base bf i st2.h = rdDrawn base bf i st.h → (stepD P T ops base bf i K st2 ↔ K ⟨putT st2.t o.dst v, effH st2.h (base + i) f⟩) := by
  simp only [stepD, stepA_eq PA P T (lkOf_ok ops)]
  simp only [stepB, getL_eq, Array.getElem?_toList, ho, fx_eq, fv_eq, fe_eq, fst_eq, PA, lkOf]
  cases hw : wantedA ops (tmOf st (o.looksAt ops)) o with
  | none => exact .inl fun K h => h
  | some b =>
    cases b with
    | false =>
      refine .inr ⟨.undef, .no, fun _ _ => by simp, fun K => ⟨by simp [brc, effH], fun st2 h1 h2 => ?_⟩⟩
      rw [h1, hw]; simp [brc, effH]
    | true =>
      simp only [brc]
      cases hv : opv P T (rdDrawn base bf i st.h) (base + i) (evOf (tmOf st (o.looksAt ops))) o with
      | none =>
        refine .inl fun K h => ?_
        simp only [noInl] at h
        split at h <;> exact h
      | some r =>
        obtain ⟨p, v, f⟩ := r
        cases p with
        | false => exact .inl fun K h => h
        | true =>
          refine .inr ⟨v, f, opv_noset hq hv, fun K => ⟨by simp [stepSt], fun st2 h1 h2 => ?_⟩⟩
          rw [h1, h2, hw]
          simp only [brc, hv, stepSt, true_and]
theorem tmOf_put {st : St} {ts : List Nat} {dst : Option Tmp} {v : AV} {h' : Heap} (hd : ∀ d, dst = some d → d ∉ ts) : tmOf ⟨putT st.t dst v, h'⟩ ts = tmOf st ts := by
  funext t
  simp only [tmOf, tmAll, getL_eq]
  split
  · rename_i hc
    cases dst with
    | none => rfl
    | some d =>
      have : d ≠ t := fun e => hd d rfl (by subst e; simpa using hc)
      simp [putT, List.getElem?_set, this]
  · rfl
theorem effH_other {h : Heap} {m : Nat} {f : Eff} (hf : NoSet f) (hm : m < h.length) (n : Nat) (hn : n ≠ m) : (effH h m f)[n]? = h[n]? := by
  cases f with
  | no => rfl
  | alloc o => simp only [effH]; rw [if_pos hm, List.getElem?_set]; simp [Ne.symm hn]
  | set n o => exact (hf n o rfl).elim
theorem effH_length {h : Heap} {m : Nat} {f : Eff} (hf : NoSet f) (hm : m < h.length) : (effH h m f).length = h.length := by
  cases f with
  | no => rfl
  | alloc o => simp only [effH]; rw [if_pos hm]; simp
  | set n o => exact (hf n o rfl).elim
theorem effH_comm {h : Heap} {m k : Nat} {f g : Eff} (hf : NoSet f) (hg : NoSet g) (hm : m < h.length) (hk : k < h.length) (hne : m ≠ k) : effH (effH h m f) k g = effH (effH h k g) m f := by
  cases f with
  | no => rfl
  | set n o => exact (hf n o rfl).elim
  | alloc o =>
    cases g with
    | no => rfl
    | set n o => exact (hg n o rfl).elim
    | alloc o' =>
      have e : ∀ {h : Heap} {m : Nat} (o : Ob), m < h.length → effH h m (.alloc o) = h.set m (some o) := fun {h m} o hm => by simp only [effH]; rw [if_pos hm]
      rw [e o hm, e o' hk, e o' (by simpa using hk), e o (by simpa using hm), List.set_comm _ _ hne]
theorem rdDrawn_eff {h : Heap} {i j : Nat} {f : Eff} (hf : NoSet f) (hi : base + i < h.length) (hb : (bf.getD j 0).testBit i = false) : rdDrawn base bf j (effH h (base + i) f) = rdDrawn base bf j h := by
  funext n
  simp only [rdDrawn]
  split
  · rename_i hc
    rw [effH_other hf hi]
    intro hn
    subst hn
    simp at hc hb
    rcases hc with hc | hc
    · omega
    · rw [hb] at hc; cases hc
  · rfl
theorem putT_comm (t : List (Option AV)) {x y : Option Tmp} (v u : AV) (h : ∀ d, x = some d → y ≠ some d) : putT (putT t x v) y u = putT (putT t y u) x v := by
  cases x with
  | none => rfl
  | some d =>
    cases y with
    | none => rfl
    | some e =>
      have : d ≠ e := fun he => h d rfl (by rw [he])
      simp [putT, List.set_comm _ _ this]
theorem swapD {i j : Nat} (hij : i ≠ j) {oi oj : Oper} (hi : ops[i]? = some oi) (hj : ops[j]? = some oj) (qi : quietOp oi.op = true) (qj : quietOp oj.op = true) (hap : oi.apart ops oj = true)
    (bi : (bf.getD j 0).testBit i = false) (bj : (bf.getD i 0).testBit j = false) {st : St} (li : base + i < st.h.length) (lj : base + j < st.h.length) {K : St → Prop}
    (h : stepD P T ops base bf i (fun s => stepD P T ops base bf j K s) st) : stepD P T ops base bf j (fun s => stepD P T ops base bf i K s) st := by
  obtain ⟨a1, a2, a3⟩ := Oper.apart_spec hap
  rcases stepD_cases P T ops base bf hi qi st with hno | ⟨v, f, hf, hs⟩
  · exact (hno _ h).elim
  · rw [(hs _).1] at h
    rcases stepD_cases P T ops base bf hj qj st with hno | ⟨u, g, hg, ht⟩
    · -- j does not come to an end from the start: nor behind i
      have e1 := tmOf_put (st := st) (v := v) (h' := effH st.h (base + i) f) a1
      have e2 := rdDrawn_eff (base := base) (bf := bf) (j := j) hf li bi
      exfalso
      refine hno K ?_
      rcases stepD_cases P T ops base bf hj qj ⟨putT st.t oi.dst v, effH st.h (base + i) f⟩ with hno2 | ⟨u, g, hg, ht⟩
      · exact (hno2 _ h).elim
      · rcases Classical.em (stepD P T ops base bf j (fun _ => True) st) with hT | hT
        · exact (hno _ hT).elim
        · exact (hT (((ht (fun _ => True)).2 st e1.symm e2.symm).2 trivial)).elim
    · rw [(ht _).2 ⟨putT st.t oi.dst v, effH st.h (base + i) f⟩ (tmOf_put a1) (rdDrawn_eff base bf hf li bi)] at h
      rw [(ht _).1, (hs _).2 ⟨putT st.t oj.dst u, effH st.h (base + j) g⟩ (tmOf_put a3) (rdDrawn_eff base bf hg lj bj)]
      simp only at h ⊢
      rw [putT_comm st.t v u a2, effH_comm hf hg li lj (by omega)] at h
      exact h
theorem stepD_mono {i : Nat} {o : Oper} (ho : ops[i]? = some o) (hq : quietOp o.op = true) {st : St} {K K' : St → Prop}
    (hK : ∀ v f, NoSet f → K ⟨putT st.t o.dst v, effH st.h (base + i) f⟩ → K' ⟨putT st.t o.dst v, effH st.h (base + i) f⟩) (h : stepD P T ops base bf i K st) : stepD P T ops base bf i K' st := by
  rcases stepD_cases P T ops base bf ho hq st with hno | ⟨v, f, hf, hs⟩
  · exact (hno _ h).elim
  · rw [(hs _).1] at h ⊢
    exact hK v f hf h
abbrev opsD (l : List Nat) (st : St) (K : St → Prop) : Prop := opsA PA P T (lkOf ops) ops (rdDrawn base bf) (fun i _ => base + i) (noInl PA) l st K
structure DOk : Prop where
  quiet : ∀ (i : Nat) (o : Oper), ops[i]? = some o → quietOp o.op = true
  on : ∀ (i : Nat) (o : Oper), ops[i]? = some o → ∀ e ∈ o.after.toList, Region.binds .any e = true → e.on < i
  up : ∀ (i j : Nat), i < ops.size → j < i → (bf.getD j 0).testBit i = false
  clo : ∀ (i : Nat) (o : Oper) (j : Nat), ops[i]? = some o → j < i → (bf.getD i 0).testBit j = true → ∃ e ∈ o.after.toList, Region.binds .any e = true ∧ (e.on = j ∨ (bf.getD e.on 0).testBit j = true)
  apart : ∀ (i j : Nat) (oi oj : Oper), ops[i]? = some oi → ops[j]? = some oj → j < i → (bf.getD i 0).testBit j = false → oj.apart ops oi = true
variable {P T ops base bf}
theorem drawnOk_spec (h : drawnOk ops.toList bf = true) : DOk ops bf := by
  unfold drawnOk at h
  simp only [Bool.and_eq_true, List.all_eq_true] at h
  obtain ⟨h1, h2⟩ := h
  have hop : ∀ {i : Nat} {o : Oper}, ops[i]? = some o → i < ops.size ∧ ops.toList[i]? = some o ∧ o ∈ ops.toList := fun {i o} hi => by
    refine ⟨?_, by simpa using hi, ?_⟩
    · rcases Nat.lt_or_ge i ops.size with q | q
      · exact q
      · simp [Array.getElem?_eq_none q] at hi
    · exact List.mem_of_getElem? (i := i) (by simpa using hi)
  have hget : ∀ {i : Nat} {o : Oper}, ops[i]? = some o → (∀ e ∈ o.after.toList, Region.binds .any e = true → e.on < i) ∧ ∀ j, j < i → ∀ x, ops[j]? = some x → (bf.getD j 0).testBit i = false ∧
      (if (bf.getD i 0).testBit j = true then (o.after.toList.any fun e => Region.binds .any e && (e.on == j || (bf.getD e.on 0).testBit j)) = true else x.apart ops o = true) := fun {i o} hi => by
    obtain ⟨a1, a2, a3⟩ := hop hi
    have := h2 i (by rw [upTo_mem]; simp; omega)
    simp only [a2, Bool.and_eq_true, List.all_eq_true] at this
    refine ⟨fun e he hb => ?_, fun j hj x hx => ?_⟩
    · have := this.1 e he
      simpa [hb] using this
    · have := this.2 j (by rw [upTo_mem]; omega)
      simp only [(hop hx).2.1, Bool.and_eq_true, Bool.not_eq_true'] at this
      refine ⟨this.1, ?_⟩
      have h3 := this.2
      split
      · rename_i hb; rw [if_pos hb] at h3; exact h3
      · rename_i hb; rw [if_neg hb] at h3; simpa using h3
  refine ⟨fun i o hi => h1 o (hop hi).2.2, fun i o hi => (hget hi).1, fun i j hi hj => ?_, fun i o j hi hj hb => ?_, fun i j oi oj hi hj hlt hb => ?_⟩
  · exact ((hget (Array.getElem?_eq_getElem hi)).2 j hj _ (Array.getElem?_eq_getElem (by omega))).1
  · have hlt := (hop hi).1
    have := ((hget hi).2 j hj _ (Array.getElem?_eq_getElem (by omega))).2
    rw [if_pos hb] at this
    simp only [List.any_eq_true, Bool.and_eq_true, Bool.or_eq_true, beq_iff_eq] at this
    exact this
  · have := ((hget hi).2 j hlt _ hj).2
    rw [if_neg (by rw [hb]; exact Bool.false_ne_true)] at this
    exact this
theorem bubble (hD : DOk ops bf) {i : Nat} {K : St → Prop} : ∀ (l : List Nat) (st : St), l.Pairwise (· < ·) → i ∈ l → (∀ j ∈ l, j < ops.size) → (∀ j ∈ l, j < i → (bf.getD i 0).testBit j = false) → st.h.length = base + ops.size →
    opsD P T ops base bf l st K → stepD P T ops base bf i (fun s => opsD P T ops base bf (l.erase i) s K) st
  | [], st, _, hm, _, _, _, _ => by cases hm
  | j :: r, st, hp, hm, hl, hb, hlen, h => by
    by_cases hji : j = i
    · subst hji; simpa [opsD, opsA] using h
    · have hir : i ∈ r := by rcases List.mem_cons.1 hm with e | e; exact (hji e.symm).elim; exact e
      have hlt : j < i := (List.pairwise_cons.1 hp).1 i hir
      have hj := hl j (by simp)
      have hi := hl i hm
      have oj : ops[j]? = some ops[j] := Array.getElem?_eq_getElem hj
      have oi : ops[i]? = some ops[i] := Array.getElem?_eq_getElem hi
      have herase : (j :: r).erase i = j :: r.erase i := by rw [List.erase_cons]; simp [hji]
      rw [herase]
      have bji := hb j (by simp) hlt
      refine swapD P T ops base bf hji oj oi (hD.quiet _ _ oj) (hD.quiet _ _ oi) (hD.apart i j _ _ oi oj hlt bji) bji (hD.up i j hi hlt) (by omega) (by omega) ?_
      refine stepD_mono P T ops base bf oj (hD.quiet _ _ oj) (fun v f hf hk => ?_) h
      exact bubble hD r _ (List.pairwise_cons.1 hp).2 hir (fun k hk => hl k (by simp [hk])) (fun k hk => hb k (by simp [hk])) (by show (effH st.h (base + j) f).length = _; rw [effH_length hf (by omega)]; exact hlen) hk
theorem drawn_ok (hT : TabOk P T) (hD : DOk ops bf) {Q : Exit → Act → World → Prop} {K : St → Prop} : ∀ (n : Nat) (todo : List Nat) {ρ : Names} {st : St} {a : Act} {w : World} {listed : Array Bool}, todo.length = n → todo.Pairwise (· < ·) → (∀ j ∈ todo, j < ops.size) →
    listed.size = ops.size → (∀ i, i < ops.size → (listed.getD i true = false ↔ i ∈ todo)) → (∀ i, i < ops.size → i ∉ todo → ∀ m, (bf.getD i 0).testBit m = true → m ∉ todo) →
    RelS ρ W st a w → (∀ i ∈ todo, st.h[base + i]? = some none) → st.h.length = base + ops.size → opsD P T ops base bf todo st K → (∀ ρ' st' a' w', Ext ρ ρ' → RelS ρ' W st' a' w' → K st' → Q .normal a' w') →
    wpAny P .any ops Q n listed a w := by
  have nready : ∀ {todo : List Nat} {listed : Array Bool}, listed.size = ops.size → (∀ i, i < ops.size → (listed.getD i true = false ↔ i ∈ todo)) → ∀ i, i ∈ Region.ready .any ops listed → i < ops.size ∧ i ∈ todo ∧ ∃ o, ops[i]? = some o ∧ ∀ e ∈ o.after, Region.binds .any e = true → e.on < ops.size ∧ e.on ∉ todo := by
    intro todo listed hsz hlist i hi
    obtain ⟨h1, o, h2, h3⟩ := mem_ready.1 hi
    have hlt : i < ops.size := by rcases Nat.lt_or_ge i ops.size with q | q; exact q; simp [Array.getElem?_eq_none q] at h2
    refine ⟨hlt, (hlist i hlt).1 h1, o, h2, fun e he hb => ?_⟩
    have h4 := h3 e he hb
    have hel : e.on < ops.size := by
      rcases Nat.lt_or_ge e.on listed.size with q | q
      · omega
      · simp [Array.getElem?_eq_none q] at h4
    refine ⟨hel, fun hm => ?_⟩
    have := (hlist _ hel).2 hm
    have hel' : e.on < listed.size := by omega
    simp [hel'] at h4 this
    rw [h4] at this; cases this
  intro n
  induction n with
  | zero =>
    intro todo ρ st a w listed hn hp hl hsz hlist hdc hs hres hlen h hK
    have : todo = [] := by cases todo; rfl; simp at hn
    subst this
    refine ⟨?_, hK ρ st a w (Ext.refl ρ) hs h⟩
    cases hr : Region.ready .any ops listed with
    | nil => rfl
    | cons x xs => have := (nready hsz hlist x (by rw [hr]; simp)).2.1; cases this
  | succ n ih =>
    intro todo ρ st a w listed hn hp hl hsz hlist hdc hs hres hlen h hK
    refine ⟨fun hr => ?_, fun i hi => ?_⟩
    · -- the least that is still to come may come
      cases todo with
      | nil => simp at hn
      | cons j r =>
        exfalso
        have hj := hl j (by simp)
        have : j ∈ Region.ready .any ops listed := by
          refine mem_ready.2 ⟨(hlist j hj).2 (by simp), ops[j], Array.getElem?_eq_getElem hj, fun e he hb => ?_⟩
          have h1 := hD.on j _ (Array.getElem?_eq_getElem hj) e (by simpa using he) hb
          have h2 : e.on ∉ j :: r := fun hm => by
            rcases List.mem_cons.1 hm with q | q
            · omega
            · have := (List.pairwise_cons.1 hp).1 _ q; omega
          have h3 : ¬ listed.getD e.on true = false := fun q => h2 ((hlist _ (by omega)).1 q)
          have hel' : e.on < listed.size := by omega
          simp [hel'] at h3 ⊢
          exact h3
        rw [hr] at this; cases this
    · obtain ⟨hlt, hm, o, ho, hon⟩ := nready hsz hlist i hi
      have hbf : ∀ m, (bf.getD i 0).testBit m = true → m ∉ todo.erase i := fun m hb hmem => by
        have hmt := List.mem_of_mem_erase hmem
        have hms := hl m hmt
        rcases Nat.lt_trichotomy m i with q | q | q
        · obtain ⟨e, he, hbe, hor⟩ := hD.clo i o m ho q hb
          obtain ⟨g1, g2⟩ := hon e (by simpa using he) hbe
          rcases hor with hor | hor
          · exact g2 (hor ▸ hmt)
          · exact hdc _ g1 g2 m hor hmt
        · subst q
          have hnd : todo.Nodup := hp.imp fun h => Nat.ne_of_lt h
          exact (List.Nodup.not_mem_erase hnd) hmem
        · rw [hD.up m i hms q] at hb; cases hb
      have hnot : ∀ j ∈ todo, j < i → (bf.getD i 0).testBit j = false := fun j hj hji => by
        cases hb : (bf.getD i 0).testBit j with
        | false => rfl
        | true => exact (hbf j hb ((List.mem_erase_of_ne (by omega)).2 hj)).elim
      have hstep := bubble (P := P) (T := T) (base := base) hD todo st hp hm hl hnot hlen h
      have hq := hD.quiet i o ho
      have hstep2 := stepD_mono P T ops base bf ho hq (K' := fun s => (s.h.length = base + ops.size ∧ ∀ k ∈ todo.erase i, s.h[base + k]? = some none) ∧ opsD P T ops base bf (todo.erase i) s K) (fun v f hf hk => ⟨⟨by
          show (effH st.h (base + i) f).length = _; rw [effH_length hf (by omega)]; exact hlen, fun k hk2 => by
          show (effH st.h (base + i) f)[base + k]? = _
          have hne : k ≠ i := fun e => by subst e; exact (List.Nodup.not_mem_erase (hp.imp fun h => Nat.ne_of_lt h)) hk2
          rw [effH_other hf (by omega) _ (by omega)]; exact hres k (List.mem_of_mem_erase hk2)⟩, hk⟩) hstep
      refine step_ok hT (lkOf_ok ops) (rdDrawn_ok base bf) (noInl_ok P) hs (fun _ => .inr (hres i hm)) hstep2 fun ρ' st' a' w' he hs' hk => ?_
      obtain ⟨⟨k1, k2⟩, k3⟩ := hk
      have hnd : todo.Nodup := hp.imp fun h => Nat.ne_of_lt h
      refine ih (todo.erase i) (by rw [List.length_erase_of_mem hm]; omega) (hp.sublist List.erase_sublist) (fun j hj => hl j (List.mem_of_mem_erase hj)) (by simpa using hsz) (fun j hj => ?_) (fun j hj hnj m hb => ?_) hs' k2 k1 k3 fun ρ2 st2 a2 w2 he2 => hK ρ2 st2 a2 w2 (he.trans he2)
      · by_cases hji : j = i
        · subst hji
          have hjl : j < listed.size := by omega
          simp [hjl]
          exact List.Nodup.not_mem_erase hnd
        · rw [getD_set_ne true (Ne.symm hji), hlist j hj, List.mem_erase_of_ne hji]
      · by_cases hji : j = i
        · subst hji; exact hbf m hb
        · have hnj2 : j ∉ todo := fun q => hnj ((List.mem_erase_of_ne hji).2 q)
          exact fun q => hdc j hj hnj2 m hb (List.mem_of_mem_erase q)
end drawn
theorem upTo_pairwise : ∀ (n a : Nat), (upTo a n).Pairwise (· < ·)
  | 0, _ => .nil
  | n + 1, a => List.pairwise_cons.2 ⟨fun b hb => by rw [upTo_mem] at hb; omega, upTo_pairwise n (a + 1)⟩
theorem upTo_range (n : Nat) : upTo 0 n = List.range n := by
  apply List.ext_getElem?
  intro k
  rw [upTo_get]
  split
  · rename_i h; simp [h]
  · rename_i h; simp; omega
theorem regionA_ok (hm : P.follows .mixedOrders = true) (hT : TabOk P T) {inl : Inl Prop} (hI : InlOk P inl) {Q : Exit → Act → World → Prop} {K : St → Prop} {st : St} {a : Act} {id : Nat} {draw : Bool} (hs : RelS ρ W st a w)
    (h : regionA PA P T inl ops draw st K) (hK : ∀ ρ' st' a' w', Ext ρ ρ' → RelS ρ' W st' a' w' → K st' → Q .normal a' w') : (Code.region id ops draw).wp P Q a w := by
  unfold regionA at h
  cases draw with
  | false =>
    simp only [Bool.false_eq_true, if_false, upTo_range] at h
    exact wp_region (opsA_ok hT hI _ hs h hK)
  | true =>
    simp only [if_true] at h
    split at h
    · rename_i hok
      refine wp_region_any hm ?_
      have hs' : RelS ρ W ⟨st.t, st.h ++ List.replicate ops.size none⟩ a { w with drawn := w.drawn + 1 } := ⟨hs.t, (hs.h.room ops.size).drew, hs.d⟩
      refine drawn_ok hT (drawnOk_spec hok) ops.size (upTo 0 ops.size) (upTo_length _ _) (upTo_pairwise _ _) (fun j hj => by rw [upTo_mem] at hj; omega) (by simp) (fun i hi => ?_) (fun i hi hn => ?_) hs' (fun i hi => ?_) (by simp) h hK
      · simp [hi, upTo_mem]
      · exact (hn (by rw [upTo_mem]; omega)).elim
      · rw [upTo_mem] at hi
        rw [List.getElem?_append_right (by simp), List.getElem?_replicate]
        simp; omega
    · exact no_elim h
end Go.Proofs.Ytgjbdojpncmmlaa.A
namespace Go.Proofs.Ytgjbdojpncmmlaa.A
open Go Go.RowKit
set_option linter.unusedVariables false
set_option linter.unusedSimpArgs false
variable {P : Program} {ρ : Names} {W w : World} {T : Tab}
def Ex.is : Ex → Exit → Prop
  | .normal, .normal => True
  | .exit i, .exit j => i = j
  | .ret, .ret => True
  | _, _ => False
/-- What holds behind a piece of code, in the model. -/
def Post (ρ : Names) (W : World) (Q : Ex → St → Prop) : Exit → Act → World → Prop := fun e a w => ∃ e' st' ρ', e'.is e ∧ Ext ρ ρ' ∧ RelS ρ' W st' a w ∧ Q e' st'
theorem Post.ext {ρ' : Names} {Q : Ex → St → Prop} {e : Exit} {a : Act} (he : Ext ρ ρ') (h : Post ρ' W Q e a w) : Post ρ W Q e a w :=
  let ⟨e', st', ρ2, h1, h2, h3, h4⟩ := h; ⟨e', st', ρ2, h1, he.trans h2, h3, h4⟩
/-- A reckoning of code holds in the model. -/
def RecOk (P : Program) (rec : Code → St → (Ex → St → Prop) → Prop) : Prop :=
  ∀ (c : Code) (st : St) (Q : Ex → St → Prop) (ρ : Names) (W w : World) (a : Act), rec c st Q → RelS ρ W st a w → c.wp P (Post ρ W Q) a w
/-- A loop's rounds hold in the model, from its head. -/
def LoopsOk (P : Program) (lp : Code → St → (Ex → St → Prop) → Prop) : Prop :=
  ∀ (c : Code) (st : St) (Q : Ex → St → Prop) (ρ : Names) (W w : World) (a : Act), lp c st Q → RelS ρ W st a w → ∀ (b : Frame) (k : List Item) (cs : List Frame),
    ∃ e a' w', Post ρ W Q e a' w' ∧ Arrives P (lone (b.at a (.code c :: .inLoop c :: k)) cs w) b k cs e a' w'
/-- A loop's contract holds. -/
def LcOk (P : Program) (b : Code) (lc : St → (Ex → St → Prop) → Prop) : Prop := ∀ (st : St) (Q : Ex → St → Prop) (ρ : Names) (W w : World) (a : Act), lc st Q → RelS ρ W st a w → (Code.loop b).wp P (Post ρ W Q) a w
theorem codeA_ok (hm : P.follows .mixedOrders = true) (hT : TabOk P T) {LT : LTab Prop} {lp : Code → St → (Ex → St → Prop) → Prop} (hr : LoopsOk P lp) {inl : Inl Prop} (hI : InlOk P inl) :
    ∀ (c : Code), (∀ b ∈ Code.loops c, ∀ lc, LT (Code.first b) = some lc → LcOk P b lc) → ∀ (st : St) (Q : Ex → St → Prop) (ρ : Names) (W w : World) (a : Act), codeA PA P T LT lp inl c st Q → RelS ρ W st a w → c.wp P (Post ρ W Q) a w := by
  intro c
  induction c with
  | skip => intro hL st Q ρ W w a h hs; exact wp_skip ⟨.normal, st, ρ, trivial, Ext.refl ρ, hs, h⟩
  | label l => intro hL st Q ρ W w a h hs; exact wp_label ⟨.normal, st, ρ, trivial, Ext.refl ρ, hs, h⟩
  | seq x y ihx ihy =>
    intro hL st Q ρ W w a h hs
    refine wp_seq (wp_mono (ihx (fun b hb => hL b (by simp [Code.loops, hb])) _ _ ρ W w a h hs) fun e a' w' hp => ?_)
    obtain ⟨e', st', ρ', h1, h2, h3, h4⟩ := hp
    cases e' with
    | normal =>
      cases e <;> try exact h1.elim
      exact wp_mono (ihy (fun b hb => hL b (by simp [Code.loops, hb])) _ _ ρ' W w' a' h4 h3) fun e a w hp => hp.ext h2
    | exit i =>
      cases e <;> try exact h1.elim
      exact ⟨.exit i, st', ρ', h1, h2, h3, h4⟩
    | ret =>
      cases e <;> try exact h1.elim
      exact ⟨.ret, st', ρ', h1, h2, h3, h4⟩
  | cond c x y ihx ihy =>
    intro hL st Q ρ W w a h hs
    simp only [codeA] at h
    split at h
    · rename_i b hb
      have hv := hs.ev0 _ _ hb
      generalize hX : a.eval c = X at hv
      cases hv
      refine wp_cond_split hX (fun hb => ?_) (fun hb => ?_)
      · subst hb; rename_i hb
        have h' : fst (refC st c true) (fun st => codeA PA P T LT lp inl x st Q) := h
        rw [fst_eq, refC_eq hb] at h'
        exact ihx (fun b hb => hL b (by simp [Code.loops, hb])) _ _ ρ W w a h' hs
      · subst hb; rename_i hb
        have h' : fst (refC st c false) (fun st => codeA PA P T LT lp inl y st Q) := h
        rw [fst_eq, refC_eq hb] at h'
        exact ihy (fun b hb => hL b (by simp [Code.loops, hb])) _ _ ρ W w a h' hs
    · exact no_elim h
  | block id b ih =>
    intro hL st Q ρ W w a h hs
    refine wp_block (wp_mono (ih (fun b hb => hL b (by simpa [Code.loops] using hb)) _ _ ρ W w a h hs) fun e a' w' hp => ?_)
    obtain ⟨e', st', ρ', h1, h2, h3, h4⟩ := hp
    cases e' with
    | normal =>
      cases e <;> try exact h1.elim
      exact ⟨.normal, st', ρ', trivial, h2, h3, h4⟩
    | exit i =>
      cases e <;> try exact h1.elim
      rename_i j
      have h1' : i = j := h1
      subst h1'
      simp only [Exit.inBlock]
      simp only at h4
      by_cases hid : i = id
      · rw [if_pos hid] at h4 ⊢; exact ⟨.normal, st', ρ', trivial, h2, h3, h4⟩
      · rw [if_neg hid] at h4 ⊢; exact ⟨.exit i, st', ρ', rfl, h2, h3, h4⟩
    | ret =>
      cases e <;> try exact h1.elim
      exact ⟨.ret, st', ρ', h1, h2, h3, h4⟩
  | loop b ih =>
    intro hL st Q ρ W w a h hs
    simp only [codeA] at h
    split at h
    · rename_i lc hlc
      exact hL b (by simp [Code.loops]) lc hlc st Q ρ W w a h hs
    · intro bf k cs
      obtain ⟨e, a', w', h1, h2⟩ := hr b st Q ρ W w a h hs bf k cs
      exact ⟨e, a', w', h1, .of_steps (.one step_loop) h2⟩
  | exit id => intro hL st Q ρ W w a h hs; exact wp_exit ⟨.exit id, st, ρ, rfl, Ext.refl ρ, hs, h⟩
  | ret => intro hL st Q ρ W w a h hs; exact wp_ret ⟨.ret, st, ρ, trivial, Ext.refl ρ, hs, h⟩
  | region id ops draw =>
    intro hL st Q ρ W w a h hs
    exact regionA_ok hm hT hI hs h fun ρ' st' a' w' he hs' hq => ⟨.normal, st', ρ', trivial, he, hs', hq⟩
  | _ => intro hL st Q ρ W w a h hs; exact no_elim h
theorem codeA_ok0 (hm : P.follows .mixedOrders = true) (hT : TabOk P T) {lp : Code → St → (Ex → St → Prop) → Prop} (hr : LoopsOk P lp) {inl : Inl Prop} (hI : InlOk P inl) : RecOk P (codeA PA P T noLoops lp inl) :=
  fun c => codeA_ok hm hT hr hI c fun _ _ _ h => by cases h
theorem loopsA_ok (hm : P.follows .mixedOrders = true) (hT : TabOk P T) {lp : Code → St → (Ex → St → Prop) → Prop} (hr : LoopsOk P lp) {inl : Inl Prop} (hI : InlOk P inl) :
    LoopsOk P fun b st Q => codeA PA P T noLoops lp inl b st fun e st' => match e with | .normal => lp b st' Q | e => Q e st' := by
  intro b st Q ρ W w a h hs bf k cs
  obtain ⟨e, a1, w1, hp, harr⟩ := codeA_ok0 hm hT hr hI b _ _ ρ W w a h hs bf (.inLoop b :: k) cs
  obtain ⟨e', st', ρ', g1, g2, g3, g4⟩ := hp
  cases e' with
  | normal =>
    cases e <;> try exact g1.elim
    obtain ⟨e2, a2, w2, hp2, harr2⟩ := hr b st' Q ρ' W w1 a1 g4 g3 bf k cs
    exact ⟨e2, a2, w2, hp2.ext g2, .of_steps (Steps.trans harr (.one step_inLoop)) harr2⟩
  | exit i =>
    cases e <;> try exact g1.elim
    exact ⟨_, a1, w1, ⟨.exit i, st', ρ', g1, g2, g3, g4⟩, .pass (x := .inLoop b) rfl (fun _ _ => .inl (by simp)) harr⟩
  | ret =>
    cases e <;> try exact g1.elim
    exact ⟨_, a1, w1, ⟨.ret, st', ρ', g1, g2, g3, g4⟩, .pass (x := .inLoop b) rfl (fun _ _ => .inl (by simp)) harr⟩
theorem entry_ok {fn : Func} {args : List AV} {A : List Value} (h : RL ρ W args A) : TR ρ W (entryT fn args) (A.toArray ++ Array.replicate (fn.ntmps - A.toArray.size) undef) := by
  have hl := h.length
  refine ⟨by simp [entryT, hl], fun i v hv => ?_⟩
  simp only [entryT] at hv
  rw [List.getElem?_append] at hv
  split at hv
  · simp only [List.getElem?_map, Option.map_eq_some_iff] at hv
    obtain ⟨u, h1, h2⟩ := hv
    simp at h2; subst h2
    obtain ⟨V, g1, g2⟩ := h.get i u h1
    refine ⟨V, ?_, g2⟩
    rw [Array.getElem?_append_left (by rename_i hlt; simp at hlt; simp; omega)]
    simpa using g1
  · simp [List.getElem?_replicate] at hv
def resSem (tmps : Array Value) : ResultVar → Sem Value
  | .tmp t => pure (tmps.getD t undef)
  | .cell a t => do loadVar t (← asAddr (tmps.getD a undef))
theorem results_eq (fn : Func) (tmps : Array Value) : results fn tmps = (do let vs ← fn.results.mapM (resSem tmps); pure (if h : vs.size = 1 then vs[0] else .tuple vs)) := by
  unfold results
  congr 1
theorem res_ok {st : St} {a : Act} (hs : RelS ρ W st a w) : ∀ (l : List ResultVar) (r : List AV), resA P st l = some r → ∃ R, (l.mapM (resSem a.tmps)).run P w = .ok R w ∧ RL ρ W r R
  | [], r, hq => by simp [resA] at hq; subst hq; exact ⟨[], by simp, .nil⟩
  | .tmp t :: l, r, hq => by
    simp only [resA] at hq
    split at hq
    · rename_i v vs h1 h2
      simp at hq; subst hq
      obtain ⟨R, g1, g2⟩ := res_ok hs l vs h2
      have hv := hs.ev0 (.tmp t) v h1
      exact ⟨_ :: R, by simp [List.mapM_cons, g1, resSem, Act.eval], .cons hv g2⟩
    · cases hq
  | .cell c t :: l, r, hq => by
    simp only [resA] at hq
    split at hq
    · rename_i m i s j vs h1 h2
      split at hq
      · rename_i v hl
        simp at hq; subst hq
        obtain ⟨R, g1, g2⟩ := res_ok hs l vs h2
        have hv := hs.ev0 (.tmp c) _ h1
        obtain ⟨V, g3, g4⟩ := loadA_ok (P := P) hs.h (rdFlat_ok st.h) hv hl
        refine ⟨V :: R, ?_, .cons g4 g2⟩
        generalize hC : a.eval (.tmp c) = C at hv
        cases hv with | ptr i s j hp =>
        simp only [Act.eval] at hC
        simp only [Instr.loadAt, Instr.sureAddr, Sem.run_bind, Sem.run_pure, Result.andThen_ok, hC, Act.eval] at g3
        simp [List.mapM_cons, resSem, g1, hC, asAddr, g3]
      · cases hq
    · cases hq
theorem resV_ok {r : List AV} {R : List Value} (h : RL ρ W r R) : RV ρ W (resV r) (if hh : R.toArray.size = 1 then R.toArray[0] else .tuple R.toArray) := by
  cases h with
  | nil => simp; exact .tup .nil
  | cons h t =>
    cases t with
    | nil => simpa [resV] using h
    | cons h2 t2 => simp [resV]; exact .tup (.cons h (.cons h2 t2))
theorem body_ok {LT : LTab Prop} {lp : Code → St → (Ex → St → Prop) → Prop} {inl : Inl Prop} {g : FuncId} {fn : Func} (hf : P.funcs[g]? = some fn)
    (hc : ∀ c, fn.body = some c → ∀ (st : St) (Q : Ex → St → Prop) (ρ : Names) (W w : World) (a : Act), codeA PA P T LT lp inl c st Q → RelS ρ W st a w → c.wp P (Post ρ W Q) a w)
    {args : List AV} {A : List Value} {h : Heap} {K : AV → Heap → Prop} (hA : RL ρ W args A) (hR : Rel ρ W h w) (hq : bodyA PA P T LT lp inl fn args h K) :
    Calls P g A.toArray w fun e w' => ∃ V, e = .returned V ∧ ∃ ρ' v h', Ext ρ ρ' ∧ RV ρ' W v V ∧ Rel ρ' W h' w' ∧ K v h' := by
  unfold bodyA at hq
  split at hq
  case h_2 => exact no_elim hq
  rename_i c hb
  rw [fl_eq, fst_eq] at hq
  refine calls_of_wp hf hb (wp_mono (hc c hb _ _ ρ W w _ hq ⟨entry_ok hA, hR, rfl⟩) fun e a' w' hp => ?_)
  obtain ⟨e', st', ρ', g1, g2, g3, g4⟩ := hp
  have fin : (match resA P st' fn.results.toList with | some l => fl PA l fun l => K (resV l) st'.h | none => False) → (a'.defers = [] ∧ ∃ v, (results fn a'.tmps).run P w' = .ok v w' ∧ ∃ V, Ending.returned v = .returned V ∧ ∃ ρ2 v2 h', Ext ρ ρ2 ∧ RV ρ2 W v2 V ∧ Rel ρ2 W h' w' ∧ K v2 h') := fun hk => by
    split at hk
    · rename_i l hl
      rw [fl_eq] at hk
      obtain ⟨R, r1, r2⟩ := res_ok (P := P) g3 _ _ hl
      refine ⟨g3.d, _, ?_, _, rfl, ρ', _, st'.h, g2, resV_ok r2, g3.h, hk⟩
      rw [results_eq, Sem.run_bind, Array.mapM_eq_mapM_toList, Sem.run_map, r1]
      rfl
    · exact no_elim hk
  cases e' with
  | normal =>
    cases e <;> try exact g1.elim
    exact fin g4
  | ret =>
    cases e <;> try exact g1.elim
    exact fin g4
  | exit i => exact no_elim g4
theorem callFunc_enter {g : FuncId} {fn : Func} (hf : P.funcs[g]? = some fn) (hb : fn.body.isSome = true) (hn : (fn.name == "runtime.NumGoroutine") = false) (A : Array Value) (w : World) : (callFunc g A).run P w = .ok (.enter g A) w := by
  have h1 : fn.name ≠ "runtime.NumGoroutine" := by simpa using hn
  have h2 : fn.body ≠ none := by cases h : fn.body <;> simp_all
  simp [callFunc, hf, h1, h2]
theorem bodyA_some {LT : LTab Prop} {rec : Code → St → (Ex → St → Prop) → Prop} {inl : Inl Prop} {fn : Func} {args : List AV} {h : Heap} {K : AV → Heap → Prop} (hq : bodyA PA P T LT rec inl fn args h K) : fn.body.isSome = true := by
  unfold bodyA at hq
  split at hq
  · rename_i hb; simp [hb]
  · exact no_elim hq
theorem all_ok (hm : P.follows .mixedOrders = true) (hT : TabOk P T) : ∀ n, LoopsOk P (alp PA P T n) ∧ InlOk P (ainl PA P T n)
  | 0 => ⟨fun _ _ _ _ _ _ _ h => no_elim h, fun _ _ _ _ _ _ h => no_elim h⟩
  | n + 1 => by
    obtain ⟨h1, h2⟩ := all_ok hm hT n
    refine ⟨loopsA_ok hm hT h1 h2, ?_⟩
    intro o c hc e h Kx hq ρ W w a hR he K Q hK
    simp only [ainl] at hq
    split at hq
    case h_2 => exact no_elim hq
    rename_i g args hta
    split at hq
    case h_2 => exact no_elim hq
    rename_i fn hf
    split at hq
    case isTrue => exact no_elim hq
    rename_i hn
    obtain ⟨A, hA, hrun⟩ := target_ok (P := P) he hta o.type
    have hcalls := body_ok hf (fun c _ => codeA_ok0 hm hT h1 h2 c) hA hR hq
    refine wp_gives (R := fun V w' => ∃ ρ' v h', Ext ρ ρ' ∧ RV ρ' W v V ∧ Rel ρ' W h' w' ∧ Kx v h') (.inl ⟨callFunc_enter hf (bodyA_some hq) (by simpa using hn) _ _, hcalls.mono fun e w' he => ?_⟩) (by simp only [execOp, hc]; exact hrun w) fun V w' hVw => ?_
    · exact he
    · obtain ⟨ρ', v, h', g1, g2, g3, g4⟩ := hVw
      exact hK ρ' V w' v h' g1 g2 g3 g4
/-- The contracts of a function's loops. -/
def LtOk (P : Program) (g : FuncId) (LT : LTab Prop) : Prop := ∀ fn c, P.funcs[g]? = some fn → fn.body = some c → ∀ b ∈ Code.loops c, ∀ lc, LT (Code.first b) = some lc → LcOk P b lc
theorem ltOk_none (P : Program) (g : FuncId) : LtOk P g noLoops := fun _ _ _ _ _ _ _ h => by cases h
/-- **A function's contract**: what its body comes to from an empty heap of its own. -/
theorem afn_ok (hm : P.follows .mixedOrders = true) (hT : TabOk P T) {n : Nat} {g : FuncId} {LT : LTab Prop} (hLT : LtOk P g LT) {args : List AV} {K : AV → Heap → Prop} (hq : afn PA P T LT n g args K) {A : List Value} {w : World} (hA : RL noNames w args A) :
    Calls P g A.toArray w fun e w' => ∃ V, e = .returned V ∧ ∃ ρ' v h', RV ρ' w v V ∧ Rel ρ' w h' w' ∧ K v h' := by
  unfold afn at hq
  split at hq
  case h_2 => exact no_elim hq
  rename_i fn hf
  obtain ⟨h1, h2⟩ := all_ok (P := P) (T := T) hm hT n
  refine (body_ok hf (fun c hc => codeA_ok hm hT h1 h2 c (hLT fn c hf hc)) hA (Rel.start w) hq).mono fun e w' he => ?_
  obtain ⟨V, g1, ρ', v, h', g2, g3, g4, g5⟩ := he
  exact ⟨V, g1, ρ', v, h', g3, g4, g5⟩
end Go.Proofs.Ytgjbdojpncmmlaa.A
namespace Go.Proofs.Ytgjbdojpncmmlaa.A
open Go Go.RowKit
set_option linter.unusedVariables false
set_option linter.unusedSimpArgs false
variable {ρ : Names} {W w : World}
theorem rl_nil {L : List Value} : RL ρ W [] L ↔ L = [] := ⟨fun h => by cases h; rfl, fun h => by subst h; exact .nil⟩
theorem rl_cons {v : AV} {l : List AV} {L : List Value} : RL ρ W (v :: l) L ↔ ∃ V L', L = V :: L' ∧ RV ρ W v V ∧ RL ρ W l L' :=
  ⟨fun h => by cases h with | cons h t => exact ⟨_, _, rfl, h, t⟩, fun ⟨_, _, e, h, t⟩ => by subst e; exact .cons h t⟩
theorem rv_int {k : IntKind} {n : Int} {V : Value} : RV ρ W (.int k n) V ↔ V = .int k n := ⟨fun h => by cases h; rfl, fun h => by subst h; exact .int _ _⟩
theorem rv_bool {b : Bool} {V : Value} : RV ρ W (.bool b) V ↔ V = .bool b := ⟨fun h => by cases h; rfl, fun h => by subst h; exact .bool _⟩
theorem rv_str {s : ByteArray} {V : Value} : RV ρ W (.str s) V ↔ V = .string s := ⟨fun h => by cases h; rfl, fun h => by subst h; exact .str _⟩
theorem rv_agg {l : List AV} {V : Value} : RV ρ W (.agg l) V ↔ ∃ L, V = .agg L.toArray ∧ RL ρ W l L := ⟨fun h => by cases h with | agg h => exact ⟨_, rfl, h⟩, fun ⟨_, e, h⟩ => by subst e; exact .agg h⟩
theorem rv_tup {l : List AV} {V : Value} : RV ρ W (.tup l) V ↔ ∃ L, V = .tuple L.toArray ∧ RL ρ W l L := ⟨fun h => by cases h with | tup h => exact ⟨_, rfl, h⟩, fun ⟨_, e, h⟩ => by subst e; exact .tup h⟩
theorem rv_fn {f : Fn} {V : Value} : RV ρ W (.fn f [] []) V ↔ V = .func f #[] #[] := ⟨fun h => by cases h with | fn f ha hb => cases ha; cases hb; rfl, fun h => by subst h; exact .fn f .nil .nil⟩
theorem brc_iff {b : Bool} {A B : Prop} : brc b A B ↔ (b = true → A) ∧ (b = false → B) := by cases b <;> simp [brc]
theorem ite_some_iff {α : Type} {c : Prop} [Decidable c] {a b : Option α} {r : α} : (if c then a else b) = some r ↔ (c ∧ a = some r) ∨ (¬ c ∧ b = some r) := by split <;> simp_all
noncomputable def gd {α : Type} [Inhabited α] (o : Option α) : α := o.getD default
theorem gd_some {α : Type} [Inhabited α] (a : α) : gd (some a) = a := rfl
theorem wrap_i64 (x : Int) : IntKind.i64.wrap x = wrap64 x := by rw [IntKind.wrap_i64]; unfold wrap64; rfl
theorem mixed : Try.prog.follows .mixedOrders = true := by kernel_rfl
/-- Contracts, by a list. -/
def tab : List (FuncId × Con) → Tab
  | [], _ => none
  | (g, c) :: r, f => if f = g then some c else tab r f
theorem tab_nil {P : Program} : TabOk P (tab []) := fun _ _ h => by cases h
theorem tab_cons {P : Program} {g : FuncId} {c : Con} {r : List (FuncId × Con)} (h : COk P g c) (t : TabOk P (tab r)) : TabOk P (tab ((g, c) :: r)) := fun f con hq => by
  simp only [tab] at hq
  split at hq
  · rename_i e; subst e; simp at hq; subst hq; exact h
  · exact t f con hq
/-- A printed function's proof as a contract's at one place. -/
theorem gives_of_calls {g : FuncId} {fn : Func} (hf : Try.prog.funcs[g]? = some fn) (hb : fn.body.isSome = true) (hn : (fn.name == "runtime.NumGoroutine") = false) {A : List Value} {v : AV} {V : Value} {R : World → World → Prop}
    (h : Calls Try.prog g A.toArray w fun e w' => e = .returned V ∧ R w w') (hV : ∀ w', RV noNames w' v V) (hR : ∀ w', R w w' → Below w.heap.size w w') : Gives Try.prog g A.toArray w fun V w' => RV noNames w' v V ∧ Below w.heap.size w w' :=
  .inl ⟨callFunc_enter hf hb hn _ _, h.mono fun e w' he => ⟨V, he.1, hV w', hR w' he.2⟩⟩
theorem gives_of_run {g : FuncId} {A : List Value} {v : AV} {V : Value} (h : (callFunc g A.toArray).run Try.prog w = .ok (.value V) w) (hV : ∀ w', RV noNames w' v V) : Gives Try.prog g A.toArray w fun V w' => RV noNames w' v V ∧ Below w.heap.size w w' :=
  .inr ⟨V, h, hV w, Below.refl _ _⟩
theorem calls_of_vc {T : Tab} (hT : TabOk Try.prog T) {n : Nat} {g : FuncId} {args : List AV} {v : AV} {V : Value} {A : List Value} (hq : afv PA Try.prog T noLoops n g args fun u => u = v) (hA : RL noNames w args A) (hV : ∀ ρ V', RV ρ w v V' → V' = V) :
    Calls Try.prog g A.toArray w fun e w' => e = .returned V ∧ Below w.heap.size w w' :=
  (afn_ok mixed hT (ltOk_none _ _) hq hA).mono fun e w' ⟨V', e1, ρ', u, h', g2, g3, g4⟩ => by subst g4; subst e1; exact ⟨by rw [hV ρ' V' g2], g3.bel⟩
end Go.Proofs.Ytgjbdojpncmmlaa.A
namespace Go.Proofs.Ytgjbdojpncmmlaa.P
open Go.RowKit Go.Proofs.YtgjbdojpncmmlaaW.PrintWords Go.Proofs.YtgjbdojpncmmlaaW.PrintLast Go.Proofs.YtgjbdojpncmmlaaW.PrintMore
attribute [local go_sem] max2_int min2_int max_two min_two max_three min_three max_four min_four   -- for this text's walks alone
set_option linter.unusedVariables false
set_option linter.unusedSimpArgs false
def errW : Option Int → Value
  | none => .nilIface
  | some c => .iface 0 (.int .i64 c)
theorem errW_none : errW none = .nilIface := rfl
theorem errW_some (c : Int) : errW (some c) = .iface 0 (.int .i64 c) := rfl
theorem setCell_drewN_ (w : World) (n : Nat) (a : Addr) (v : Value) : (w.drewN n).setCell a v = (w.setCell a v).drewN n := rfl
theorem info3 : (Try.prog.info? 3).map (fun i => (i.zero, i.size, i.bytes)) = some (some (.int .i64 0), 1, 8) := by kernel_rfl
theorem info75 : (Try.prog.info? 75).map (fun i => (i.zero, i.size, i.bytes)) = some (some (.int .u64 0), 1, 8) := by kernel_rfl
-- the values' own types
end Go.Proofs.Ytgjbdojpncmmlaa.P
namespace Go.Proofs.Ytgjbdojpncmmlaa.P
open Go.RowKit Go.Proofs.YtgjbdojpncmmlaaW.PrintWords Go.Proofs.YtgjbdojpncmmlaaW.PrintLast Go.Proofs.YtgjbdojpncmmlaaW.PrintMore
attribute [local go_sem] max2_int min2_int max_two min_two max_three min_three max_four min_four   -- for this text's walks alone
set_option linter.unusedVariables false
set_option linter.unusedSimpArgs false
theorem eqA23 (d : Nat) (w : World) (x0 y0 : Int) (x1 y1 : Int) :
    (Op.equalIn (d + 2) 23 (.agg #[.int .i64 x0, .int .i64 x1]) (.agg #[.int .i64 y0, .int .i64 y1])).run Try.prog w = .ok (x0 == y0 && (x1 == y1)) w := by
  refine eqA_of Try.underlying23 (by kernel_rfl) ?_
  refine eqf_cons (by rfl) (by go_simp; rfl) (by go_simp; rfl) (by go_simp) ?_
  exact eqf_last (by rfl) (by go_simp; rfl) (by go_simp; rfl) (by go_simp)
end Go.Proofs.Ytgjbdojpncmmlaa.P
namespace Go.Proofs.Ytgjbdojpncmmlaa.P
open Go.RowKit Go.Proofs.YtgjbdojpncmmlaaW.PrintWords Go.Proofs.YtgjbdojpncmmlaaW.PrintLast Go.Proofs.YtgjbdojpncmmlaaW.PrintMore
attribute [local go_sem] max2_int min2_int max_two min_two max_three min_three max_four min_four   -- for this text's walks alone
set_option linter.unusedVariables false
set_option linter.unusedSimpArgs false
theorem eqA33 (d : Nat) (w : World) (x0 y0 : Int) (x1 y1 : Int) :
    (Op.equalIn (d + 2) 33 (.agg #[.int .i64 x0, .int .i64 x1]) (.agg #[.int .i64 y0, .int .i64 y1])).run Try.prog w = .ok (x0 == y0 && (x1 == y1)) w := by
  refine eqA_of Try.underlying33 (by kernel_rfl) ?_
  refine eqf_cons (by rfl) (by go_simp; rfl) (by go_simp; rfl) (by go_simp) ?_
  exact eqf_last (by rfl) (by go_simp; rfl) (by go_simp; rfl) (by go_simp)
end Go.Proofs.Ytgjbdojpncmmlaa.P
namespace Go.Proofs.Ytgjbdojpncmmlaa.P
open Go.RowKit Go.Proofs.YtgjbdojpncmmlaaW.PrintWords Go.Proofs.YtgjbdojpncmmlaaW.PrintLast Go.Proofs.YtgjbdojpncmmlaaW.PrintMore
open Go.Proofs.Ytgjbdojpncmmlaa.A
attribute [local go_sem] max2_int min2_int max_two min_two max_three min_three max_four min_four   -- for this text's walks alone
set_option linter.unusedVariables false
set_option linter.unusedSimpArgs false
def civil_floor.f (a0 : Int) (a1 : Int) : Option (Int × Int) := if a1 = 0 then (none) else (if (Int.tmod a0 a1) < 0 then (some (wrap64 ((wrap64 (Int.tdiv a0 a1)) - 1), wrap64 ((Int.tmod a0 a1) + a1))) else (some (wrap64 (Int.tdiv a0 a1), Int.tmod a0 a1)))
set_option maxHeartbeats 8000000 in
set_option maxRecDepth 100000 in
theorem civil_floor.calls (a0 : Int) (a1 : Int) (r1 : Int) (r2 : Int) (w : World) (h : civil_floor.f a0 a1 = some (r1, r2)) :
    Calls Try.prog 72 #[.int .i64 a0, .int .i64 a1] w fun e w' => e = .returned (.tuple #[.int .i64 r1, .int .i64 r2]) ∧ Drawn0 w w' := by
  have H : (if a1 = 0 then (none) else (if (Int.tmod a0 a1) < 0 then (some (wrap64 ((wrap64 (Int.tdiv a0 a1)) - 1), wrap64 ((Int.tmod a0 a1) + a1))) else (some (wrap64 (Int.tdiv a0 a1), Int.tmod a0 a1)))) = some (r1, r2) := h
  clear h
  by_cases c3 : a1 = 0
  · rw [if_pos c3] at H
    exact absurd H (by simp)
  · rw [if_neg c3] at H
    have c3b0 : (a1 == 0) = false := beq_eq_false_iff_ne.mpr c3
    have c3b1 : (a1 != 0) = true := bne_iff_ne.mpr c3
    by_cases c4 : (Int.tmod a0 a1) < 0
    · rw [if_pos c4] at H
      have c4b0 : decide ((Int.tmod a0 a1) < 0) = true := decide_eq_true c4
      clear c4
      simp only [Option.some.injEq, Prod.mk.injEq] at H
      obtain ⟨rfl, rfl⟩ := H
      go_enter Try.func72, Try.ntmps72
      go_wp2
      repeat (go_quiet (fail); try go_wp2)
      go_ret2
      exact ⟨by first | rfl | (simp; done) | (simp [*]; done), by repeat (first | exact Drawn0.refl _ | apply Drawn0.step)⟩
    · rw [if_neg c4] at H
      have c4b0 : decide ((Int.tmod a0 a1) < 0) = false := decide_eq_false c4
      clear c4
      simp only [Option.some.injEq, Prod.mk.injEq] at H
      obtain ⟨rfl, rfl⟩ := H
      go_enter Try.func72, Try.ntmps72
      go_wp2
      repeat (go_quiet (fail); try go_wp2)
      go_ret2
      exact ⟨by first | rfl | (simp; done) | (simp [*]; done), by repeat (first | exact Drawn0.refl _ | apply Drawn0.step)⟩
def civil_day.f (a0 : Int) (a1 : Int) (a2 : Int) : Option (Int) := if a1 ≤ 2 then ((civil_floor.f (wrap64 (a0 - 1)) 400).bind fun bt101 => (some (wrap64 ((wrap64 ((wrap64 ((wrap64 ((wrap64 ((wrap64 ((wrap64 ((wrap64 (bt101.1 * 146097)) + (wrap64 (bt101.2 * 365)))) + (wrap64 (Int.tdiv bt101.2 4)))) - (wrap64 (Int.tdiv bt101.2 100)))) + (wrap64 (Int.tdiv (wrap64 ((wrap64 (153 * (wrap64 ((wrap64 (a1 + 12)) - 3)))) + 2)) 5)))) + a2)) - 1)) - 730425)))) else ((civil_floor.f a0 400).bind fun bt103 => (some (wrap64 ((wrap64 ((wrap64 ((wrap64 ((wrap64 ((wrap64 ((wrap64 ((wrap64 (bt103.1 * 146097)) + (wrap64 (bt103.2 * 365)))) + (wrap64 (Int.tdiv bt103.2 4)))) - (wrap64 (Int.tdiv bt103.2 100)))) + (wrap64 (Int.tdiv (wrap64 ((wrap64 (153 * (wrap64 (a1 - 3)))) + 2)) 5)))) + a2)) - 1)) - 730425))))
set_option maxHeartbeats 8000000 in
set_option maxRecDepth 100000 in
theorem civil_day.calls (a0 : Int) (a1 : Int) (a2 : Int) (r : Int) (w : World) (h : civil_day.f a0 a1 a2 = some r) :
    Calls Try.prog 55 #[.int .i64 a0, .int .i64 a1, .int .i64 a2] w fun e w' => e = .returned (.int .i64 r) ∧ Drawn0 w w' := by
  have H : (if a1 ≤ 2 then ((civil_floor.f (wrap64 (a0 - 1)) 400).bind fun bt101 => (some (wrap64 ((wrap64 ((wrap64 ((wrap64 ((wrap64 ((wrap64 ((wrap64 ((wrap64 (bt101.1 * 146097)) + (wrap64 (bt101.2 * 365)))) + (wrap64 (Int.tdiv bt101.2 4)))) - (wrap64 (Int.tdiv bt101.2 100)))) + (wrap64 (Int.tdiv (wrap64 ((wrap64 (153 * (wrap64 ((wrap64 (a1 + 12)) - 3)))) + 2)) 5)))) + a2)) - 1)) - 730425)))) else ((civil_floor.f a0 400).bind fun bt103 => (some (wrap64 ((wrap64 ((wrap64 ((wrap64 ((wrap64 ((wrap64 ((wrap64 ((wrap64 (bt103.1 * 146097)) + (wrap64 (bt103.2 * 365)))) + (wrap64 (Int.tdiv bt103.2 4)))) - (wrap64 (Int.tdiv bt103.2 100)))) + (wrap64 (Int.tdiv (wrap64 ((wrap64 (153 * (wrap64 (a1 - 3)))) + 2)) 5)))) + a2)) - 1)) - 730425))))) = some r := h
  clear h
  by_cases c4 : a1 ≤ 2
  · rw [if_pos c4] at H
    have c4b0 : decide (a1 ≤ 2) = true := decide_eq_true c4
    clear c4
    replace H := Option.bind_eq_some_iff.mp H
    obtain ⟨⟨t101, t102⟩, A50, H⟩ := H
    replace H : (some (wrap64 ((wrap64 ((wrap64 ((wrap64 ((wrap64 ((wrap64 ((wrap64 ((wrap64 (t101 * 146097)) + (wrap64 (t102 * 365)))) + (wrap64 (Int.tdiv t102 4)))) - (wrap64 (Int.tdiv t102 100)))) + (wrap64 (Int.tdiv (wrap64 ((wrap64 (153 * (wrap64 ((wrap64 (a1 + 12)) - 3)))) + 2)) 5)))) + a2)) - 1)) - 730425))) = some r := H
    have A5 := Aside0.mk A50
    clear A50
    obtain rfl := Option.some.inj H
    go_enter Try.func55, Try.ntmps55
    go_wp2_with (first | ((with_reducible refine kL (f := 72) rfl ?_); refine goesL_ (some 17) rfl rfl Try.func72 (by kernel_rfl) rfl #[.int .i64 (wrap64 (a0 - 1)), .int .i64 400] rfl (by (try simp only [List.map_toArray, List.map_cons, List.map_nil]); first | done | rfl | (simp only [List.length_drop, List.length_take]; rfl)) ?_; (with_reducible refine (civil_floor.calls (wrap64 (a0 - 1)) 400 t101 t102 _ A5.out).mono ?_); rintro e w' ⟨rfl, ⟨nd, rfl⟩⟩; refine ⟨_, rfl, ?_⟩))
    go_ret
    exact ⟨by first | rfl | (simp; done) | (simp [*]; done), by repeat (first | exact Drawn0.refl _ | apply Drawn0.step)⟩
  · rw [if_neg c4] at H
    have c4b0 : decide (a1 ≤ 2) = false := decide_eq_false c4
    clear c4
    replace H := Option.bind_eq_some_iff.mp H
    obtain ⟨⟨t103, t104⟩, A60, H⟩ := H
    replace H : (some (wrap64 ((wrap64 ((wrap64 ((wrap64 ((wrap64 ((wrap64 ((wrap64 ((wrap64 (t103 * 146097)) + (wrap64 (t104 * 365)))) + (wrap64 (Int.tdiv t104 4)))) - (wrap64 (Int.tdiv t104 100)))) + (wrap64 (Int.tdiv (wrap64 ((wrap64 (153 * (wrap64 (a1 - 3)))) + 2)) 5)))) + a2)) - 1)) - 730425))) = some r := H
    have A6 := Aside0.mk A60
    clear A60
    obtain rfl := Option.some.inj H
    go_enter Try.func55, Try.ntmps55
    go_wp2_with (first | ((with_reducible refine kL (f := 72) rfl ?_); refine goesL_ (some 17) rfl rfl Try.func72 (by kernel_rfl) rfl #[.int .i64 a0, .int .i64 400] rfl (by (try simp only [List.map_toArray, List.map_cons, List.map_nil]); first | done | rfl | (simp only [List.length_drop, List.length_take]; rfl)) ?_; (with_reducible refine (civil_floor.calls a0 400 t103 t104 _ A6.out).mono ?_); rintro e w' ⟨rfl, ⟨nd, rfl⟩⟩; refine ⟨_, rfl, ?_⟩))
    go_ret
    exact ⟨by first | rfl | (simp; done) | (simp [*]; done), by repeat (first | exact Drawn0.refl _ | apply Drawn0.step)⟩
noncomputable def civil_day.con : Con
  | [.int .i64 a0, .int .i64 a1, .int .i64 a2] => some ((civil_day.f a0 a1 a2).isSome, .int .i64 (gd (civil_day.f a0 a1 a2)))
  | _ => none
set_option maxRecDepth 100000 in
theorem civil_day.cok : COk Try.prog 55 (civil_day.con) := by
  intro args p v hc hp w A hA
  unfold civil_day.con at hc
  split at hc
  · rename_i a0 a1 a2
    simp only [Option.some.injEq, Prod.mk.injEq] at hc
    obtain ⟨rfl, rfl⟩ := hc
    rcases hf : civil_day.f a0 a1 a2 with _ | r
    · rw [hf] at hp; cases hp
    obtain rfl : A = [.int .i64 a0, .int .i64 a1, .int .i64 a2] := by simpa [rl_cons, rl_nil, rv_int, rv_bool, rv_str, rv_agg, rv_fn] using hA
    exact gives_of_calls (fn := Try.f55) Try.func55 (by kernel_rfl) (by kernel_rfl) (civil_day.calls _ _ _ _ w hf) (fun _ => by simp [gd_some, rl_cons, rl_nil, rv_int, rv_bool, rv_str, rv_agg, rv_tup]) (fun _ h => h.below)
  · cases hc
def civil_First.f  : Option (Int) := (civil_day.f (-4718) 1 1).bind fun t105 => (some t105)
set_option maxHeartbeats 8000000 in
set_option maxRecDepth 100000 in
theorem civil_First.calls  (r : Int) (w : World) (h : civil_First.f  = some r) :
    Calls Try.prog 79 #[] w fun e w' => e = .returned (.int .i64 r) ∧ Drawn0 w w' := by
  have H : ((civil_day.f (-4718) 1 1).bind fun t105 => (some t105)) = some r := h
  clear h
  replace H := Option.bind_eq_some_iff.mp H
  obtain ⟨t105, A10, H⟩ := H
  replace H : (some t105) = some r := H
  have A1 := Aside0.mk A10
  clear A10
  obtain rfl := Option.some.inj H
  go_enter Try.func79, Try.ntmps79
  go_wp2_with (first | ((with_reducible refine kL (f := 55) rfl ?_); refine goesL_ (some 1) rfl rfl Try.func55 (by kernel_rfl) rfl #[.int .i64 (-4718), .int .i64 1, .int .i64 1] rfl (by (try simp only [List.map_toArray, List.map_cons, List.map_nil]); first | done | rfl | (simp only [List.length_drop, List.length_take]; rfl)) ?_; (with_reducible refine (civil_day.calls (-4718) 1 1 t105 _ A1.out).mono ?_); rintro e w' ⟨rfl, ⟨nd, rfl⟩⟩; refine ⟨_, rfl, ?_⟩))
  go_ret
  exact ⟨by first | rfl | (simp; done) | (simp [*]; done), by repeat (first | exact Drawn0.refl _ | apply Drawn0.step)⟩
def civil_Last.f  : Option (Int) := (civil_day.f 294282 12 31).bind fun t106 => (some t106)
set_option maxHeartbeats 8000000 in
set_option maxRecDepth 100000 in
theorem civil_Last.calls  (r : Int) (w : World) (h : civil_Last.f  = some r) :
    Calls Try.prog 80 #[] w fun e w' => e = .returned (.int .i64 r) ∧ Drawn0 w w' := by
  have H : ((civil_day.f 294282 12 31).bind fun t106 => (some t106)) = some r := h
  clear h
  replace H := Option.bind_eq_some_iff.mp H
  obtain ⟨t106, A10, H⟩ := H
  replace H : (some t106) = some r := H
  have A1 := Aside0.mk A10
  clear A10
  obtain rfl := Option.some.inj H
  go_enter Try.func80, Try.ntmps80
  go_wp2_with (first | ((with_reducible refine kL (f := 55) rfl ?_); refine goesL_ (some 1) rfl rfl Try.func55 (by kernel_rfl) rfl #[.int .i64 294282, .int .i64 12, .int .i64 31] rfl (by (try simp only [List.map_toArray, List.map_cons, List.map_nil]); first | done | rfl | (simp only [List.length_drop, List.length_take]; rfl)) ?_; (with_reducible refine (civil_day.calls 294282 12 31 t106 _ A1.out).mono ?_); rintro e w' ⟨rfl, ⟨nd, rfl⟩⟩; refine ⟨_, rfl, ?_⟩))
  go_ret
  exact ⟨by first | rfl | (simp; done) | (simp [*]; done), by repeat (first | exact Drawn0.refl _ | apply Drawn0.step)⟩
def civil_can.f (a0 : Int) : Option (Bool) := (civil_First.f).bind fun t107 => (if a0 ≥ t107 then ((civil_Last.f).bind fun t108 => (some (decide (a0 ≤ t108)))) else (some false))
set_option maxHeartbeats 8000000 in
set_option maxRecDepth 100000 in
theorem civil_can.calls (a0 : Int) (r : Bool) (w : World) (h : civil_can.f a0 = some r) :
    Calls Try.prog 58 #[.int .i64 a0] w fun e w' => e = .returned (.bool r) ∧ Drawn0 w w' := by
  have H : ((civil_First.f).bind fun t107 => (if a0 ≥ t107 then ((civil_Last.f).bind fun t108 => (some (decide (a0 ≤ t108)))) else (some false))) = some r := h
  clear h
  replace H := Option.bind_eq_some_iff.mp H
  obtain ⟨t107, A20, H⟩ := H
  replace H : (if a0 ≥ t107 then ((civil_Last.f).bind fun t108 => (some (decide (a0 ≤ t108)))) else (some false)) = some r := H
  have A2 := Aside0.mk A20
  clear A20
  by_cases c3 : a0 ≥ t107
  · rw [if_pos c3] at H
    have c3b0 : decide (t107 ≤ a0) = true := decide_eq_true c3
    clear c3
    replace H := Option.bind_eq_some_iff.mp H
    obtain ⟨t108, A40, H⟩ := H
    replace H : (some (decide (a0 ≤ t108))) = some r := H
    have A4 := Aside0.mk A40
    clear A40
    obtain rfl := Option.some.inj H
    go_enter Try.func58, Try.ntmps58
    go_wp2_with (first | ((with_reducible refine kL (f := 79) rfl ?_); refine goesL_ (some 4) rfl rfl Try.func79 (by kernel_rfl) rfl #[] rfl (by (try simp only [List.map_toArray, List.map_cons, List.map_nil]); first | done | rfl | (simp only [List.length_drop, List.length_take]; rfl)) ?_; (with_reducible refine (civil_First.calls  t107 _ A2.out).mono ?_); rintro e w' ⟨rfl, ⟨nd, rfl⟩⟩; refine ⟨_, rfl, ?_⟩) | (go_at_call 80; (with_reducible refine (civil_Last.calls  t108 _ A4.out).mono ?_); rintro e w' ⟨rfl, ⟨nd, rfl⟩⟩))
    go_ret
    exact ⟨by first | rfl | (simp; done) | (simp [*]; done), by repeat (first | exact Drawn0.refl _ | apply Drawn0.step)⟩
  · rw [if_neg c3] at H
    have c3b0 : decide (t107 ≤ a0) = false := decide_eq_false c3
    clear c3
    obtain rfl := Option.some.inj H
    go_enter Try.func58, Try.ntmps58
    go_wp2_with (first | ((with_reducible refine kL (f := 79) rfl ?_); refine goesL_ (some 4) rfl rfl Try.func79 (by kernel_rfl) rfl #[] rfl (by (try simp only [List.map_toArray, List.map_cons, List.map_nil]); first | done | rfl | (simp only [List.length_drop, List.length_take]; rfl)) ?_; (with_reducible refine (civil_First.calls  t107 _ A2.out).mono ?_); rintro e w' ⟨rfl, ⟨nd, rfl⟩⟩; refine ⟨_, rfl, ?_⟩))
    go_ret
    exact ⟨by first | rfl | (simp; done) | (simp [*]; done), by repeat (first | exact Drawn0.refl _ | apply Drawn0.step)⟩
noncomputable def civil_can.con : Con
  | [.int .i64 a0] => some ((civil_can.f a0).isSome, .bool (gd (civil_can.f a0)))
  | _ => none
set_option maxRecDepth 100000 in
theorem civil_can.cok : COk Try.prog 58 (civil_can.con) := by
  intro args p v hc hp w A hA
  unfold civil_can.con at hc
  split at hc
  · rename_i a0
    simp only [Option.some.injEq, Prod.mk.injEq] at hc
    obtain ⟨rfl, rfl⟩ := hc
    rcases hf : civil_can.f a0 with _ | r
    · rw [hf] at hp; cases hp
    obtain rfl : A = [.int .i64 a0] := by simpa [rl_cons, rl_nil, rv_int, rv_bool, rv_str, rv_agg, rv_fn] using hA
    exact gives_of_calls (fn := Try.f58) Try.func58 (by kernel_rfl) (by kernel_rfl) (civil_can.calls _ _ w hf) (fun _ => by simp [gd_some, rl_cons, rl_nil, rv_int, rv_bool, rv_str, rv_agg, rv_tup]) (fun _ h => h.below)
  · cases hc
def civil_parts.f (a0 : Int) : Option (Int × Int × Int) := (civil_floor.f (wrap64 (a0 + 730425)) 146097).bind fun bt109 => (if (wrap64 (Int.tdiv (wrap64 ((wrap64 (5 * (wrap64 ((wrap64 ((wrap64 (bt109.2 - (wrap64 ((mn (wrap64 (Int.tdiv bt109.2 36524)) 3) * 36524)))) - (wrap64 ((wrap64 (Int.tdiv (wrap64 (bt109.2 - (wrap64 ((mn (wrap64 (Int.tdiv bt109.2 36524)) 3) * 36524)))) 1461)) * 1461)))) - (wrap64 ((mn (wrap64 (Int.tdiv (wrap64 ((wrap64 (bt109.2 - (wrap64 ((mn (wrap64 (Int.tdiv bt109.2 36524)) 3) * 36524)))) - (wrap64 ((wrap64 (Int.tdiv (wrap64 (bt109.2 - (wrap64 ((mn (wrap64 (Int.tdiv bt109.2 36524)) 3) * 36524)))) 1461)) * 1461)))) 365)) 3) * 365)))))) + 2)) 153)) ≥ 10 then (some (wrap64 ((wrap64 ((wrap64 ((wrap64 ((wrap64 (bt109.1 * 400)) + (wrap64 ((mn (wrap64 (Int.tdiv bt109.2 36524)) 3) * 100)))) + (wrap64 ((wrap64 (Int.tdiv (wrap64 (bt109.2 - (wrap64 ((mn (wrap64 (Int.tdiv bt109.2 36524)) 3) * 36524)))) 1461)) * 4)))) + (mn (wrap64 (Int.tdiv (wrap64 ((wrap64 (bt109.2 - (wrap64 ((mn (wrap64 (Int.tdiv bt109.2 36524)) 3) * 36524)))) - (wrap64 ((wrap64 (Int.tdiv (wrap64 (bt109.2 - (wrap64 ((mn (wrap64 (Int.tdiv bt109.2 36524)) 3) * 36524)))) 1461)) * 1461)))) 365)) 3))) + 1), wrap64 ((wrap64 (Int.tdiv (wrap64 ((wrap64 (5 * (wrap64 ((wrap64 ((wrap64 (bt109.2 - (wrap64 ((mn (wrap64 (Int.tdiv bt109.2 36524)) 3) * 36524)))) - (wrap64 ((wrap64 (Int.tdiv (wrap64 (bt109.2 - (wrap64 ((mn (wrap64 (Int.tdiv bt109.2 36524)) 3) * 36524)))) 1461)) * 1461)))) - (wrap64 ((mn (wrap64 (Int.tdiv (wrap64 ((wrap64 (bt109.2 - (wrap64 ((mn (wrap64 (Int.tdiv bt109.2 36524)) 3) * 36524)))) - (wrap64 ((wrap64 (Int.tdiv (wrap64 (bt109.2 - (wrap64 ((mn (wrap64 (Int.tdiv bt109.2 36524)) 3) * 36524)))) 1461)) * 1461)))) 365)) 3) * 365)))))) + 2)) 153)) - 9), wrap64 ((wrap64 ((wrap64 ((wrap64 ((wrap64 (bt109.2 - (wrap64 ((mn (wrap64 (Int.tdiv bt109.2 36524)) 3) * 36524)))) - (wrap64 ((wrap64 (Int.tdiv (wrap64 (bt109.2 - (wrap64 ((mn (wrap64 (Int.tdiv bt109.2 36524)) 3) * 36524)))) 1461)) * 1461)))) - (wrap64 ((mn (wrap64 (Int.tdiv (wrap64 ((wrap64 (bt109.2 - (wrap64 ((mn (wrap64 (Int.tdiv bt109.2 36524)) 3) * 36524)))) - (wrap64 ((wrap64 (Int.tdiv (wrap64 (bt109.2 - (wrap64 ((mn (wrap64 (Int.tdiv bt109.2 36524)) 3) * 36524)))) 1461)) * 1461)))) 365)) 3) * 365)))) - (wrap64 (Int.tdiv (wrap64 ((wrap64 (153 * (wrap64 (Int.tdiv (wrap64 ((wrap64 (5 * (wrap64 ((wrap64 ((wrap64 (bt109.2 - (wrap64 ((mn (wrap64 (Int.tdiv bt109.2 36524)) 3) * 36524)))) - (wrap64 ((wrap64 (Int.tdiv (wrap64 (bt109.2 - (wrap64 ((mn (wrap64 (Int.tdiv bt109.2 36524)) 3) * 36524)))) 1461)) * 1461)))) - (wrap64 ((mn (wrap64 (Int.tdiv (wrap64 ((wrap64 (bt109.2 - (wrap64 ((mn (wrap64 (Int.tdiv bt109.2 36524)) 3) * 36524)))) - (wrap64 ((wrap64 (Int.tdiv (wrap64 (bt109.2 - (wrap64 ((mn (wrap64 (Int.tdiv bt109.2 36524)) 3) * 36524)))) 1461)) * 1461)))) 365)) 3) * 365)))))) + 2)) 153)))) + 2)) 5)))) + 1))) else (some (wrap64 ((wrap64 ((wrap64 ((wrap64 (bt109.1 * 400)) + (wrap64 ((mn (wrap64 (Int.tdiv bt109.2 36524)) 3) * 100)))) + (wrap64 ((wrap64 (Int.tdiv (wrap64 (bt109.2 - (wrap64 ((mn (wrap64 (Int.tdiv bt109.2 36524)) 3) * 36524)))) 1461)) * 4)))) + (mn (wrap64 (Int.tdiv (wrap64 ((wrap64 (bt109.2 - (wrap64 ((mn (wrap64 (Int.tdiv bt109.2 36524)) 3) * 36524)))) - (wrap64 ((wrap64 (Int.tdiv (wrap64 (bt109.2 - (wrap64 ((mn (wrap64 (Int.tdiv bt109.2 36524)) 3) * 36524)))) 1461)) * 1461)))) 365)) 3)), wrap64 ((wrap64 (Int.tdiv (wrap64 ((wrap64 (5 * (wrap64 ((wrap64 ((wrap64 (bt109.2 - (wrap64 ((mn (wrap64 (Int.tdiv bt109.2 36524)) 3) * 36524)))) - (wrap64 ((wrap64 (Int.tdiv (wrap64 (bt109.2 - (wrap64 ((mn (wrap64 (Int.tdiv bt109.2 36524)) 3) * 36524)))) 1461)) * 1461)))) - (wrap64 ((mn (wrap64 (Int.tdiv (wrap64 ((wrap64 (bt109.2 - (wrap64 ((mn (wrap64 (Int.tdiv bt109.2 36524)) 3) * 36524)))) - (wrap64 ((wrap64 (Int.tdiv (wrap64 (bt109.2 - (wrap64 ((mn (wrap64 (Int.tdiv bt109.2 36524)) 3) * 36524)))) 1461)) * 1461)))) 365)) 3) * 365)))))) + 2)) 153)) + 3), wrap64 ((wrap64 ((wrap64 ((wrap64 ((wrap64 (bt109.2 - (wrap64 ((mn (wrap64 (Int.tdiv bt109.2 36524)) 3) * 36524)))) - (wrap64 ((wrap64 (Int.tdiv (wrap64 (bt109.2 - (wrap64 ((mn (wrap64 (Int.tdiv bt109.2 36524)) 3) * 36524)))) 1461)) * 1461)))) - (wrap64 ((mn (wrap64 (Int.tdiv (wrap64 ((wrap64 (bt109.2 - (wrap64 ((mn (wrap64 (Int.tdiv bt109.2 36524)) 3) * 36524)))) - (wrap64 ((wrap64 (Int.tdiv (wrap64 (bt109.2 - (wrap64 ((mn (wrap64 (Int.tdiv bt109.2 36524)) 3) * 36524)))) 1461)) * 1461)))) 365)) 3) * 365)))) - (wrap64 (Int.tdiv (wrap64 ((wrap64 (153 * (wrap64 (Int.tdiv (wrap64 ((wrap64 (5 * (wrap64 ((wrap64 ((wrap64 (bt109.2 - (wrap64 ((mn (wrap64 (Int.tdiv bt109.2 36524)) 3) * 36524)))) - (wrap64 ((wrap64 (Int.tdiv (wrap64 (bt109.2 - (wrap64 ((mn (wrap64 (Int.tdiv bt109.2 36524)) 3) * 36524)))) 1461)) * 1461)))) - (wrap64 ((mn (wrap64 (Int.tdiv (wrap64 ((wrap64 (bt109.2 - (wrap64 ((mn (wrap64 (Int.tdiv bt109.2 36524)) 3) * 36524)))) - (wrap64 ((wrap64 (Int.tdiv (wrap64 (bt109.2 - (wrap64 ((mn (wrap64 (Int.tdiv bt109.2 36524)) 3) * 36524)))) 1461)) * 1461)))) 365)) 3) * 365)))))) + 2)) 153)))) + 2)) 5)))) + 1))))
set_option maxHeartbeats 8000000 in
set_option maxRecDepth 100000 in
theorem civil_parts.calls (a0 : Int) (r1 : Int) (r2 : Int) (r3 : Int) (w : World) (h : civil_parts.f a0 = some (r1, r2, r3)) :
    Calls Try.prog 59 #[.int .i64 a0] w fun e w' => e = .returned (.tuple #[.int .i64 r1, .int .i64 r2, .int .i64 r3]) ∧ Below w.heap.size w w' := by
  have HB := Aside0.mk (Below.refl w.heap.size w)
  have H : ((civil_floor.f (wrap64 (a0 + 730425)) 146097).bind fun bt109 => (if (wrap64 (Int.tdiv (wrap64 ((wrap64 (5 * (wrap64 ((wrap64 ((wrap64 (bt109.2 - (wrap64 ((mn (wrap64 (Int.tdiv bt109.2 36524)) 3) * 36524)))) - (wrap64 ((wrap64 (Int.tdiv (wrap64 (bt109.2 - (wrap64 ((mn (wrap64 (Int.tdiv bt109.2 36524)) 3) * 36524)))) 1461)) * 1461)))) - (wrap64 ((mn (wrap64 (Int.tdiv (wrap64 ((wrap64 (bt109.2 - (wrap64 ((mn (wrap64 (Int.tdiv bt109.2 36524)) 3) * 36524)))) - (wrap64 ((wrap64 (Int.tdiv (wrap64 (bt109.2 - (wrap64 ((mn (wrap64 (Int.tdiv bt109.2 36524)) 3) * 36524)))) 1461)) * 1461)))) 365)) 3) * 365)))))) + 2)) 153)) ≥ 10 then (some (wrap64 ((wrap64 ((wrap64 ((wrap64 ((wrap64 (bt109.1 * 400)) + (wrap64 ((mn (wrap64 (Int.tdiv bt109.2 36524)) 3) * 100)))) + (wrap64 ((wrap64 (Int.tdiv (wrap64 (bt109.2 - (wrap64 ((mn (wrap64 (Int.tdiv bt109.2 36524)) 3) * 36524)))) 1461)) * 4)))) + (mn (wrap64 (Int.tdiv (wrap64 ((wrap64 (bt109.2 - (wrap64 ((mn (wrap64 (Int.tdiv bt109.2 36524)) 3) * 36524)))) - (wrap64 ((wrap64 (Int.tdiv (wrap64 (bt109.2 - (wrap64 ((mn (wrap64 (Int.tdiv bt109.2 36524)) 3) * 36524)))) 1461)) * 1461)))) 365)) 3))) + 1), wrap64 ((wrap64 (Int.tdiv (wrap64 ((wrap64 (5 * (wrap64 ((wrap64 ((wrap64 (bt109.2 - (wrap64 ((mn (wrap64 (Int.tdiv bt109.2 36524)) 3) * 36524)))) - (wrap64 ((wrap64 (Int.tdiv (wrap64 (bt109.2 - (wrap64 ((mn (wrap64 (Int.tdiv bt109.2 36524)) 3) * 36524)))) 1461)) * 1461)))) - (wrap64 ((mn (wrap64 (Int.tdiv (wrap64 ((wrap64 (bt109.2 - (wrap64 ((mn (wrap64 (Int.tdiv bt109.2 36524)) 3) * 36524)))) - (wrap64 ((wrap64 (Int.tdiv (wrap64 (bt109.2 - (wrap64 ((mn (wrap64 (Int.tdiv bt109.2 36524)) 3) * 36524)))) 1461)) * 1461)))) 365)) 3) * 365)))))) + 2)) 153)) - 9), wrap64 ((wrap64 ((wrap64 ((wrap64 ((wrap64 (bt109.2 - (wrap64 ((mn (wrap64 (Int.tdiv bt109.2 36524)) 3) * 36524)))) - (wrap64 ((wrap64 (Int.tdiv (wrap64 (bt109.2 - (wrap64 ((mn (wrap64 (Int.tdiv bt109.2 36524)) 3) * 36524)))) 1461)) * 1461)))) - (wrap64 ((mn (wrap64 (Int.tdiv (wrap64 ((wrap64 (bt109.2 - (wrap64 ((mn (wrap64 (Int.tdiv bt109.2 36524)) 3) * 36524)))) - (wrap64 ((wrap64 (Int.tdiv (wrap64 (bt109.2 - (wrap64 ((mn (wrap64 (Int.tdiv bt109.2 36524)) 3) * 36524)))) 1461)) * 1461)))) 365)) 3) * 365)))) - (wrap64 (Int.tdiv (wrap64 ((wrap64 (153 * (wrap64 (Int.tdiv (wrap64 ((wrap64 (5 * (wrap64 ((wrap64 ((wrap64 (bt109.2 - (wrap64 ((mn (wrap64 (Int.tdiv bt109.2 36524)) 3) * 36524)))) - (wrap64 ((wrap64 (Int.tdiv (wrap64 (bt109.2 - (wrap64 ((mn (wrap64 (Int.tdiv bt109.2 36524)) 3) * 36524)))) 1461)) * 1461)))) - (wrap64 ((mn (wrap64 (Int.tdiv (wrap64 ((wrap64 (bt109.2 - (wrap64 ((mn (wrap64 (Int.tdiv bt109.2 36524)) 3) * 36524)))) - (wrap64 ((wrap64 (Int.tdiv (wrap64 (bt109.2 - (wrap64 ((mn (wrap64 (Int.tdiv bt109.2 36524)) 3) * 36524)))) 1461)) * 1461)))) 365)) 3) * 365)))))) + 2)) 153)))) + 2)) 5)))) + 1))) else (some (wrap64 ((wrap64 ((wrap64 ((wrap64 (bt109.1 * 400)) + (wrap64 ((mn (wrap64 (Int.tdiv bt109.2 36524)) 3) * 100)))) + (wrap64 ((wrap64 (Int.tdiv (wrap64 (bt109.2 - (wrap64 ((mn (wrap64 (Int.tdiv bt109.2 36524)) 3) * 36524)))) 1461)) * 4)))) + (mn (wrap64 (Int.tdiv (wrap64 ((wrap64 (bt109.2 - (wrap64 ((mn (wrap64 (Int.tdiv bt109.2 36524)) 3) * 36524)))) - (wrap64 ((wrap64 (Int.tdiv (wrap64 (bt109.2 - (wrap64 ((mn (wrap64 (Int.tdiv bt109.2 36524)) 3) * 36524)))) 1461)) * 1461)))) 365)) 3)), wrap64 ((wrap64 (Int.tdiv (wrap64 ((wrap64 (5 * (wrap64 ((wrap64 ((wrap64 (bt109.2 - (wrap64 ((mn (wrap64 (Int.tdiv bt109.2 36524)) 3) * 36524)))) - (wrap64 ((wrap64 (Int.tdiv (wrap64 (bt109.2 - (wrap64 ((mn (wrap64 (Int.tdiv bt109.2 36524)) 3) * 36524)))) 1461)) * 1461)))) - (wrap64 ((mn (wrap64 (Int.tdiv (wrap64 ((wrap64 (bt109.2 - (wrap64 ((mn (wrap64 (Int.tdiv bt109.2 36524)) 3) * 36524)))) - (wrap64 ((wrap64 (Int.tdiv (wrap64 (bt109.2 - (wrap64 ((mn (wrap64 (Int.tdiv bt109.2 36524)) 3) * 36524)))) 1461)) * 1461)))) 365)) 3) * 365)))))) + 2)) 153)) + 3), wrap64 ((wrap64 ((wrap64 ((wrap64 ((wrap64 (bt109.2 - (wrap64 ((mn (wrap64 (Int.tdiv bt109.2 36524)) 3) * 36524)))) - (wrap64 ((wrap64 (Int.tdiv (wrap64 (bt109.2 - (wrap64 ((mn (wrap64 (Int.tdiv bt109.2 36524)) 3) * 36524)))) 1461)) * 1461)))) - (wrap64 ((mn (wrap64 (Int.tdiv (wrap64 ((wrap64 (bt109.2 - (wrap64 ((mn (wrap64 (Int.tdiv bt109.2 36524)) 3) * 36524)))) - (wrap64 ((wrap64 (Int.tdiv (wrap64 (bt109.2 - (wrap64 ((mn (wrap64 (Int.tdiv bt109.2 36524)) 3) * 36524)))) 1461)) * 1461)))) 365)) 3) * 365)))) - (wrap64 (Int.tdiv (wrap64 ((wrap64 (153 * (wrap64 (Int.tdiv (wrap64 ((wrap64 (5 * (wrap64 ((wrap64 ((wrap64 (bt109.2 - (wrap64 ((mn (wrap64 (Int.tdiv bt109.2 36524)) 3) * 36524)))) - (wrap64 ((wrap64 (Int.tdiv (wrap64 (bt109.2 - (wrap64 ((mn (wrap64 (Int.tdiv bt109.2 36524)) 3) * 36524)))) 1461)) * 1461)))) - (wrap64 ((mn (wrap64 (Int.tdiv (wrap64 ((wrap64 (bt109.2 - (wrap64 ((mn (wrap64 (Int.tdiv bt109.2 36524)) 3) * 36524)))) - (wrap64 ((wrap64 (Int.tdiv (wrap64 (bt109.2 - (wrap64 ((mn (wrap64 (Int.tdiv bt109.2 36524)) 3) * 36524)))) 1461)) * 1461)))) 365)) 3) * 365)))))) + 2)) 153)))) + 2)) 5)))) + 1))))) = some (r1, r2, r3) := h
  clear h
  replace H := Option.bind_eq_some_iff.mp H
  obtain ⟨⟨t109, t110⟩, A20, H⟩ := H
  replace H : (if (wrap64 (Int.tdiv (wrap64 ((wrap64 (5 * (wrap64 ((wrap64 ((wrap64 (t110 - (wrap64 ((mn (wrap64 (Int.tdiv t110 36524)) 3) * 36524)))) - (wrap64 ((wrap64 (Int.tdiv (wrap64 (t110 - (wrap64 ((mn (wrap64 (Int.tdiv t110 36524)) 3) * 36524)))) 1461)) * 1461)))) - (wrap64 ((mn (wrap64 (Int.tdiv (wrap64 ((wrap64 (t110 - (wrap64 ((mn (wrap64 (Int.tdiv t110 36524)) 3) * 36524)))) - (wrap64 ((wrap64 (Int.tdiv (wrap64 (t110 - (wrap64 ((mn (wrap64 (Int.tdiv t110 36524)) 3) * 36524)))) 1461)) * 1461)))) 365)) 3) * 365)))))) + 2)) 153)) ≥ 10 then (some (wrap64 ((wrap64 ((wrap64 ((wrap64 ((wrap64 (t109 * 400)) + (wrap64 ((mn (wrap64 (Int.tdiv t110 36524)) 3) * 100)))) + (wrap64 ((wrap64 (Int.tdiv (wrap64 (t110 - (wrap64 ((mn (wrap64 (Int.tdiv t110 36524)) 3) * 36524)))) 1461)) * 4)))) + (mn (wrap64 (Int.tdiv (wrap64 ((wrap64 (t110 - (wrap64 ((mn (wrap64 (Int.tdiv t110 36524)) 3) * 36524)))) - (wrap64 ((wrap64 (Int.tdiv (wrap64 (t110 - (wrap64 ((mn (wrap64 (Int.tdiv t110 36524)) 3) * 36524)))) 1461)) * 1461)))) 365)) 3))) + 1), wrap64 ((wrap64 (Int.tdiv (wrap64 ((wrap64 (5 * (wrap64 ((wrap64 ((wrap64 (t110 - (wrap64 ((mn (wrap64 (Int.tdiv t110 36524)) 3) * 36524)))) - (wrap64 ((wrap64 (Int.tdiv (wrap64 (t110 - (wrap64 ((mn (wrap64 (Int.tdiv t110 36524)) 3) * 36524)))) 1461)) * 1461)))) - (wrap64 ((mn (wrap64 (Int.tdiv (wrap64 ((wrap64 (t110 - (wrap64 ((mn (wrap64 (Int.tdiv t110 36524)) 3) * 36524)))) - (wrap64 ((wrap64 (Int.tdiv (wrap64 (t110 - (wrap64 ((mn (wrap64 (Int.tdiv t110 36524)) 3) * 36524)))) 1461)) * 1461)))) 365)) 3) * 365)))))) + 2)) 153)) - 9), wrap64 ((wrap64 ((wrap64 ((wrap64 ((wrap64 (t110 - (wrap64 ((mn (wrap64 (Int.tdiv t110 36524)) 3) * 36524)))) - (wrap64 ((wrap64 (Int.tdiv (wrap64 (t110 - (wrap64 ((mn (wrap64 (Int.tdiv t110 36524)) 3) * 36524)))) 1461)) * 1461)))) - (wrap64 ((mn (wrap64 (Int.tdiv (wrap64 ((wrap64 (t110 - (wrap64 ((mn (wrap64 (Int.tdiv t110 36524)) 3) * 36524)))) - (wrap64 ((wrap64 (Int.tdiv (wrap64 (t110 - (wrap64 ((mn (wrap64 (Int.tdiv t110 36524)) 3) * 36524)))) 1461)) * 1461)))) 365)) 3) * 365)))) - (wrap64 (Int.tdiv (wrap64 ((wrap64 (153 * (wrap64 (Int.tdiv (wrap64 ((wrap64 (5 * (wrap64 ((wrap64 ((wrap64 (t110 - (wrap64 ((mn (wrap64 (Int.tdiv t110 36524)) 3) * 36524)))) - (wrap64 ((wrap64 (Int.tdiv (wrap64 (t110 - (wrap64 ((mn (wrap64 (Int.tdiv t110 36524)) 3) * 36524)))) 1461)) * 1461)))) - (wrap64 ((mn (wrap64 (Int.tdiv (wrap64 ((wrap64 (t110 - (wrap64 ((mn (wrap64 (Int.tdiv t110 36524)) 3) * 36524)))) - (wrap64 ((wrap64 (Int.tdiv (wrap64 (t110 - (wrap64 ((mn (wrap64 (Int.tdiv t110 36524)) 3) * 36524)))) 1461)) * 1461)))) 365)) 3) * 365)))))) + 2)) 153)))) + 2)) 5)))) + 1))) else (some (wrap64 ((wrap64 ((wrap64 ((wrap64 (t109 * 400)) + (wrap64 ((mn (wrap64 (Int.tdiv t110 36524)) 3) * 100)))) + (wrap64 ((wrap64 (Int.tdiv (wrap64 (t110 - (wrap64 ((mn (wrap64 (Int.tdiv t110 36524)) 3) * 36524)))) 1461)) * 4)))) + (mn (wrap64 (Int.tdiv (wrap64 ((wrap64 (t110 - (wrap64 ((mn (wrap64 (Int.tdiv t110 36524)) 3) * 36524)))) - (wrap64 ((wrap64 (Int.tdiv (wrap64 (t110 - (wrap64 ((mn (wrap64 (Int.tdiv t110 36524)) 3) * 36524)))) 1461)) * 1461)))) 365)) 3)), wrap64 ((wrap64 (Int.tdiv (wrap64 ((wrap64 (5 * (wrap64 ((wrap64 ((wrap64 (t110 - (wrap64 ((mn (wrap64 (Int.tdiv t110 36524)) 3) * 36524)))) - (wrap64 ((wrap64 (Int.tdiv (wrap64 (t110 - (wrap64 ((mn (wrap64 (Int.tdiv t110 36524)) 3) * 36524)))) 1461)) * 1461)))) - (wrap64 ((mn (wrap64 (Int.tdiv (wrap64 ((wrap64 (t110 - (wrap64 ((mn (wrap64 (Int.tdiv t110 36524)) 3) * 36524)))) - (wrap64 ((wrap64 (Int.tdiv (wrap64 (t110 - (wrap64 ((mn (wrap64 (Int.tdiv t110 36524)) 3) * 36524)))) 1461)) * 1461)))) 365)) 3) * 365)))))) + 2)) 153)) + 3), wrap64 ((wrap64 ((wrap64 ((wrap64 ((wrap64 (t110 - (wrap64 ((mn (wrap64 (Int.tdiv t110 36524)) 3) * 36524)))) - (wrap64 ((wrap64 (Int.tdiv (wrap64 (t110 - (wrap64 ((mn (wrap64 (Int.tdiv t110 36524)) 3) * 36524)))) 1461)) * 1461)))) - (wrap64 ((mn (wrap64 (Int.tdiv (wrap64 ((wrap64 (t110 - (wrap64 ((mn (wrap64 (Int.tdiv t110 36524)) 3) * 36524)))) - (wrap64 ((wrap64 (Int.tdiv (wrap64 (t110 - (wrap64 ((mn (wrap64 (Int.tdiv t110 36524)) 3) * 36524)))) 1461)) * 1461)))) 365)) 3) * 365)))) - (wrap64 (Int.tdiv (wrap64 ((wrap64 (153 * (wrap64 (Int.tdiv (wrap64 ((wrap64 (5 * (wrap64 ((wrap64 ((wrap64 (t110 - (wrap64 ((mn (wrap64 (Int.tdiv t110 36524)) 3) * 36524)))) - (wrap64 ((wrap64 (Int.tdiv (wrap64 (t110 - (wrap64 ((mn (wrap64 (Int.tdiv t110 36524)) 3) * 36524)))) 1461)) * 1461)))) - (wrap64 ((mn (wrap64 (Int.tdiv (wrap64 ((wrap64 (t110 - (wrap64 ((mn (wrap64 (Int.tdiv t110 36524)) 3) * 36524)))) - (wrap64 ((wrap64 (Int.tdiv (wrap64 (t110 - (wrap64 ((mn (wrap64 (Int.tdiv t110 36524)) 3) * 36524)))) 1461)) * 1461)))) 365)) 3) * 365)))))) + 2)) 153)))) + 2)) 5)))) + 1)))) = some (r1, r2, r3) := H
  have A2 := Aside0.mk A20
  clear A20
  obtain ⟨ji3, hji3⟩ : ∃ j_ : Int, (mn (wrap64 (Int.tdiv t110 36524)) 3) = j_ := ⟨_, rfl⟩
  replace H : (if (wrap64 (Int.tdiv (wrap64 ((wrap64 (5 * (wrap64 ((wrap64 ((wrap64 (t110 - (wrap64 ((ji3) * 36524)))) - (wrap64 ((wrap64 (Int.tdiv (wrap64 (t110 - (wrap64 ((ji3) * 36524)))) 1461)) * 1461)))) - (wrap64 ((mn (wrap64 (Int.tdiv (wrap64 ((wrap64 (t110 - (wrap64 ((ji3) * 36524)))) - (wrap64 ((wrap64 (Int.tdiv (wrap64 (t110 - (wrap64 ((ji3) * 36524)))) 1461)) * 1461)))) 365)) 3) * 365)))))) + 2)) 153)) ≥ 10 then (some (wrap64 ((wrap64 ((wrap64 ((wrap64 ((wrap64 (t109 * 400)) + (wrap64 ((ji3) * 100)))) + (wrap64 ((wrap64 (Int.tdiv (wrap64 (t110 - (wrap64 ((ji3) * 36524)))) 1461)) * 4)))) + (mn (wrap64 (Int.tdiv (wrap64 ((wrap64 (t110 - (wrap64 ((ji3) * 36524)))) - (wrap64 ((wrap64 (Int.tdiv (wrap64 (t110 - (wrap64 ((ji3) * 36524)))) 1461)) * 1461)))) 365)) 3))) + 1), wrap64 ((wrap64 (Int.tdiv (wrap64 ((wrap64 (5 * (wrap64 ((wrap64 ((wrap64 (t110 - (wrap64 ((ji3) * 36524)))) - (wrap64 ((wrap64 (Int.tdiv (wrap64 (t110 - (wrap64 ((ji3) * 36524)))) 1461)) * 1461)))) - (wrap64 ((mn (wrap64 (Int.tdiv (wrap64 ((wrap64 (t110 - (wrap64 ((ji3) * 36524)))) - (wrap64 ((wrap64 (Int.tdiv (wrap64 (t110 - (wrap64 ((ji3) * 36524)))) 1461)) * 1461)))) 365)) 3) * 365)))))) + 2)) 153)) - 9), wrap64 ((wrap64 ((wrap64 ((wrap64 ((wrap64 (t110 - (wrap64 ((ji3) * 36524)))) - (wrap64 ((wrap64 (Int.tdiv (wrap64 (t110 - (wrap64 ((ji3) * 36524)))) 1461)) * 1461)))) - (wrap64 ((mn (wrap64 (Int.tdiv (wrap64 ((wrap64 (t110 - (wrap64 ((ji3) * 36524)))) - (wrap64 ((wrap64 (Int.tdiv (wrap64 (t110 - (wrap64 ((ji3) * 36524)))) 1461)) * 1461)))) 365)) 3) * 365)))) - (wrap64 (Int.tdiv (wrap64 ((wrap64 (153 * (wrap64 (Int.tdiv (wrap64 ((wrap64 (5 * (wrap64 ((wrap64 ((wrap64 (t110 - (wrap64 ((ji3) * 36524)))) - (wrap64 ((wrap64 (Int.tdiv (wrap64 (t110 - (wrap64 ((ji3) * 36524)))) 1461)) * 1461)))) - (wrap64 ((mn (wrap64 (Int.tdiv (wrap64 ((wrap64 (t110 - (wrap64 ((ji3) * 36524)))) - (wrap64 ((wrap64 (Int.tdiv (wrap64 (t110 - (wrap64 ((ji3) * 36524)))) 1461)) * 1461)))) 365)) 3) * 365)))))) + 2)) 153)))) + 2)) 5)))) + 1))) else (some (wrap64 ((wrap64 ((wrap64 ((wrap64 (t109 * 400)) + (wrap64 ((ji3) * 100)))) + (wrap64 ((wrap64 (Int.tdiv (wrap64 (t110 - (wrap64 ((ji3) * 36524)))) 1461)) * 4)))) + (mn (wrap64 (Int.tdiv (wrap64 ((wrap64 (t110 - (wrap64 ((ji3) * 36524)))) - (wrap64 ((wrap64 (Int.tdiv (wrap64 (t110 - (wrap64 ((ji3) * 36524)))) 1461)) * 1461)))) 365)) 3)), wrap64 ((wrap64 (Int.tdiv (wrap64 ((wrap64 (5 * (wrap64 ((wrap64 ((wrap64 (t110 - (wrap64 ((ji3) * 36524)))) - (wrap64 ((wrap64 (Int.tdiv (wrap64 (t110 - (wrap64 ((ji3) * 36524)))) 1461)) * 1461)))) - (wrap64 ((mn (wrap64 (Int.tdiv (wrap64 ((wrap64 (t110 - (wrap64 ((ji3) * 36524)))) - (wrap64 ((wrap64 (Int.tdiv (wrap64 (t110 - (wrap64 ((ji3) * 36524)))) 1461)) * 1461)))) 365)) 3) * 365)))))) + 2)) 153)) + 3), wrap64 ((wrap64 ((wrap64 ((wrap64 ((wrap64 (t110 - (wrap64 ((ji3) * 36524)))) - (wrap64 ((wrap64 (Int.tdiv (wrap64 (t110 - (wrap64 ((ji3) * 36524)))) 1461)) * 1461)))) - (wrap64 ((mn (wrap64 (Int.tdiv (wrap64 ((wrap64 (t110 - (wrap64 ((ji3) * 36524)))) - (wrap64 ((wrap64 (Int.tdiv (wrap64 (t110 - (wrap64 ((ji3) * 36524)))) 1461)) * 1461)))) 365)) 3) * 365)))) - (wrap64 (Int.tdiv (wrap64 ((wrap64 (153 * (wrap64 (Int.tdiv (wrap64 ((wrap64 (5 * (wrap64 ((wrap64 ((wrap64 (t110 - (wrap64 ((ji3) * 36524)))) - (wrap64 ((wrap64 (Int.tdiv (wrap64 (t110 - (wrap64 ((ji3) * 36524)))) 1461)) * 1461)))) - (wrap64 ((mn (wrap64 (Int.tdiv (wrap64 ((wrap64 (t110 - (wrap64 ((ji3) * 36524)))) - (wrap64 ((wrap64 (Int.tdiv (wrap64 (t110 - (wrap64 ((ji3) * 36524)))) 1461)) * 1461)))) 365)) 3) * 365)))))) + 2)) 153)))) + 2)) 5)))) + 1)))) = some (r1, r2, r3) := by first | (rw [hji3] at H; exact H) | (simp only [hji3] at H ⊢; exact H)
  (try rw [hji3] at A2)
  (try (have hji3h : ji3 ≤ 3 := by (rw [← hji3]; unfold mn; (repeat' split) <;> omega)))
  (try (have hji3g : ji3 ≤ 64 := by omega))
  have hji3_ : (if 3 < (wrap64 (Int.tdiv t110 36524)) then 3 else (wrap64 (Int.tdiv t110 36524))) = ji3 := hji3
  obtain ⟨ji4, hji4⟩ : ∃ j_ : Int, (mn (wrap64 (Int.tdiv (wrap64 ((wrap64 (t110 - (wrap64 ((ji3) * 36524)))) - (wrap64 ((wrap64 (Int.tdiv (wrap64 (t110 - (wrap64 ((ji3) * 36524)))) 1461)) * 1461)))) 365)) 3) = j_ := ⟨_, rfl⟩
  replace H : (if (wrap64 (Int.tdiv (wrap64 ((wrap64 (5 * (wrap64 ((wrap64 ((wrap64 (t110 - (wrap64 ((ji3) * 36524)))) - (wrap64 ((wrap64 (Int.tdiv (wrap64 (t110 - (wrap64 ((ji3) * 36524)))) 1461)) * 1461)))) - (wrap64 ((ji4) * 365)))))) + 2)) 153)) ≥ 10 then (some (wrap64 ((wrap64 ((wrap64 ((wrap64 ((wrap64 (t109 * 400)) + (wrap64 ((ji3) * 100)))) + (wrap64 ((wrap64 (Int.tdiv (wrap64 (t110 - (wrap64 ((ji3) * 36524)))) 1461)) * 4)))) + (ji4))) + 1), wrap64 ((wrap64 (Int.tdiv (wrap64 ((wrap64 (5 * (wrap64 ((wrap64 ((wrap64 (t110 - (wrap64 ((ji3) * 36524)))) - (wrap64 ((wrap64 (Int.tdiv (wrap64 (t110 - (wrap64 ((ji3) * 36524)))) 1461)) * 1461)))) - (wrap64 ((ji4) * 365)))))) + 2)) 153)) - 9), wrap64 ((wrap64 ((wrap64 ((wrap64 ((wrap64 (t110 - (wrap64 ((ji3) * 36524)))) - (wrap64 ((wrap64 (Int.tdiv (wrap64 (t110 - (wrap64 ((ji3) * 36524)))) 1461)) * 1461)))) - (wrap64 ((ji4) * 365)))) - (wrap64 (Int.tdiv (wrap64 ((wrap64 (153 * (wrap64 (Int.tdiv (wrap64 ((wrap64 (5 * (wrap64 ((wrap64 ((wrap64 (t110 - (wrap64 ((ji3) * 36524)))) - (wrap64 ((wrap64 (Int.tdiv (wrap64 (t110 - (wrap64 ((ji3) * 36524)))) 1461)) * 1461)))) - (wrap64 ((ji4) * 365)))))) + 2)) 153)))) + 2)) 5)))) + 1))) else (some (wrap64 ((wrap64 ((wrap64 ((wrap64 (t109 * 400)) + (wrap64 ((ji3) * 100)))) + (wrap64 ((wrap64 (Int.tdiv (wrap64 (t110 - (wrap64 ((ji3) * 36524)))) 1461)) * 4)))) + (ji4)), wrap64 ((wrap64 (Int.tdiv (wrap64 ((wrap64 (5 * (wrap64 ((wrap64 ((wrap64 (t110 - (wrap64 ((ji3) * 36524)))) - (wrap64 ((wrap64 (Int.tdiv (wrap64 (t110 - (wrap64 ((ji3) * 36524)))) 1461)) * 1461)))) - (wrap64 ((ji4) * 365)))))) + 2)) 153)) + 3), wrap64 ((wrap64 ((wrap64 ((wrap64 ((wrap64 (t110 - (wrap64 ((ji3) * 36524)))) - (wrap64 ((wrap64 (Int.tdiv (wrap64 (t110 - (wrap64 ((ji3) * 36524)))) 1461)) * 1461)))) - (wrap64 ((ji4) * 365)))) - (wrap64 (Int.tdiv (wrap64 ((wrap64 (153 * (wrap64 (Int.tdiv (wrap64 ((wrap64 (5 * (wrap64 ((wrap64 ((wrap64 (t110 - (wrap64 ((ji3) * 36524)))) - (wrap64 ((wrap64 (Int.tdiv (wrap64 (t110 - (wrap64 ((ji3) * 36524)))) 1461)) * 1461)))) - (wrap64 ((ji4) * 365)))))) + 2)) 153)))) + 2)) 5)))) + 1)))) = some (r1, r2, r3) := by first | (rw [hji4] at H; exact H) | (simp only [hji4] at H ⊢; exact H)
  (try rw [hji4] at A2)
  have hji4_ : (if 3 < (wrap64 (Int.tdiv (wrap64 ((wrap64 (t110 - (wrap64 ((ji3) * 36524)))) - (wrap64 ((wrap64 (Int.tdiv (wrap64 (t110 - (wrap64 ((ji3) * 36524)))) 1461)) * 1461)))) 365)) then 3 else (wrap64 (Int.tdiv (wrap64 ((wrap64 (t110 - (wrap64 ((ji3) * 36524)))) - (wrap64 ((wrap64 (Int.tdiv (wrap64 (t110 - (wrap64 ((ji3) * 36524)))) 1461)) * 1461)))) 365))) = ji4 := hji4
  by_cases c5 : (wrap64 (Int.tdiv (wrap64 ((wrap64 (5 * (wrap64 ((wrap64 ((wrap64 (t110 - (wrap64 ((ji3) * 36524)))) - (wrap64 ((wrap64 (Int.tdiv (wrap64 (t110 - (wrap64 ((ji3) * 36524)))) 1461)) * 1461)))) - (wrap64 ((ji4) * 365)))))) + 2)) 153)) ≥ 10
  · rw [if_pos c5] at H
    have c5b0 : decide (10 ≤ (wrap64 (Int.tdiv (wrap64 ((wrap64 (5 * (wrap64 ((wrap64 ((wrap64 (t110 - (wrap64 ((ji3) * 36524)))) - (wrap64 ((wrap64 (Int.tdiv (wrap64 (t110 - (wrap64 ((ji3) * 36524)))) 1461)) * 1461)))) - (wrap64 ((ji4) * 365)))))) + 2)) 153))) = true := decide_eq_true c5
    clear c5
    simp only [Option.some.injEq, Prod.mk.injEq] at H
    obtain ⟨rfl, rfl, rfl⟩ := H
    go_enter Try.func59, Try.ntmps59
    go_wp2_with (first | ((with_reducible refine kL (f := 72) rfl ?_); refine goesL_ (some 16) rfl rfl Try.func72 (by kernel_rfl) rfl #[.int .i64 (wrap64 (a0 + 730425)), .int .i64 146097] rfl (by (try simp only [List.map_toArray, List.map_cons, List.map_nil]); first | done | rfl | (simp only [List.length_drop, List.length_take]; rfl)) ?_; (with_reducible refine (civil_floor.calls (wrap64 (a0 + 730425)) 146097 t109 t110 _ A2.out).mono ?_); rintro e w' ⟨rfl, ⟨nd, rfl⟩⟩; refine ⟨_, rfl, ?_⟩))
    go_ret3
    exact ⟨by first | rfl | (simp [errW_none, errW_some] <;> rfl) | (simp only [← hji3, ← hji4]; first | rfl | (simp [errW_none, errW_some] <;> rfl)) | (simp [*, errW_none, errW_some] <;> rfl), by repeat (first | (with_reducible first | exact HB.out | apply kG | apply kD | apply kF) | exact HB.out)⟩
  · rw [if_neg c5] at H
    have c5b0 : decide (10 ≤ (wrap64 (Int.tdiv (wrap64 ((wrap64 (5 * (wrap64 ((wrap64 ((wrap64 (t110 - (wrap64 ((ji3) * 36524)))) - (wrap64 ((wrap64 (Int.tdiv (wrap64 (t110 - (wrap64 ((ji3) * 36524)))) 1461)) * 1461)))) - (wrap64 ((ji4) * 365)))))) + 2)) 153))) = false := decide_eq_false c5
    clear c5
    simp only [Option.some.injEq, Prod.mk.injEq] at H
    obtain ⟨rfl, rfl, rfl⟩ := H
    go_enter Try.func59, Try.ntmps59
    go_wp2_with (first | ((with_reducible refine kL (f := 72) rfl ?_); refine goesL_ (some 16) rfl rfl Try.func72 (by kernel_rfl) rfl #[.int .i64 (wrap64 (a0 + 730425)), .int .i64 146097] rfl (by (try simp only [List.map_toArray, List.map_cons, List.map_nil]); first | done | rfl | (simp only [List.length_drop, List.length_take]; rfl)) ?_; (with_reducible refine (civil_floor.calls (wrap64 (a0 + 730425)) 146097 t109 t110 _ A2.out).mono ?_); rintro e w' ⟨rfl, ⟨nd, rfl⟩⟩; refine ⟨_, rfl, ?_⟩))
    go_ret3
    exact ⟨by first | rfl | (simp [errW_none, errW_some] <;> rfl) | (simp only [← hji3, ← hji4]; first | rfl | (simp [errW_none, errW_some] <;> rfl)) | (simp [*, errW_none, errW_some] <;> rfl), by repeat (first | (with_reducible first | exact HB.out | apply kG | apply kD | apply kF) | exact HB.out)⟩
noncomputable def civil_parts.con : Con
  | [.int .i64 a0] => some ((civil_parts.f a0).isSome, .tup [.int .i64 (gd (civil_parts.f a0)).1, .int .i64 (gd (civil_parts.f a0)).2.1, .int .i64 (gd (civil_parts.f a0)).2.2])
  | _ => none
set_option maxRecDepth 100000 in
theorem civil_parts.cok : COk Try.prog 59 (civil_parts.con) := by
  intro args p v hc hp w A hA
  unfold civil_parts.con at hc
  split at hc
  · rename_i a0
    simp only [Option.some.injEq, Prod.mk.injEq] at hc
    obtain ⟨rfl, rfl⟩ := hc
    rcases hf : civil_parts.f a0 with _ | ⟨r1, r2, r3⟩
    · rw [hf] at hp; cases hp
    obtain rfl : A = [.int .i64 a0] := by simpa [rl_cons, rl_nil, rv_int, rv_bool, rv_str, rv_agg, rv_fn] using hA
    exact gives_of_calls (fn := Try.f59) Try.func59 (by kernel_rfl) (by kernel_rfl) (civil_parts.calls _ _ _ _ w hf) (fun _ => by simp [gd_some, rl_cons, rl_nil, rv_int, rv_bool, rv_str, rv_agg, rv_tup]) (fun _ h => h)
  · cases hc
def civil_Date.f (a0 : Int) : Option (Int × Int × Int × Int) := (civil_can.f a0).bind fun t111 => (if t111 = true then ((civil_parts.f a0).bind fun bt112 => (some (bt112.1, bt112.2.1, bt112.2.2, 0))) else (some (0, 0, 0, 10)))
set_option maxRecDepth 100000 in
theorem civil_Date.vc (a0 : Int) (K : AV → Prop) : afv PA Try.prog (tab [(58, civil_can.con), (59, civil_parts.con)]) noLoops 2 38 [.int .i64 a0] K = (brc (Option.isSome (civil_can.f a0)) (∀ (m0 : Bool), m0 = gd (civil_can.f a0) → brc (!m0) (K (AV.tup [AV.int IntKind.i64 0, AV.int IntKind.i64 0, AV.int IntKind.i64 0, AV.int IntKind.i64 10])) (brc (Option.isSome (civil_parts.f a0)) (∀ (m1 : Int), m1 = Prod.fst (gd (civil_parts.f a0)) → ∀ (m2 : Int), m2 = Prod.fst (Prod.snd (gd (civil_parts.f a0))) → ∀ (m3 : Int), m3 = Prod.snd (Prod.snd (gd (civil_parts.f a0))) → K (AV.tup [AV.int IntKind.i64 m1, AV.int IntKind.i64 m2, AV.int IntKind.i64 m3, AV.int IntKind.i64 0])) False)) False) := by kernel_rfl
set_option maxHeartbeats 1000000 in
set_option maxRecDepth 100000 in
theorem civil_Date.calls (a0 : Int) (r1 : Int) (r2 : Int) (r3 : Int) (r4 : Int) (w : World) (h : civil_Date.f a0 = some (r1, r2, r3, r4)) :
    Calls Try.prog 38 #[.int .i64 a0] w fun e w' => e = .returned (.tuple #[.int .i64 r1, .int .i64 r2, .int .i64 r3, .int .i64 r4]) ∧ Below w.heap.size w w' := by
  refine calls_of_vc (A := [.int .i64 a0]) (v := .tup [.int .i64 r1, .int .i64 r2, .int .i64 r3, .int .i64 r4]) (tab_cons (civil_can.cok) (tab_cons (civil_parts.cok) (tab_nil))) ((civil_Date.vc a0 _).mpr ?_) (by simp [rl_cons, rl_nil, rv_int, rv_bool, rv_str, rv_agg, rv_fn]) (fun ρ V' hV => by simpa [rl_cons, rl_nil, rv_int, rv_bool, rv_str, rv_agg, rv_tup] using hV)
  unfold civil_Date.f at h
  simp only [bne, Option.bind_eq_some_iff, ite_some_iff] at h
  simp only [bne, brc_iff, wrap_i64]
  first
    | grind (splits := 60) [gd_some]
    | ((repeat' (first | (have or_ : Or _ _ := h; clear or_; rcases h with h | h) | (have or_ : Exists _ := h; clear or_; obtain ⟨_, h⟩ := h) | (have or_ : And _ _ := h; clear or_; obtain ⟨_, h⟩ := h))) <;> simp only [Option.some.injEq, Prod.mk.injEq, reduceCtorEq] at h <;> (try subst_vars) <;> simp_all [gd_some] <;> (try omega) <;> done)
    | (intros; subst_vars; simp_all [gd_some]; done)
noncomputable def civil_Date.con : Con
  | [.int .i64 a0] => some ((civil_Date.f a0).isSome, .tup [.int .i64 (gd (civil_Date.f a0)).1, .int .i64 (gd (civil_Date.f a0)).2.1, .int .i64 (gd (civil_Date.f a0)).2.2.1, .int .i64 (gd (civil_Date.f a0)).2.2.2])
  | _ => none
set_option maxRecDepth 100000 in
theorem civil_Date.cok : COk Try.prog 38 (civil_Date.con) := by
  intro args p v hc hp w A hA
  unfold civil_Date.con at hc
  split at hc
  · rename_i a0
    simp only [Option.some.injEq, Prod.mk.injEq] at hc
    obtain ⟨rfl, rfl⟩ := hc
    rcases hf : civil_Date.f a0 with _ | ⟨r1, r2, r3, r4⟩
    · rw [hf] at hp; cases hp
    obtain rfl : A = [.int .i64 a0] := by simpa [rl_cons, rl_nil, rv_int, rv_bool, rv_str, rv_agg, rv_fn] using hA
    exact gives_of_calls (fn := Try.f38) Try.func38 (by kernel_rfl) (by kernel_rfl) (civil_Date.calls _ _ _ _ _ w hf) (fun _ => by simp [gd_some, rl_cons, rl_nil, rv_int, rv_bool, rv_str, rv_agg, rv_tup]) (fun _ h => h)
  · cases hc
def day_inside.f (a0 : Int) : Option (Bool) := (civil_Date.f a0).bind fun bt115 => (if bt115.2.2.2 = 0 then (if bt115.1 ≥ (-4712) then (some (decide (bt115.1 ≤ 294276))) else (some false)) else (some false))
set_option maxRecDepth 100000 in
theorem day_inside.vc (a0 : Int) (K : AV → Prop) : afv PA Try.prog (tab [(38, civil_Date.con)]) noLoops 2 40 [.int .i64 a0] K = (brc (Option.isSome (civil_Date.f a0)) (∀ (m0 : Int), m0 = Prod.fst (gd (civil_Date.f a0)) → ∀ (m1 : Int), m1 = Prod.fst (Prod.snd (gd (civil_Date.f a0))) → ∀ (m2 : Int), m2 = Prod.fst (Prod.snd (Prod.snd (gd (civil_Date.f a0)))) → ∀ (m3 : Int), m3 = Prod.snd (Prod.snd (Prod.snd (gd (civil_Date.f a0)))) → brc (m3 == 0) (brc (decide (m0 ≥ -4712)) (K (AV.bool (decide (m0 ≤ 294276)))) (K (AV.bool false))) (K (AV.bool false))) False) := by kernel_rfl
set_option maxHeartbeats 1000000 in
set_option maxRecDepth 100000 in
theorem day_inside.calls (a0 : Int) (r : Bool) (w : World) (h : day_inside.f a0 = some r) :
    Calls Try.prog 40 #[.int .i64 a0] w fun e w' => e = .returned (.bool r) ∧ Below w.heap.size w w' := by
  refine calls_of_vc (A := [.int .i64 a0]) (v := .bool r) (tab_cons (civil_Date.cok) (tab_nil)) ((day_inside.vc a0 _).mpr ?_) (by simp [rl_cons, rl_nil, rv_int, rv_bool, rv_str, rv_agg, rv_fn]) (fun ρ V' hV => by simpa [rl_cons, rl_nil, rv_int, rv_bool, rv_str, rv_agg, rv_tup] using hV)
  unfold day_inside.f at h
  simp only [bne, Option.bind_eq_some_iff, ite_some_iff] at h
  simp only [bne, brc_iff, wrap_i64]
  first
    | grind (splits := 60) [gd_some]
    | ((repeat' (first | (have or_ : Or _ _ := h; clear or_; rcases h with h | h) | (have or_ : Exists _ := h; clear or_; obtain ⟨_, h⟩ := h) | (have or_ : And _ _ := h; clear or_; obtain ⟨_, h⟩ := h))) <;> simp only [Option.some.injEq, Prod.mk.injEq, reduceCtorEq] at h <;> (try subst_vars) <;> simp_all [gd_some] <;> (try omega) <;> done)
    | (intros; subst_vars; simp_all [gd_some]; done)
noncomputable def day_inside.con : Con
  | [.int .i64 a0] => some ((day_inside.f a0).isSome, .bool (gd (day_inside.f a0)))
  | _ => none
set_option maxRecDepth 100000 in
theorem day_inside.cok : COk Try.prog 40 (day_inside.con) := by
  intro args p v hc hp w A hA
  unfold day_inside.con at hc
  split at hc
  · rename_i a0
    simp only [Option.some.injEq, Prod.mk.injEq] at hc
    obtain ⟨rfl, rfl⟩ := hc
    rcases hf : day_inside.f a0 with _ | r
    · rw [hf] at hp; cases hp
    obtain rfl : A = [.int .i64 a0] := by simpa [rl_cons, rl_nil, rv_int, rv_bool, rv_str, rv_agg, rv_fn] using hA
    exact gives_of_calls (fn := Try.f40) Try.func40 (by kernel_rfl) (by kernel_rfl) (day_inside.calls _ _ w hf) (fun _ => by simp [gd_some, rl_cons, rl_nil, rv_int, rv_bool, rv_str, rv_agg, rv_tup]) (fun _ h => h)
  · cases hc
end Go.Proofs.Ytgjbdojpncmmlaa.P
namespace Go.Proofs.Ytgjbdojpncmmlaa.P
open Go.RowKit Go.Proofs.YtgjbdojpncmmlaaW.PrintWords Go.Proofs.YtgjbdojpncmmlaaW.PrintLast Go.Proofs.YtgjbdojpncmmlaaW.PrintMore
open Go.Proofs.Ytgjbdojpncmmlaa.A
attribute [local go_sem] max2_int min2_int max_two min_two max_three min_three max_four min_four   -- for this text's walks alone
set_option linter.unusedVariables false
set_option linter.unusedSimpArgs false
def num_signed.j0 : Nat → Bool → Bool → Int → Int → Option (Int × Int)
  | 0, _, _, _, _ => none
  | k + 1, x0, x10, x179000, x179001 => if x10 = true then (some (wrap64 (IntKind.u64.wrap (-x179001)), 0)) else (if x0 = true then (some (0, 10)) else (if x179001 > 9223372036854775807 then (some (0, 10)) else (some (wrap64 (x179001), 0))))
def num_signed.f (k : Nat) (a0 : Bool) (a1_0 : Int) (a1_1 : Int) : Option (Int × Int) := if a1_0 = 0 then (if a0 = true then (num_signed.j0 k a0 (decide (a1_1 ≤ 9223372036854775808)) a1_0 a1_1) else (num_signed.j0 k a0 false a1_0 a1_1)) else (some (0, 10))
theorem num_signed.mono_l : ∀ k, (∀ y0 y1 y2 y3, LeO (num_signed.j0 k y0 y1 y2 y3) (num_signed.j0 (k + 1) y0 y1 y2 y3))
  | 0 => fun _ _ _ _ r h => by simp [num_signed.j0] at h
  | k + 1 => by
    have ih0 := num_signed.mono_l k
    · intro y0 y1 y2 y3
      unfold num_signed.j0
      repeat' first
      | (with_reducible exact ih0 _ _ _ _)
      | (with_reducible exact LeO.refl _)
      | (with_reducible exact LeO.none _)
      | (with_reducible refine LeO.ite ?_ ?_)
      | (with_reducible refine LeO.bind ?_ (fun _ => ?_))
      | exact ih0 _ _ _ _
      | exact LeO.none _
      | refine LeO.ite ?_ ?_
      | refine LeO.bind ?_ (fun _ => ?_)
theorem num_signed.mono : ∀ a0 a1 a2 k, LeO (num_signed.f k a0 a1 a2) (num_signed.f (k + 1) a0 a1 a2) := by
  intro a0 a1 a2 k
  have ih0 := num_signed.mono_l k
  unfold num_signed.f
  repeat' first
      | (with_reducible exact ih0 _ _ _ _)
      | (with_reducible exact LeO.refl _)
      | (with_reducible exact LeO.none _)
      | (with_reducible refine LeO.ite ?_ ?_)
      | (with_reducible refine LeO.bind ?_ (fun _ => ?_))
      | exact ih0 _ _ _ _
      | exact LeO.none _
      | refine LeO.ite ?_ ?_
      | refine LeO.bind ?_ (fun _ => ?_)
set_option maxRecDepth 100000 in
theorem num_signed.vc (k : Nat) (a0 : Bool) (a1_0 : Int) (a1_1 : Int) (K : AV → Prop) : afv PA Try.prog (tab []) noLoops 2 74 [.bool a0, .agg [.int .u64 a1_0, .int .u64 a1_1]] K = (brc (a1_0 != 0) (K (AV.tup [AV.int IntKind.i64 0, AV.int IntKind.i64 10])) (brc a0 (brc (decide (a1_1 ≤ 9223372036854775808)) (K (AV.tup [AV.int IntKind.i64 (IntKind.wrap IntKind.i64 (IntKind.wrap IntKind.u64 (0 - a1_1))), AV.int IntKind.i64 0])) (brc a0 (K (AV.tup [AV.int IntKind.i64 0, AV.int IntKind.i64 10])) (brc (decide (a1_1 > 9223372036854775807)) (K (AV.tup [AV.int IntKind.i64 0, AV.int IntKind.i64 10])) (K (AV.tup [AV.int IntKind.i64 (IntKind.wrap IntKind.i64 a1_1), AV.int IntKind.i64 0]))))) (brc a0 (K (AV.tup [AV.int IntKind.i64 0, AV.int IntKind.i64 10])) (brc (decide (a1_1 > 9223372036854775807)) (K (AV.tup [AV.int IntKind.i64 0, AV.int IntKind.i64 10])) (K (AV.tup [AV.int IntKind.i64 (IntKind.wrap IntKind.i64 a1_1), AV.int IntKind.i64 0])))))) := by kernel_rfl
set_option maxHeartbeats 1000000 in
set_option maxRecDepth 100000 in
theorem num_signed.calls (k : Nat) (a0 : Bool) (a1_0 : Int) (a1_1 : Int) (r1 : Int) (r2 : Int) (w : World) (h : num_signed.f k a0 a1_0 a1_1 = some (r1, r2)) :
    Calls Try.prog 74 #[.bool a0, .agg #[.int .u64 a1_0, .int .u64 a1_1]] w fun e w' => e = .returned (.tuple #[.int .i64 r1, .int .i64 r2]) ∧ Below w.heap.size w w' := by
  refine calls_of_vc (A := [.bool a0, .agg #[.int .u64 a1_0, .int .u64 a1_1]]) (v := .tup [.int .i64 r1, .int .i64 r2]) (tab_nil) ((num_signed.vc k a0 a1_0 a1_1 _).mpr ?_) (by simp [rl_cons, rl_nil, rv_int, rv_bool, rv_str, rv_agg, rv_fn]) (fun ρ V' hV => by simpa [rl_cons, rl_nil, rv_int, rv_bool, rv_str, rv_agg, rv_tup] using hV)
  unfold num_signed.f at h
  cases k with
  | zero =>
    (try simp only [num_signed.j0] at h)
    simp only [bne, Option.bind_eq_some_iff, ite_some_iff] at h
    simp only [bne, brc_iff, wrap_i64]
    first
      | grind (splits := 60) [gd_some]
      | ((repeat' (first | (have or_ : Or _ _ := h; clear or_; rcases h with h | h) | (have or_ : Exists _ := h; clear or_; obtain ⟨_, h⟩ := h) | (have or_ : And _ _ := h; clear or_; obtain ⟨_, h⟩ := h))) <;> simp only [Option.some.injEq, Prod.mk.injEq, reduceCtorEq] at h <;> (try subst_vars) <;> simp_all [gd_some] <;> (try omega) <;> rcases hb0 : decide (a1_1 ≤ 9223372036854775808) with _ | _ <;> rcases hb1 : decide (a1_1 > 9223372036854775807) with _ | _ <;> simp_all [gd_some] <;> done)
      | (intros; subst_vars; simp_all [gd_some]; done)
  | succ k =>
    (try simp only [num_signed.j0] at h)
    simp only [bne, Option.bind_eq_some_iff, ite_some_iff] at h
    simp only [bne, brc_iff, wrap_i64]
    first
      | grind (splits := 60) [gd_some]
      | ((repeat' (first | (have or_ : Or _ _ := h; clear or_; rcases h with h | h) | (have or_ : Exists _ := h; clear or_; obtain ⟨_, h⟩ := h) | (have or_ : And _ _ := h; clear or_; obtain ⟨_, h⟩ := h))) <;> simp only [Option.some.injEq, Prod.mk.injEq, reduceCtorEq] at h <;> (try subst_vars) <;> simp_all [gd_some] <;> (try omega) <;> rcases hb0 : decide (a1_1 ≤ 9223372036854775808) with _ | _ <;> rcases hb1 : decide (a1_1 > 9223372036854775807) with _ | _ <;> simp_all [gd_some] <;> done)
      | (intros; subst_vars; simp_all [gd_some]; done)
noncomputable def num_signed.con (k : Nat) : Con
  | [.bool a0, .agg [.int .u64 a1_0, .int .u64 a1_1]] => some ((num_signed.f k a0 a1_0 a1_1).isSome, .tup [.int .i64 (gd (num_signed.f k a0 a1_0 a1_1)).1, .int .i64 (gd (num_signed.f k a0 a1_0 a1_1)).2])
  | _ => none
set_option maxRecDepth 100000 in
theorem num_signed.cok (k : Nat) : COk Try.prog 74 (num_signed.con k) := by
  intro args p v hc hp w A hA
  unfold num_signed.con at hc
  split at hc
  · rename_i a0 a1_0 a1_1
    simp only [Option.some.injEq, Prod.mk.injEq] at hc
    obtain ⟨rfl, rfl⟩ := hc
    rcases hf : num_signed.f k a0 a1_0 a1_1 with _ | ⟨r1, r2⟩
    · rw [hf] at hp; cases hp
    obtain rfl : A = [.bool a0, .agg #[.int .u64 a1_0, .int .u64 a1_1]] := by simpa [rl_cons, rl_nil, rv_int, rv_bool, rv_str, rv_agg, rv_fn] using hA
    exact gives_of_calls (fn := Try.f74) Try.func74 (by kernel_rfl) (by kernel_rfl) (num_signed.calls _ _ _ _ _ _ w hf) (fun _ => by simp [gd_some, rl_cons, rl_nil, rv_int, rv_bool, rv_str, rv_agg, rv_tup]) (fun _ h => h)
  · cases hc
def bits_Mul64.f (a0 : Int) (a1 : Int) : Option (Int × Int) := some (IntKind.u64.wrap ((IntKind.u64.wrap ((IntKind.u64.wrap ((a0 / 4294967296) * (a1 / 4294967296))) + ((IntKind.u64.wrap ((IntKind.u64.wrap ((a0 / 4294967296) * (Go.bits .and .u64 a1 4294967295))) + ((IntKind.u64.wrap ((Go.bits .and .u64 a0 4294967295) * (Go.bits .and .u64 a1 4294967295))) / 4294967296))) / 4294967296))) + ((IntKind.u64.wrap ((Go.bits .and .u64 (IntKind.u64.wrap ((IntKind.u64.wrap ((a0 / 4294967296) * (Go.bits .and .u64 a1 4294967295))) + ((IntKind.u64.wrap ((Go.bits .and .u64 a0 4294967295) * (Go.bits .and .u64 a1 4294967295))) / 4294967296))) 4294967295) + (IntKind.u64.wrap ((Go.bits .and .u64 a0 4294967295) * (a1 / 4294967296))))) / 4294967296)), IntKind.u64.wrap (a0 * a1))
set_option maxHeartbeats 8000000 in
set_option maxRecDepth 100000 in
theorem bits_Mul64.calls (a0 : Int) (a1 : Int) (r1 : Int) (r2 : Int) (w : World) (h : bits_Mul64.f a0 a1 = some (r1, r2)) :
    Calls Try.prog 88 #[.int .u64 a0, .int .u64 a1] w fun e w' => e = .returned (.tuple #[.int .u64 r1, .int .u64 r2]) ∧ Drawn0 w w' := by
  have H : (some (IntKind.u64.wrap ((IntKind.u64.wrap ((IntKind.u64.wrap ((a0 / 4294967296) * (a1 / 4294967296))) + ((IntKind.u64.wrap ((IntKind.u64.wrap ((a0 / 4294967296) * (Go.bits .and .u64 a1 4294967295))) + ((IntKind.u64.wrap ((Go.bits .and .u64 a0 4294967295) * (Go.bits .and .u64 a1 4294967295))) / 4294967296))) / 4294967296))) + ((IntKind.u64.wrap ((Go.bits .and .u64 (IntKind.u64.wrap ((IntKind.u64.wrap ((a0 / 4294967296) * (Go.bits .and .u64 a1 4294967295))) + ((IntKind.u64.wrap ((Go.bits .and .u64 a0 4294967295) * (Go.bits .and .u64 a1 4294967295))) / 4294967296))) 4294967295) + (IntKind.u64.wrap ((Go.bits .and .u64 a0 4294967295) * (a1 / 4294967296))))) / 4294967296)), IntKind.u64.wrap (a0 * a1))) = some (r1, r2) := h
  clear h
  simp only [Option.some.injEq, Prod.mk.injEq] at H
  obtain ⟨rfl, rfl⟩ := H
  go_enter Try.func88, Try.ntmps88
  go_wp2
  go_ret2
  exact ⟨by first | rfl | (simp; done) | (simp [*]; done), by repeat (first | exact Drawn0.refl _ | apply Drawn0.step)⟩
noncomputable def bits_Mul64.con : Con
  | [.int .u64 a0, .int .u64 a1] => some ((bits_Mul64.f a0 a1).isSome, .tup [.int .u64 (gd (bits_Mul64.f a0 a1)).1, .int .u64 (gd (bits_Mul64.f a0 a1)).2])
  | _ => none
set_option maxRecDepth 100000 in
theorem bits_Mul64.cok : COk Try.prog 88 (bits_Mul64.con) := by
  intro args p v hc hp w A hA
  unfold bits_Mul64.con at hc
  split at hc
  · rename_i a0 a1
    simp only [Option.some.injEq, Prod.mk.injEq] at hc
    obtain ⟨rfl, rfl⟩ := hc
    rcases hf : bits_Mul64.f a0 a1 with _ | ⟨r1, r2⟩
    · rw [hf] at hp; cases hp
    obtain rfl : A = [.int .u64 a0, .int .u64 a1] := by simpa [rl_cons, rl_nil, rv_int, rv_bool, rv_str, rv_agg, rv_fn] using hA
    exact gives_of_calls (fn := Try.f88) Try.func88 (by kernel_rfl) (by kernel_rfl) (bits_Mul64.calls _ _ _ _ w hf) (fun _ => by simp [gd_some, rl_cons, rl_nil, rv_int, rv_bool, rv_str, rv_agg, rv_tup]) (fun _ h => h.below)
  · cases hc
def num_size.f (a0 : Int) : Option (Int) := if a0 < 0 then (some (IntKind.u64.wrap (-(IntKind.u64.wrap (a0))))) else (some (IntKind.u64.wrap (a0)))
set_option maxHeartbeats 8000000 in
set_option maxRecDepth 100000 in
theorem num_size.calls (a0 : Int) (r : Int) (w : World) (h : num_size.f a0 = some r) :
    Calls Try.prog 89 #[.int .i64 a0] w fun e w' => e = .returned (.int .u64 r) ∧ Drawn0 w w' := by
  have H : (if a0 < 0 then (some (IntKind.u64.wrap (-(IntKind.u64.wrap (a0))))) else (some (IntKind.u64.wrap (a0)))) = some r := h
  clear h
  by_cases c2 : a0 < 0
  · rw [if_pos c2] at H
    have c2b0 : decide (a0 < 0) = true := decide_eq_true c2
    clear c2
    obtain rfl := Option.some.inj H
    go_enter Try.func89, Try.ntmps89
    go_wp2
    go_ret
    exact ⟨by first | rfl | (simp; done) | (simp [*]; done), by repeat (first | exact Drawn0.refl _ | apply Drawn0.step)⟩
  · rw [if_neg c2] at H
    have c2b0 : decide (a0 < 0) = false := decide_eq_false c2
    clear c2
    obtain rfl := Option.some.inj H
    go_enter Try.func89, Try.ntmps89
    go_wp2
    go_ret
    exact ⟨by first | rfl | (simp; done) | (simp [*]; done), by repeat (first | exact Drawn0.refl _ | apply Drawn0.step)⟩
noncomputable def num_size.con : Con
  | [.int .i64 a0] => some ((num_size.f a0).isSome, .int .u64 (gd (num_size.f a0)))
  | _ => none
set_option maxRecDepth 100000 in
theorem num_size.cok : COk Try.prog 89 (num_size.con) := by
  intro args p v hc hp w A hA
  unfold num_size.con at hc
  split at hc
  · rename_i a0
    simp only [Option.some.injEq, Prod.mk.injEq] at hc
    obtain ⟨rfl, rfl⟩ := hc
    rcases hf : num_size.f a0 with _ | r
    · rw [hf] at hp; cases hp
    obtain rfl : A = [.int .i64 a0] := by simpa [rl_cons, rl_nil, rv_int, rv_bool, rv_str, rv_agg, rv_fn] using hA
    exact gives_of_calls (fn := Try.f89) Try.func89 (by kernel_rfl) (by kernel_rfl) (num_size.calls _ _ w hf) (fun _ => by simp [gd_some, rl_cons, rl_nil, rv_int, rv_bool, rv_str, rv_agg, rv_tup]) (fun _ h => h.below)
  · cases hc
def num_product.f (a0 : Int) (a1 : Int) : Option (Int × Int) := (num_size.f a0).bind fun t180 => ((num_size.f a1).bind fun t181 => ((bits_Mul64.f t180 t181).bind fun bt182 => (some (bt182.1, bt182.2))))
set_option maxRecDepth 100000 in
theorem num_product.vc (a0 : Int) (a1 : Int) (K : AV → Prop) : afv PA Try.prog (tab [(88, bits_Mul64.con), (89, num_size.con)]) noLoops 2 75 [.int .i64 a0, .int .i64 a1] K = (brc (Option.isSome (num_size.f a0)) (∀ (m0 : Int), m0 = gd (num_size.f a0) → brc (Option.isSome (num_size.f a1)) (∀ (m1 : Int), m1 = gd (num_size.f a1) → brc (Option.isSome (bits_Mul64.f m0 m1)) (∀ (m2 : Int), m2 = Prod.fst (gd (bits_Mul64.f m0 m1)) → ∀ (m3 : Int), m3 = Prod.snd (gd (bits_Mul64.f m0 m1)) → K (AV.agg [AV.int IntKind.u64 m2, AV.int IntKind.u64 m3])) False) False) False) := by kernel_rfl
set_option maxHeartbeats 1000000 in
set_option maxRecDepth 100000 in
theorem num_product.calls (a0 : Int) (a1 : Int) (r1 : Int) (r2 : Int) (w : World) (h : num_product.f a0 a1 = some (r1, r2)) :
    Calls Try.prog 75 #[.int .i64 a0, .int .i64 a1] w fun e w' => e = .returned (.agg #[.int .u64 r1, .int .u64 r2]) ∧ Below w.heap.size w w' := by
  refine calls_of_vc (A := [.int .i64 a0, .int .i64 a1]) (v := .agg [.int .u64 r1, .int .u64 r2]) (tab_cons (bits_Mul64.cok) (tab_cons (num_size.cok) (tab_nil))) ((num_product.vc a0 a1 _).mpr ?_) (by simp [rl_cons, rl_nil, rv_int, rv_bool, rv_str, rv_agg, rv_fn]) (fun ρ V' hV => by simpa [rl_cons, rl_nil, rv_int, rv_bool, rv_str, rv_agg, rv_tup] using hV)
  unfold num_product.f at h
  simp only [bne, Option.bind_eq_some_iff, ite_some_iff] at h
  simp only [bne, brc_iff, wrap_i64]
  first
    | grind (splits := 60) [gd_some]
    | ((repeat' (first | (have or_ : Or _ _ := h; clear or_; rcases h with h | h) | (have or_ : Exists _ := h; clear or_; obtain ⟨_, h⟩ := h) | (have or_ : And _ _ := h; clear or_; obtain ⟨_, h⟩ := h))) <;> simp only [Option.some.injEq, Prod.mk.injEq, reduceCtorEq] at h <;> (try subst_vars) <;> simp_all [gd_some] <;> (try omega) <;> done)
    | (intros; subst_vars; simp_all [gd_some]; done)
noncomputable def num_product.con : Con
  | [.int .i64 a0, .int .i64 a1] => some ((num_product.f a0 a1).isSome, .agg [.int .u64 (gd (num_product.f a0 a1)).1, .int .u64 (gd (num_product.f a0 a1)).2])
  | _ => none
set_option maxRecDepth 100000 in
theorem num_product.cok : COk Try.prog 75 (num_product.con) := by
  intro args p v hc hp w A hA
  unfold num_product.con at hc
  split at hc
  · rename_i a0 a1
    simp only [Option.some.injEq, Prod.mk.injEq] at hc
    obtain ⟨rfl, rfl⟩ := hc
    rcases hf : num_product.f a0 a1 with _ | ⟨r1, r2⟩
    · rw [hf] at hp; cases hp
    obtain rfl : A = [.int .i64 a0, .int .i64 a1] := by simpa [rl_cons, rl_nil, rv_int, rv_bool, rv_str, rv_agg, rv_fn] using hA
    exact gives_of_calls (fn := Try.f75) Try.func75 (by kernel_rfl) (by kernel_rfl) (num_product.calls _ _ _ _ w hf) (fun _ => by simp [gd_some, rl_cons, rl_nil, rv_int, rv_bool, rv_str, rv_agg, rv_tup]) (fun _ h => h)
  · cases hc
end Go.Proofs.Ytgjbdojpncmmlaa.P

import Derived.Test.YtimgphlfaninnaaGreatQkocgmhcmam
import Derived.OrdersIn
import Derived.RangeFuncRecord
import Derived.Test.YtimgphlfaninnaaGreatProg
import Derived.Laws.Externs
namespace Go.Proofs.YtimgphlfaninnaaGreat.A
open Go Go.RowKit
set_option linter.unusedVariables false
set_option linter.unusedSimpArgs false
variable {P : Program} {ρ : Names} {W w : World} {T : Tab} {ops : Array Oper}
theorem zA {p : Prop} (h : PA.no) : p := False.elim h
abbrev FR (r : Option Nat) : Fence := { Fence.wide with round := r }
theorem fencedFR (P : Program) (r : Option Nat) (m : Machine) : m.fenced P (FR r) := fenced_wide P m
theorem roomFR (r : Option Nat) (n : Nat) : (FR r).room n := room_wide n
theorem callsFR {r : Option Nat} {n : Nat} {P : Program} {f : FuncId} {args : Array Value} {w : World} {R : Ending → World → Prop} (h : Calls P f args w R) : CallsIn (FR r) n P f args w R :=
 (callsIn_wide.2 h : CallsIn Fence.wide n P f args w R)
theorem rowsFR {r : Option Nat} {n : Nat} {P : Program} {row : String} {args : Array Value} {w : World} {R : Value → World → Prop} (h : Rows P row args w R) : RowsIn (FR r) n P row args w R :=
 fun c cs _ => let ⟨v, w', q, s⟩ := h c cs; ⟨v, w', q, (StepsIn.of_steps s).mono fun m _ => fencedFR P r m⟩
theorem wpIn_of_wp {r : Option Nat} {n : Nat} {P : Program} {o : Oper} {a : Act} {w : World} {K : Act → World → Prop} {Q : Exit → Act → World → Prop} (hd : ∀ c, o.op ≠ .defer c) (h : o.wp P a w K Q) : o.wpIn (FR r) n P a w K Q := by
 unfold Oper.wp at h
 unfold Oper.wpIn
 refine ⟨fun _ _ => trivial, ?_⟩
 rw [Oper.semAt_eq _ _ _ hd]
 generalize (execOp a.eval o).run P w = res at h
 cases res with
 | ok x w' =>
  cases x <;> simp only [Oper.upon, Oper.uponIn] at h ⊢ <;> first
   | exact h
   | exact ⟨fun e => by simp [Fence.wide] at e, callsFR h⟩
   | exact ⟨fun e => by simp [Fence.wide] at e, rowsFR h⟩
   | exact h.elim
 | halt x w' => cases x <;> simp only [Oper.upon, Oper.uponIn] at h ⊢ <;> exact h
def mkD (r : Nat) : Deferred := { target := .collected r, args := #[] }
inductive RD (ρ : Names) : List Nat → List Deferred → Prop
 | nil : RD ρ [] []
 | cons {n r : Nat} {l : List Nat} {L : List Deferred} (h : ρ n = some (r, 0)) (t : RD ρ l L) : RD ρ (n :: l) (mkD r :: L)
theorem RD.ext {ρ ρ' : Names} (he : Ext ρ ρ') : ∀ {l : List Nat} {L : List Deferred}, RD ρ l L → RD ρ' l L
 | _, _, .nil => .nil
 | _, _, .cons h t => .cons (he _ _ h) (RD.ext he t)
structure RelS (ρ : Names) (W : World) (st : St) (a : Act) (w : World) : Prop where
 t : TR ρ W st.t a.tmps
 h : Rel ρ W st.h w
 d : RD ρ st.d a.defers
theorem TR.put {ρ' : Names} {t : List (Option AV)} {a : Act} (h : TR ρ W t a.tmps) (he : Ext ρ ρ') {v : AV} {V : Value} (hv : RV ρ' W v V) (dst : Option Tmp) : TR ρ' W (putT t dst v) (a.put dst V).tmps := by
 cases dst with
 | none => exact h.ext he
 | some d =>
  refine ⟨by simp [putT, Act.put, h.len], fun i u hu => ?_⟩
  simp only [putT, List.getElem?_set] at hu
  simp only [Act.put, Array.getElem?_setIfInBounds]
  have hl := h.len
  split at hu
  · rename_i hd
    subst hd
    split at hu
    · rename_i hlt
      simp at hu; subst hu
      exact ⟨V, by simp; omega, hv⟩
    · cases hu
  · rename_i hd
    rw [if_neg hd]
    obtain ⟨U, h1, h2⟩ := h.get i u hu
    exact ⟨U, h1, h2.ext he⟩
theorem put_defers (a : Act) (dst : Option Tmp) (V : Value) : (a.put dst V).defers = a.defers := by cases dst <;> rfl
theorem RelS.ev {st : St} {a : Act} (h : RelS ρ W st a w) {tm : Nat → Option AV} (ht : ∀ t v, tm t = some v → st.t[t]? = some (some v)) : ∀ x v, evOf tm x = some v → RV ρ W v (a.eval x) := by
 intro x v hx
 cases x with
 | tmp t =>
  obtain ⟨V, h1, h2⟩ := h.t.get t v (ht t v hx)
  simp only [Act.eval, Array.getD_eq_getD_getElem?, h1, Option.getD_some]; exact h2
 | const v' => exact ofV_ok ρ W 3 _ _ hx
 | global g => simp [evOf] at hx
 | func f => simp [evOf] at hx; subst hx; exact .fn _ .nil .nil
theorem RelS.ev0 {st : St} {a : Act} (h : RelS ρ W st a w) : ∀ x v, evOf (tmAll st) x = some v → RV ρ W v (a.eval x) := h.ev fun _ _ => tmAll_some
theorem RelS.wanted {st : St} {a : Act} (h : RelS ρ W st a w) {tm : Nat → Option AV} (ht : ∀ t v, tm t = some v → st.t[t]? = some (some v)) {o : Oper} {b : Bool} (hq : wantedA ops tm o = some b) : Region.wanted o (yielded ops a.tmps) = b := by
 unfold wantedA at hq
 unfold Region.wanted
 split at hq
 · rename_i hg; simp at hq; subst hq; simp [hg]
 · rename_i j want hg
   simp only [hg]
   split at hq
   case h_2 => cases hq
   rename_i d hd
   split at hq
   · rename_i b' hb
     obtain ⟨V, h1, h2⟩ := h.t.get d _ (ht _ _ hb)
     cases h2
     simp only [yielded, hd, Option.bind_some, h1]
     simp at hq; subst hq
     cases want <;> cases b' <;> rfl
   · rename_i hb
     obtain ⟨V, h1, h2⟩ := h.t.get d _ (ht _ _ hb)
     cases h2
     simp only [yielded, hd, Option.bind_some, h1]
     simp at hq; subst hq
     cases want <;> rfl
   · cases hq
def InlOk (P : Program) (inl : Inl Prop) : Prop :=
 ∀ (o : Oper) (e : Operand → Option AV) (h : Heap) (Kx : AV → Heap → Prop), inl o e h Kx →
  ∀ (ρ : Names) (W w : World) (a : Act), Rel ρ W h w → (∀ x v, e x = some v → RV ρ W v (a.eval x)) → ∀ (K : Act → World → Prop) (Q : Exit → Act → World → Prop),
   (∀ ρ' V w' v h', Ext ρ ρ' → RV ρ' W v V → Rel ρ' W h' w' → Kx v h' → K (a.put o.dst V) w') → ∀ (r : Option Nat) (n : Nat), o.wpIn (FR r) n P a w K Q
theorem noInl_ok (P : Program) : InlOk P (noInl PA) := fun _ _ _ _ h => zA h
variable {rr : Option Nat} {dp : Nat}
theorem step_ok (hT : TabOk P T) {ok : Nat → Nat → Bool} {lk : Lk} (hlk : LkOk lk) {rd : Nat → Heap → Nat → Option Ob} (hrd : ∀ i h n x, rd i h n = some x → h[n]? = some (some x)) {nm : Nat → Heap → Nat} {inl : Inl Prop}
 (hI : InlOk P inl) {i : Nat} {K : St → Prop} {st : St} {a : Act} (hs : RelS ρ W st a w) (hn : (∃ o, ops[i]? = some o) → Fresh st.h (nm i st.h)) (hq : stepA PA P T ok lk ops rd nm inl i K st) {K' : Act → World → Prop} {Q : Exit → Act → World → Prop}
 (hK : ∀ ρ' st' a' w', Ext ρ ρ' → RelS ρ' W st' a' w' → K st' → K' a' w') : wpOpIn (FR rr) dp P ops Q i K' a w := by
 rw [stepA_eq PA P T ok hlk] at hq
 unfold stepB at hq
 rw [getL_eq, Array.getElem?_toList] at hq
 unfold wpOpIn
 split at hq
 · rename_i ho; simp only [ho]; exact hK ρ st a w (Ext.refl ρ) hs hq
 · rename_i o ho
   simp only [ho]
   split at hq
   · exact zA hq
   · rename_i b hb
     rw [hs.wanted (hlk o st) hb]
     cases b with
     | false =>
      simp only [Bool.false_eq_true, if_false]
      simp only [PA, brc, fst_eq] at hq
      exact ⟨fun _ _ => trivial, hK ρ ⟨putT st.t o.dst .undef, st.h, st.d⟩ _ w (Ext.refl ρ) ⟨hs.t.put (Ext.refl ρ) .undef o.dst, hs.h, by rw [put_defers]; exact hs.d⟩ hq⟩
     | true =>
      simp only [if_true]
      simp only [PA, brc] at hq
      split at hq
      · rename_i p v f hv
        cases hok : effOk (ok i) f with
        | false => rw [hok] at hq; exact zA hq
        | true =>
        rw [hok] at hq
        obtain ⟨rfl, hq⟩ := brc_false.1 hq
        rw [fx_eq, fy_eq, fst_eq] at hq
        have hd : ∀ c, o.op ≠ .defer c := fun c e => by simp [opw, opv, heavy, e] at hv
        refine wpIn_of_wp hd ?_
        exact opw_ok hT hs.h (hrd i st.h) (hn ⟨o, ho⟩) (hs.ev (hlk o st)) hv fun ρ' w' V he hV hR => hK ρ' _ _ w' he ⟨hs.t.put he hV o.dst, hR, by rw [put_defers]; exact hs.d.ext he⟩ hq
      · exact hI o _ _ _ hq ρ W w a hs.h (hs.ev (hlk o st)) K' Q (fun ρ' V w' v h' he hV hR hk => hK ρ' ⟨putT st.t o.dst v, h', st.d⟩ _ w' he ⟨hs.t.put he hV o.dst, hR, by rw [put_defers]; exact hs.d.ext he⟩ (by rw [fv_eq, fst_eq] at hk; exact hk)) rr dp
theorem rdFlat_ok (h : Heap) (n : Nat) (x : Ob) (hq : rdFlat h n = some x) : h[n]? = some (some x) := by
 unfold rdFlat at hq
 rw [getL_eq] at hq
 cases hg : h[n]? with
 | none => simp [hg] at hq
 | some u => simp [hg] at hq; rw [hq]
theorem rdDrawn_ok (base : Nat) (bf : List Nat) (own : List (Nat × Nat)) (i : Nat) (h : Heap) (n : Nat) (x : Ob) (hq : rdDrawn base bf own i h n = some x) : h[n]? = some (some x) := by
 unfold rdDrawn at hq
 split at hq
 · exact rdFlat_ok h n x (by unfold rdFlat; rw [getL_eq]; exact hq)
 · cases hq
theorem opsA_ok (hT : TabOk P T) {inl : Inl Prop} (hI : InlOk P inl) {Q : Exit → Act → World → Prop} {K : St → Prop} : ∀ (l : List Nat) {ρ : Names} {st : St} {a : Act} {w : World}, RelS ρ W st a w →
 opsA PA P T (fun _ _ => true) lkAll ops (fun _ => rdFlat) (fun _ h => h.length) inl l st K → (∀ ρ' st' a' w', Ext ρ ρ' → RelS ρ' W st' a' w' → K st' → Q .normal a' w') → wpOpsIn (FR rr) dp P ops Q l a w
 | [], ρ, st, a, w, hs, hq, hK => hK ρ st a w (Ext.refl ρ) hs hq
 | i :: r, ρ, st, a, w, hs, hq, hK => by
  rw [wpOpsIn_cons]
  exact step_ok hT lkAll_ok (fun _ => rdFlat_ok) hI hs (fun _ => .inl rfl) hq fun ρ' st' a' w' he hs' hq' => opsA_ok hT hI r hs' hq' fun ρ2 st2 a2 w2 he2 => hK ρ2 st2 a2 w2 (he.trans he2)
def Good (base : Nat) (bf : List Nat) (mask : Nat) (own : List (Nat × Nat)) (i : Nat) : Eff → Prop
 | .set n _ | .two n _ _ => if n < base then (i, n) ∈ own ∧ okOld bf own i n = true else mask.testBit (n - base) = true ∧ (bf.getD i 0).testBit (n - base) = true
 | _ => True
theorem opv_set {rd : Nat → Option Ob} {nm : Nat} {e : Operand → Option AV} {o : Oper} {p : Bool} {v : AV} {n : Nat} {x : Ob} (hv : opv P T rd nm e o = some (p, v, .set n x)) : isStore o.op = true ∧ ∃ y, rd n = some y := by
 have plain : ∀ {r : Option AV}, plainOut r = some (p, v, .set n x) → False := fun {r} h => by
  cases r <;> simp [plainOut] at h
 have cond : ∀ {r : Option (Bool × AV)}, condOut r = some (p, v, .set n x) → False := fun {r} h => by
  cases r with
  | none => simp [condOut] at h
  | some p => obtain ⟨p, q⟩ := p; simp [condOut] at h
 have giv : ∀ {r : AV}, give r = some (p, v, .set n x) → False := fun {r} h => by
  simp [give] at h
 have bx : ∀ {r : AV}, boxOut nm r = some (p, v, .set n x) → False := fun {r} h => by
  unfold boxOut at h; split at h <;> simp at h
 unfold opv at hv
 split at hv
 case h_8 t a b hop =>
  refine ⟨by simp [isStore, hop], ?_⟩
  split at hv
  · rename_i u u' h1 h2
    simp only [Option.map_eq_some_iff] at hv
    obtain ⟨⟨m, ob⟩, hs, hv⟩ := hv
    simp at hv
    obtain ⟨_, _, rfl, rfl⟩ := hv
    unfold storeA at hs
    split at hs
    case h_3 => cases hs
    all_goals
     split at hs
     case h_2 => cases hs
     rename_i hl
     split at hs
     case isFalse => cases hs
     simp at hs
     exact ⟨_, hs.1 ▸ hl⟩
  · cases hv
 case h_21 =>
  exfalso
  split at hv
  · split at hv
    · exact plain hv
    · cases hv
  · unfold callA resOut at hv
    (repeat' split at hv) <;> simp at hv
 case h_23 =>
  exfalso
  split at hv
  · unfold litOut at hv
    (repeat' split at hv) <;> simp at hv
  · cases hv
 case h_24 =>
  exfalso
  split at hv
  · unfold makeOut at hv
    (repeat' split at hv) <;> simp at hv
  · cases hv
 all_goals (exfalso; first | exact plain hv | (split at hv <;> first | exact plain hv | exact cond hv | exact giv hv | exact bx hv | cases hv) | cases hv)
theorem opv_two {rd : Nat → Option Ob} {nm : Nat} {e : Operand → Option AV} {o : Oper} {p : Bool} {v : AV} {n : Nat} {x y : Ob} (hv : opv P T rd nm e o = some (p, v, .two n x y)) : False := by
 have plain : ∀ {r : Option AV}, plainOut r = some (p, v, .two n x y) → False := fun {r} h => by
  cases r <;> simp [plainOut] at h
 have cond : ∀ {r : Option (Bool × AV)}, condOut r = some (p, v, .two n x y) → False := fun {r} h => by
  cases r with
  | none => simp [condOut] at h
  | some p => obtain ⟨p, q⟩ := p; simp [condOut] at h
 have giv : ∀ {r : AV}, give r = some (p, v, .two n x y) → False := fun {r} h => by
  simp [give] at h
 have bx : ∀ {r : AV}, boxOut nm r = some (p, v, .two n x y) → False := fun {r} h => by
  unfold boxOut at h; split at h <;> simp at h
 unfold opv at hv
 split at hv
 case h_8 t a b hop =>
  split at hv
  · simp only [Option.map_eq_some_iff] at hv
    obtain ⟨⟨m, ob⟩, hs, hv⟩ := hv
    simp at hv
  · cases hv
 case h_21 =>
  split at hv
  · split at hv
    · exact plain hv
    · cases hv
  · unfold callA resOut at hv
    (repeat' split at hv) <;> simp at hv
 case h_23 =>
  split at hv
  · unfold litOut at hv
    (repeat' split at hv) <;> simp at hv
  · cases hv
 case h_24 =>
  split at hv
  · unfold makeOut at hv
    (repeat' split at hv) <;> simp at hv
  · cases hv
 all_goals (first | exact plain hv | (split at hv <;> first | exact plain hv | exact cond hv | exact giv hv | exact bx hv | cases hv) | cases hv)
theorem xop_set {rd : Nat → Option Ob} {nm : Nat} {e : Operand → Option AV} {o : Oper} {p : Bool} {v : AV} {n : Nat} {x : Ob} {al : Option Ob} (hh : heavy o.op = true) (hq : xop P o e rd nm = some (p, v, some (n, x), al)) : ∃ y, rd n = some y := by
 unfold xop at hq
 split at hq
 case h_3 t x' ix y hop =>
  split at hq
  case h_2 => cases hq
  split at hq
  case h_2 => cases hq
  rename_i ho hl
  (repeat' split at hq) <;> simp at hq
  all_goals exact ⟨_, hq.2.2.1.1 ▸ hl⟩
 case h_4 t x' ix y hop =>
  split at hq
  case h_2 => cases hq
  split at hq
  case h_2 => cases hq
  rename_i ho hl
  (repeat' split at hq) <;> simp at hq
  all_goals exact ⟨_, hq.2.2.1.1 ▸ hl⟩
 case h_6 c hop =>
  split at hq
  case h_2 => cases hq
  split at hq
  case h_2 => cases hq
  split at hq
  case isFalse => cases hq
  unfold appendX at hq
  split at hq
  · rename_i r hA
    simp only [Option.some.injEq] at hq; subst hq
    have hq := hA
    clear hA
    unfold appendA at hq
    split at hq
    case h_2 => cases hq
    split at hq
    case h_2 => cases hq
    split at hq
    case h_2 => cases hq
    split at hq
    case isFalse => cases hq
    split at hq
    case h_3 => cases hq
    case h_1 =>
     split at hq
     case isFalse => cases hq
     simp at hq
    case h_2 =>
     split at hq
     case h_2 => cases hq
     rename_i hl
     split at hq
     case isFalse => cases hq
     simp at hq
     exact ⟨_, hq.2.2.1.1 ▸ hl⟩
  · split at hq
    · rename_i r hB
      simp only [Option.some.injEq] at hq; subst hq
      have hq := hB
      clear hB
      unfold appendB at hq
      split at hq
      case h_2 => cases hq
      split at hq
      case h_2 => cases hq
      split at hq
      case isFalse => cases hq
      split at hq
      case h_2 => cases hq
      split at hq
      case h_3 => cases hq
      case h_1 => simp at hq
      case h_2 =>
       split at hq
       case h_3 => cases hq
       all_goals
        rename_i hl
        split at hq
        case isFalse => cases hq
        simp at hq
        exact ⟨_, hq.2.2.1.1 ▸ hl⟩
    · exfalso
      unfold appendC at hq
      (repeat' split at hq) <;> simp at hq
 all_goals (rename_i hop; simp [hop, heavy] at hh)
theorem opw_set {rd : Nat → Option Ob} {nm : Nat} {e : Operand → Option AV} {o : Oper} {p : Bool} {v : AV} {n : Nat} {f : Eff} (hv : opw P T rd nm e o = some (p, v, f)) (hf : f.sets = some n) : isStore o.op = true ∧ ∃ y, rd n = some y := by
 unfold opw at hv
 split at hv
 · rename_i r hr
   simp at hv; subst hv
   cases f with
   | set m x => simp [Eff.sets] at hf; subst hf; exact opv_set hr
   | two m x y => exact (opv_two hr).elim
   | _ => simp [Eff.sets] at hf
 split at hv
 case h_2 => cases hv
 rename_i hh
 split at hv
 case h_2 => cases hv
 rename_i p' v' s al hq
 simp at hv
 obtain ⟨rfl, rfl, rfl⟩ := hv
 refine ⟨?_, ?_⟩
 · cases ho : o.op <;> simp_all [isStore, heavy]
 · rcases s with _ | ⟨m, x⟩
   · cases al <;> simp [effOf, Eff.sets] at hf
   · have : m = n := by cases al <;> simpa [effOf, Eff.sets] using hf
     subst this
     exact xop_set hh hq
section drawn
variable (P T ops) (base : Nat) (bf : List Nat) (mask : Nat) (own : List (Nat × Nat))
abbrev stepD (i : Nat) (K : St → Prop) (st : St) : Prop := stepA PA P T (okDrawn base mask own) (lkOf ops) ops (rdDrawn base bf own) (fun i _ => base + i) (noInl PA) i K st
theorem stepD_cases {i : Nat} {o : Oper} (ho : ops[i]? = some o) (st : St) :
 (∀ K, ¬ stepD P T ops base bf mask own i K st) ∨ ∃ v f, Good base bf mask own i f ∧ (∀ n, f.sets = some n → isStore o.op = true) ∧ ∀ K, (stepD P T ops base bf mask own i K st ↔ K ⟨putT st.t o.dst v, effH st.h (base + i) f, st.d⟩) ∧
  ∀ st2 : St, tmOf st2 (o.looksAt ops) = tmOf st (o.looksAt ops) → rdDrawn base bf own i st2.h = rdDrawn base bf own i st.h → (stepD P T ops base bf mask own i K st2 ↔ K ⟨putT st2.t o.dst v, effH st2.h (base + i) f, st2.d⟩) := by
 simp only [stepD, stepA_eq PA P T (okDrawn base mask own) (lkOf_ok ops)]
 simp only [stepB, getL_eq, Array.getElem?_toList, ho, fx_eq, fv_eq, fy_eq, fst_eq, PA, lkOf]
 cases hw : wantedA ops (tmOf st (o.looksAt ops)) o with
 | none => exact .inl fun K h => h
 | some b =>
  cases b with
  | false =>
   refine .inr ⟨.undef, .no, trivial, (fun _ h => by simp [Eff.sets] at h), fun K => ⟨by simp [brc, effH], fun st2 h1 h2 => ?_⟩⟩
   rw [h1, hw]; simp [brc, effH]
  | true =>
   simp only [brc]
   cases hv : opw P T (rdDrawn base bf own i st.h) (base + i) (evOf (tmOf st (o.looksAt ops))) o with
   | none =>
    refine .inl fun K h => ?_
    simp only [noInl, PA] at h
   | some r =>
    obtain ⟨p, v, f⟩ := r
    cases hok : effOk (okDrawn base mask own i) f with
    | false => exact .inl fun K h => by simp only [hok] at h; exact h
    | true =>
    cases p with
    | false => exact .inl fun K h => by simp only [hok, Bool.cond_true] at h
    | true =>
     refine .inr ⟨v, f, ?_, fun n hf => ?_, fun K => ⟨by simp [hok, stepSt], fun st2 h1 h2 => ?_⟩⟩
     · have key : ∀ n, f.sets = some n → if n < base then (i, n) ∈ own ∧ okOld bf own i n = true else mask.testBit (n - base) = true ∧ (bf.getD i 0).testBit (n - base) = true := by
        intro n hn0
        obtain ⟨_, y, hy⟩ := opw_set hv hn0
        have hok' : okDrawn base mask own i n = true := by
         cases f <;> simp [Eff.sets] at hn0 <;> subst hn0 <;> simpa [effOk] using hok
        simp only [okDrawn] at hok'
        unfold rdDrawn at hy
        by_cases hn : n < base
        · simp only [hn, decide_true, Bool.cond_true, List.any_eq_true, Bool.and_eq_true, beq_iff_eq] at hok' hy
          obtain ⟨⟨j, m⟩, hm, rfl, rfl⟩ := hok'
          split at hy
          · rename_i hc
            rw [if_pos hn]
            exact ⟨hm, hc⟩
          · cases hy
        · simp only [hn, decide_false, Bool.cond_false] at hok' hy
          split at hy
          · rename_i hc
            rw [if_neg hn]
            exact ⟨hok', hc⟩
          · cases hy
       cases f with
       | set n x => exact key n rfl
       | two n x y => exact key n rfl
       | _ => trivial
     · exact (opw_set hv hf).1
     · rw [h1, h2, hw]
       simp only [brc, hv, hok, Bool.cond_true, stepSt, true_and]
theorem tmOf_put {st : St} {ts : List Nat} {dst : Option Tmp} {v : AV} {h' : Heap} (hd : ∀ d, dst = some d → d ∉ ts) : tmOf ⟨putT st.t dst v, h', st.d⟩ ts = tmOf st ts := by
 funext t
 simp only [tmOf, tmAll, getL_eq]
 split
 · rename_i hc
   cases dst with
   | none => rfl
   | some d =>
    have : d ≠ t := fun e => hd d rfl (by subst e; simpa using hc)
    simp [putT, List.getElem?_set, this]
 · rfl
theorem effH_two (h : Heap) (m n : Nat) (x o : Ob) : effH h m (.two n x o) = effH (effH h m (.set n x)) m (.alloc o) := rfl
theorem effH_other {h : Heap} {m : Nat} {f : Eff} (hm : m < h.length) (n : Nat) (hn : n ≠ m) (hs : ∀ k, f.sets = some k → n ≠ k) : (effH h m f)[n]? = h[n]? := by
 cases f with
 | no => rfl
 | alloc o => simp only [effH]; rw [if_pos hm, List.getElem?_set]; simp [Ne.symm hn]
 | set k o => simp only [effH]; rw [List.getElem?_set]; simp [Ne.symm (hs k rfl)]
 | two k x o =>
  simp only [effH]
  rw [if_pos (by simpa using hm), List.getElem?_set, List.getElem?_set]
  simp [Ne.symm hn, Ne.symm (hs k rfl)]
theorem effH_length {h : Heap} {m : Nat} {f : Eff} (hm : m < h.length) : (effH h m f).length = h.length := by
 cases f with
 | no => rfl
 | alloc o => simp only [effH]; rw [if_pos hm]; simp
 | set n o => simp [effH]
 | two n x o => simp only [effH]; rw [if_pos (by simpa using hm)]; simp
structure Free (x y : Oper) (i j : Nat) : Prop where
 ne : i ≠ j
 ap : x.apart ops y = true
 bi : (bf.getD j 0).testBit i = false
 bj : (bf.getD i 0).testBit j = false
 st : isStore x.op = true ∨ isStore y.op = true → ∀ k, mask.testBit k = true → (bf.getD i 0).testBit k = true → (bf.getD j 0).testBit k = true → False
theorem Good.away {i j : Nat} {x y : Oper} (F : Free ops bf mask x y i j) {n : Nat} {f : Eff} (hf : Good base bf mask own i f) (hn0 : f.sets = some n) (sf : isStore x.op = true) : n ≠ base + j ∧ cond (n < base) (okOld bf own j n) ((bf.getD j 0).testBit (n - base)) = false := by
 have hf : if n < base then (i, n) ∈ own ∧ okOld bf own i n = true else mask.testBit (n - base) = true ∧ (bf.getD i 0).testBit (n - base) = true := by
  cases f <;> simp [Eff.sets] at hn0 <;> subst hn0 <;> exact hf
 by_cases hn : n < base
 · rw [if_pos hn] at hf
   refine ⟨by omega, ?_⟩
   simp only [hn, decide_true, Bool.cond_true]
   cases h : okOld bf own j n with
   | false => rfl
   | true =>
    have := List.all_eq_true.1 h _ hf.1
    simp only [bne_self_eq_false, Bool.false_or, Bool.or_eq_true, beq_iff_eq, F.bi, F.bj, Bool.false_eq_true, or_false] at this
    exact (F.ne this).elim
 · rw [if_neg hn] at hf
   refine ⟨fun e => ?_, ?_⟩
   · have := hf.2
     rw [show n - base = j by omega, F.bj] at this; cases this
   · simp only [hn, decide_false, Bool.cond_false]
     cases h : (bf.getD j 0).testBit (n - base) with
     | false => rfl
     | true => exact (F.st (.inl sf) _ hf.1 hf.2 h).elim
theorem Free.symm {x y : Oper} {i j : Nat} (F : Free ops bf mask x y i j) (hxy : y.apart ops x = true) : Free ops bf mask y x j i := ⟨F.ne.symm, hxy, F.bj, F.bi, fun h k a b c => F.st h.symm k a c b⟩
theorem apart_symm {x y : Oper} (h : x.apart ops y = true) : y.apart ops x = true := by
 obtain ⟨a1, a2, a3⟩ := Oper.apart_spec h
 unfold Oper.apart
 cases hx : x.dst with
 | none =>
  cases hy : y.dst with
  | none => simp
  | some e => simpa using a3 e hy
 | some d =>
  cases hy : y.dst with
  | none => simpa using a1 d hx
  | some e =>
   have h1 := a1 d hx
   have h2 := a2 d hx
   have h3 := a3 e hy
   rw [hy] at h2
   simp at h2
   simp [h1, h3]
   exact fun q => h2 q.symm
theorem effH_comm1 {h : Heap} {i j : Nat} {x y : Oper} (F : Free ops bf mask x y i j) {f g : Eff} (hf : Good base bf mask own i f) (hg : Good base bf mask own j g) (sf : ∀ n, f.sets = some n → isStore x.op = true) (sg : ∀ n, g.sets = some n → isStore y.op = true) (nf : ∀ n x o, f ≠ .two n x o) (ng : ∀ n x o, g ≠ .two n x o)
 (hi : base + i < h.length) (hj : base + j < h.length) : effH (effH h (base + i) f) (base + j) g = effH (effH h (base + j) g) (base + i) f := by
 have e : ∀ {h : Heap} {m : Nat} (o : Ob), m < h.length → effH h m (.alloc o) = h.set m (some o) := fun {h m} o hm => by simp only [effH]; rw [if_pos hm]
 have s : ∀ {h : Heap} {m n : Nat} (o : Ob), effH h m (.set n o) = h.set n (some o) := fun {h m n} o => rfl
 have hne := F.ne
 have F' := F.symm ops bf mask (apart_symm ops F.ap)
 cases f with
 | no => rfl
 | two n x o => exact (nf _ _ _ rfl).elim
 | alloc o =>
  cases g with
  | no => rfl
  | two n x o => exact (ng _ _ _ rfl).elim
  | alloc o' => rw [e o hi, e o' hj, e o' (by simpa using hj), e o (by simpa using hi), List.set_comm _ _ (by omega)]
  | set n o' =>
   rw [e o hi, s, s, e o (by simpa using hi), List.set_comm]
   intro hn
   exact (Good.away ops base bf mask own F' hg rfl (sg _ rfl)).1 hn.symm
 | set n o =>
  have w1 := Good.away ops base bf mask own F hf rfl (sf _ rfl)
  cases g with
  | no => rfl
  | two n x o => exact (ng _ _ _ rfl).elim
  | alloc o' =>
   rw [s, e o' (by simpa using hj), e o' hj, s, List.set_comm]
   exact w1.1
  | set m o' =>
   rw [s, s, s, s, List.set_comm]
   intro hn
   subst hn
   have w2 := w1.2
   simp only [Good] at hg
   by_cases hb : n < base
   · rw [if_pos hb] at hg
     simp only [hb, decide_true, Bool.cond_true] at w2
     rw [hg.2] at w2; cases w2
   · rw [if_neg hb] at hg
     simp only [hb, decide_false, Bool.cond_false] at w2
     rw [hg.2] at w2; cases w2
theorem effH_comm {h : Heap} {i j : Nat} {x y : Oper} (F : Free ops bf mask x y i j) {f g : Eff} (hf : Good base bf mask own i f) (hg : Good base bf mask own j g) (sf : ∀ n, f.sets = some n → isStore x.op = true) (sg : ∀ n, g.sets = some n → isStore y.op = true)
 (hi : base + i < h.length) (hj : base + j < h.length) : effH (effH h (base + i) f) (base + j) g = effH (effH h (base + j) g) (base + i) f := by
 have F' := F.symm ops bf mask (apart_symm ops F.ap)
 have one : ∀ {h : Heap}, base + i < h.length → base + j < h.length → ∀ g : Eff, Good base bf mask own j g → (∀ n, g.sets = some n → isStore y.op = true) → (∀ n x o, g ≠ .two n x o) → effH (effH h (base + i) f) (base + j) g = effH (effH h (base + j) g) (base + i) f := by
  intro h hi hj g hg sg ng
  cases f with
  | two n a o =>
   have c1 := effH_comm1 ops base bf mask own F (h := effH h (base + i) (.set n a)) (f := .alloc o) (g := g) trivial hg (fun _ h => by simp [Eff.sets] at h) sg (by simp) ng (by rw [effH_length hi]; exact hi) (by rw [effH_length hi]; exact hj)
   have c2 := effH_comm1 ops base bf mask own F (h := h) (f := .set n a) (g := g) hf hg (fun m hm => sf m hm) sg (by simp) ng hi hj
   rw [effH_two, effH_two, c1, c2]
  | no => exact effH_comm1 ops base bf mask own F hf hg sf sg (by simp) ng hi hj
  | alloc o => exact effH_comm1 ops base bf mask own F hf hg sf sg (by simp) ng hi hj
  | set n o => exact effH_comm1 ops base bf mask own F hf hg sf sg (by simp) ng hi hj
 cases g with
 | two n a o =>
  have c1 := one (h := effH h (base + j) (.set n a)) (by rw [effH_length hj]; exact hi) (by rw [effH_length hj]; exact hj) (.alloc o) trivial (fun _ h => by simp [Eff.sets] at h) (by simp)
  have c2 := one hi hj (.set n a) hg (fun m hm => sg m hm) (by simp)
  rw [effH_two, effH_two, ← c1, ← c2]
 | no => exact one hi hj _ hg sg (by simp)
 | alloc o => exact one hi hj _ hg sg (by simp)
 | set n o => exact one hi hj _ hg sg (by simp)
theorem rdDrawn_eff {h : Heap} {i j : Nat} {x y : Oper} (F : Free ops bf mask x y i j) {f : Eff} (hf : Good base bf mask own i f) (sf : ∀ n, f.sets = some n → isStore x.op = true) (hi : base + i < h.length) :
 rdDrawn base bf own j (effH h (base + i) f) = rdDrawn base bf own j h := by
 funext n
 simp only [rdDrawn]
 split
 · rename_i hc
   rw [effH_other hi n (fun hn => ?_) (fun k hk hn => ?_)]
   · subst hn
     simp only [show ¬ base + i < base by omega, decide_false, Bool.cond_false, show base + i - base = i by omega, F.bi] at hc
     cases hc
   · subst hn
     rw [(Good.away ops base bf mask own F hf hk (sf _ hk)).2] at hc; cases hc
 · rfl
theorem putT_comm (t : List (Option AV)) {x y : Option Tmp} (v u : AV) (h : ∀ d, x = some d → y ≠ some d) : putT (putT t x v) y u = putT (putT t y u) x v := by
 cases x with
 | none => rfl
 | some d =>
  cases y with
  | none => rfl
  | some e =>
   have : d ≠ e := fun he => h d rfl (by rw [he])
   simp [putT, List.set_comm _ _ this]
theorem swapD {i j : Nat} {oi oj : Oper} (hi : ops[i]? = some oi) (hj : ops[j]? = some oj) (F : Free ops bf mask oi oj i j) {st : St} (li : base + i < st.h.length) (lj : base + j < st.h.length) {K : St → Prop}
 (h : stepD P T ops base bf mask own i (fun s => stepD P T ops base bf mask own j K s) st) : stepD P T ops base bf mask own j (fun s => stepD P T ops base bf mask own i K s) st := by
 obtain ⟨a1, a2, a3⟩ := Oper.apart_spec F.ap
 have F' := F.symm ops bf mask (apart_symm ops F.ap)
 rcases stepD_cases P T ops base bf mask own hi st with hno | ⟨v, f, hf, sf, hs⟩
 · exact (hno _ h).elim
 · rw [(hs _).1] at h
   rcases stepD_cases P T ops base bf mask own hj st with hno | ⟨u, g, hg, sg, ht⟩
   · have e1 := tmOf_put (st := st) (v := v) (h' := effH st.h (base + i) f) a1
     have e2 := rdDrawn_eff ops base bf mask own F hf sf li
     exfalso
     refine hno K ?_
     rcases stepD_cases P T ops base bf mask own hj ⟨putT st.t oi.dst v, effH st.h (base + i) f, st.d⟩ with hno2 | ⟨u, g, hg, sg, ht⟩
     · exact (hno2 _ h).elim
     · rcases Classical.em (stepD P T ops base bf mask own j (fun _ => True) st) with hT | hT
       · exact (hno _ hT).elim
       · exact (hT (((ht (fun _ => True)).2 st e1.symm e2.symm).2 trivial)).elim
   · rw [(ht _).2 ⟨putT st.t oi.dst v, effH st.h (base + i) f, st.d⟩ (tmOf_put a1) (rdDrawn_eff ops base bf mask own F hf sf li)] at h
     rw [(ht _).1, (hs _).2 ⟨putT st.t oj.dst u, effH st.h (base + j) g, st.d⟩ (tmOf_put a3) (rdDrawn_eff ops base bf mask own F' hg sg lj)]
     simp only at h ⊢
     rw [putT_comm st.t v u a2, effH_comm ops base bf mask own F hf hg sf sg li lj] at h
     exact h
theorem stepD_mono {i : Nat} {o : Oper} (ho : ops[i]? = some o) {st : St} {K K' : St → Prop}
 (hK : ∀ v f, Good base bf mask own i f → K ⟨putT st.t o.dst v, effH st.h (base + i) f, st.d⟩ → K' ⟨putT st.t o.dst v, effH st.h (base + i) f, st.d⟩) (h : stepD P T ops base bf mask own i K st) : stepD P T ops base bf mask own i K' st := by
 rcases stepD_cases P T ops base bf mask own ho st with hno | ⟨v, f, hf, _, hs⟩
 · exact (hno _ h).elim
 · rw [(hs _).1] at h ⊢
   exact hK v f hf h
abbrev opsD (l : List Nat) (st : St) (K : St → Prop) : Prop := opsA PA P T (okDrawn base mask own) (lkOf ops) ops (rdDrawn base bf own) (fun i _ => base + i) (noInl PA) l st K
structure DOk : Prop where
 on : ∀ (i : Nat) (o : Oper), ops[i]? = some o → ∀ e ∈ o.after.toList, Region.binds .any e = true → e.on < i
 up : ∀ (i j : Nat), i < ops.size → j < i → (bf.getD j 0).testBit i = false
 clo : ∀ (i : Nat) (o : Oper) (j : Nat), ops[i]? = some o → j < i → (bf.getD i 0).testBit j = true → ∃ e ∈ o.after.toList, Region.binds .any e = true ∧ (e.on = j ∨ (bf.getD e.on 0).testBit j = true)
 apart : ∀ (i j : Nat) (oi oj : Oper), ops[i]? = some oi → ops[j]? = some oj → j < i → (bf.getD i 0).testBit j = false → Free ops bf mask oj oi j i
variable {P T ops base bf mask own}
theorem drawnOk_spec (h : drawnOk ops.toList bf mask = true) : DOk ops bf mask := by
 unfold drawnOk at h
 simp only [List.all_eq_true] at h
 have h2 := h
 have hop : ∀ {i : Nat} {o : Oper}, ops[i]? = some o → i < ops.size ∧ ops.toList[i]? = some o ∧ o ∈ ops.toList := fun {i o} hi => by
  refine ⟨?_, by simpa using hi, ?_⟩
  · rcases Nat.lt_or_ge i ops.size with q | q
    · exact q
    · simp [Array.getElem?_eq_none q] at hi
  · exact List.mem_of_getElem? (i := i) (by simpa using hi)
 have hget : ∀ {i : Nat} {o : Oper}, ops[i]? = some o → (∀ e ∈ o.after.toList, Region.binds .any e = true → e.on < i) ∧ ∀ j, j < i → ∀ x, ops[j]? = some x → (bf.getD j 0).testBit i = false ∧
  (if (bf.getD i 0).testBit j = true then (o.after.toList.any fun e => Region.binds .any e && (e.on == j || (bf.getD e.on 0).testBit j)) = true else x.apart ops o = true ∧ (isStore x.op = true ∨ isStore o.op = true → bf.getD i 0 &&& bf.getD j 0 &&& mask = 0)) := fun {i o} hi => by
  obtain ⟨a1, a2, a3⟩ := hop hi
  have := h2 i (by rw [upTo_mem]; simp; omega)
  simp only [a2, Bool.and_eq_true, List.all_eq_true] at this
  refine ⟨fun e he hb => ?_, fun j hj x hx => ?_⟩
  · have := this.1 e he
    simpa [hb] using this
  · have := this.2 j (by rw [upTo_mem]; omega)
    simp only [(hop hx).2.1, Bool.and_eq_true, Bool.not_eq_true'] at this
    refine ⟨this.1, ?_⟩
    have h3 := this.2
    split
    · rename_i hb; rw [if_pos hb] at h3; exact h3
    · rename_i hb
      rw [if_neg hb] at h3
      simp only [Bool.and_eq_true, Bool.or_eq_true, Bool.not_eq_true', Bool.or_eq_false_iff, beq_iff_eq] at h3
      refine ⟨by simpa using h3.1, fun hst => ?_⟩
      rcases h3.2 with q | q
      · rcases hst with r | r
        · rw [q.1] at r; cases r
        · rw [q.2] at r; cases r
      · exact q
 refine ⟨fun i o hi => (hget hi).1, fun i j hi hj => ?_, fun i o j hi hj hb => ?_, fun i j oi oj hi hj hlt hb => ?_⟩
 · exact ((hget (Array.getElem?_eq_getElem hi)).2 j hj _ (Array.getElem?_eq_getElem (by omega))).1
 · have hlt := (hop hi).1
   have := ((hget hi).2 j hj _ (Array.getElem?_eq_getElem (by omega))).2
   rw [if_pos hb] at this
   simp only [List.any_eq_true, Bool.and_eq_true, Bool.or_eq_true, beq_iff_eq] at this
   exact this
 · have := ((hget hi).2 j hlt _ hj).2
   rw [if_neg (by rw [hb]; exact Bool.false_ne_true)] at this
   refine ⟨by omega, this.1, hb, ?_, fun hst k m1 m2 m3 => ?_⟩
   · exact ((hget hi).2 j hlt _ hj).1
   · have hz := this.2 hst
     have : (bf.getD i 0 &&& bf.getD j 0 &&& mask).testBit k = true := by simp [Nat.testBit_and, m1]; exact ⟨by simpa using m3, by simpa using m2⟩
     rw [hz] at this; simp at this
theorem bubble (hD : DOk ops bf mask) {i : Nat} {K : St → Prop} : ∀ (l : List Nat) (st : St), l.Pairwise (· < ·) → i ∈ l → (∀ j ∈ l, j < ops.size) → (∀ j ∈ l, j < i → (bf.getD i 0).testBit j = false) → st.h.length = base + ops.size →
 opsD P T ops base bf mask own l st K → stepD P T ops base bf mask own i (fun s => opsD P T ops base bf mask own (l.erase i) s K) st
 | [], st, _, hm, _, _, _, _ => by cases hm
 | j :: r, st, hp, hm, hl, hb, hlen, h => by
  by_cases hji : j = i
  · subst hji; simpa [opsD, opsA] using h
  · have hir : i ∈ r := by rcases List.mem_cons.1 hm with e | e; exact (hji e.symm).elim; exact e
    have hlt : j < i := (List.pairwise_cons.1 hp).1 i hir
    have hj := hl j (by simp)
    have hi := hl i hm
    have oj : ops[j]? = some ops[j] := Array.getElem?_eq_getElem hj
    have oi : ops[i]? = some ops[i] := Array.getElem?_eq_getElem hi
    have herase : (j :: r).erase i = j :: r.erase i := by rw [List.erase_cons]; simp [hji]
    rw [herase]
    have bji := hb j (by simp) hlt
    refine swapD P T ops base bf mask own oj oi (hD.apart i j _ _ oi oj hlt bji) (by omega) (by omega) ?_
    refine stepD_mono P T ops base bf mask own oj (fun v f hf hk => ?_) h
    exact bubble hD r _ (List.pairwise_cons.1 hp).2 hir (fun k hk => hl k (by simp [hk])) (fun k hk => hb k (by simp [hk])) (by show (effH st.h (base + j) f).length = _; rw [effH_length (by omega)]; exact hlen) hk
noncomputable def restK (P : Program) (T : Tab) (inl : Inl Prop) (ops : Array Oper) (bf : List Nat) (mask : Nat) (f : Nat) (K : St → Prop) : List Nat → St → Prop
 | [], st1 => K st1
 | c :: r, st1 => stepA PA P T (fun _ _ => true) lkAll ops (fun _ => rdFlat) (fun _ h => h.length) inl c (fun st2 => segA PA P T inl ops bf mask f r st2 K) st1
theorem segA_eq {inl : Inl Prop} {f : Nat} {todo : List Nat} {st : St} {K : St → Prop} : segA PA P T inl ops bf mask (f + 1) todo st K =
 opsD P T ops st.h.length bf mask (ownOf st.t st.h ops.toList 0 ops.toList) (todo.takeWhile fun i => !cutAt ops bf i) ⟨st.t, st.h ++ List.replicate ops.size none, st.d⟩ (restK P T inl ops bf mask f K (todo.dropWhile fun i => !cutAt ops bf i)) := by
 simp only [segA, opsD]
 congr 1
 funext st1
 cases todo.dropWhile fun i => !cutAt ops bf i <;> rfl
theorem cutAt_spec {i : Nat} (h : cutAt ops bf i = true) : i < ops.size ∧ ∀ j, j < ops.size → j ≠ i → if j < i then (bf.getD i 0).testBit j = true else (bf.getD j 0).testBit i = true := by
 unfold cutAt at h
 split at h
 · rename_i o ho
   have hi : i < ops.size := by
    rcases Nat.lt_or_ge i ops.size with q | q
    · exact q
    · simp [Array.getElem?_eq_none q] at ho
   refine ⟨hi, fun j hj hne => ?_⟩
   simp only [Bool.and_eq_true, List.all_eq_true] at h
   have := h.2 j (by rw [upTo_mem]; omega)
   simp only [Bool.or_eq_true, beq_iff_eq] at this
   rcases this with q | q
   · exact (hne q).elim
   · split
     · rename_i hlt; rw [if_pos hlt] at q; exact q
     · rename_i hlt; rw [if_neg hlt] at q; exact q
 · cases h
theorem drop_head {l : List Nat} {p : Nat → Bool} {c : Nat} {r : List Nat} (h : l.dropWhile p = c :: r) : p c = false := by
 induction l with
 | nil => simp at h
 | cons x l ih =>
  rw [List.dropWhile_cons] at h
  split at h
  · exact ih h
  · rename_i hx
    simp at h
    rw [← h.1]; simpa using hx
theorem drawn_ok (hT : TabOk P T) (hD : DOk ops bf mask) {inl : Inl Prop} (hI : InlOk P inl) {Q : Exit → Act → World → Prop} {K : St → Prop} : ∀ (n : Nat) (base : Nat) (own : List (Nat × Nat)) (f : Nat) (pre rest todo : List Nat) {ρ : Names} {st : St} {a : Act} {w : World} {listed : Array Bool}, todo = pre ++ rest → (∀ c r, rest = c :: r → cutAt ops bf c = true) → todo.length = n → todo.Pairwise (· < ·) → (∀ j ∈ todo, j < ops.size) →
 listed.size = ops.size → (∀ i, i < ops.size → (listed.getD i true = false ↔ i ∈ todo)) → (∀ i, i < ops.size → i ∉ todo → ∀ m, (bf.getD i 0).testBit m = true → m ∉ todo) →
 RelS ρ W st a w → (∀ i ∈ pre, st.h[base + i]? = some none) → st.h.length = base + ops.size → opsD P T ops base bf mask own pre st (restK P T inl ops bf mask f K rest) → (∀ ρ' st' a' w', Ext ρ ρ' → RelS ρ' W st' a' w' → K st' → Q .normal a' w') →
 wpAnyIn (FR rr) dp P .any ops Q n listed a w := by
 have nready : ∀ {todo : List Nat} {listed : Array Bool}, listed.size = ops.size → (∀ i, i < ops.size → (listed.getD i true = false ↔ i ∈ todo)) → ∀ i, i ∈ Region.ready .any ops listed → i < ops.size ∧ i ∈ todo ∧ ∃ o, ops[i]? = some o ∧ ∀ e ∈ o.after, Region.binds .any e = true → e.on < ops.size ∧ e.on ∉ todo := by
  intro todo listed hsz hlist i hi
  obtain ⟨h1, o, h2, h3⟩ := mem_ready.1 hi
  have hlt : i < ops.size := by rcases Nat.lt_or_ge i ops.size with q | q; exact q; simp [Array.getElem?_eq_none q] at h2
  refine ⟨hlt, (hlist i hlt).1 h1, o, h2, fun e he hb => ?_⟩
  have h4 := h3 e he hb
  have hel : e.on < ops.size := by
   rcases Nat.lt_or_ge e.on listed.size with q | q
   · omega
   · simp [Array.getElem?_eq_none q] at h4
  refine ⟨hel, fun hm => ?_⟩
  have := (hlist _ hel).2 hm
  have hel' : e.on < listed.size := by omega
  simp [hel'] at h4 this
  rw [h4] at this; cases this
 intro n
 induction n with
 | zero =>
  intro base own f pre rest todo ρ st a w listed hpr hcut hn hp hl hsz hlist hdc hs hres hlen h hK
  have : todo = [] := by cases todo; rfl; simp at hn
  subst this
  obtain ⟨rfl, rfl⟩ := List.append_eq_nil_iff.1 hpr.symm
  refine ⟨?_, hK ρ st a w (Ext.refl ρ) hs h⟩
  cases hr : Region.ready .any ops listed with
  | nil => rfl
  | cons x xs => have := (nready hsz hlist x (by rw [hr]; simp)).2.1; cases this
 | succ n ih =>
  intro base own f pre rest todo ρ st a w listed hpr hcut hn hp hl hsz hlist hdc hs hres hlen h hK
  refine ⟨fun hr => ?_, fun i hi => ?_⟩
  · -- the least that is still to come may come
    cases todo with
    | nil => simp at hn
    | cons j r =>
     exfalso
     have hj := hl j (by simp)
     have : j ∈ Region.ready .any ops listed := by
      refine mem_ready.2 ⟨(hlist j hj).2 (by simp), ops[j], Array.getElem?_eq_getElem hj, fun e he hb => ?_⟩
      have h1 := hD.on j _ (Array.getElem?_eq_getElem hj) e (by simpa using he) hb
      have h2 : e.on ∉ j :: r := fun hm => by
       rcases List.mem_cons.1 hm with q | q
       · omega
       · have := (List.pairwise_cons.1 hp).1 _ q; omega
      have h3 : ¬ listed.getD e.on true = false := fun q => h2 ((hlist _ (by omega)).1 q)
      have hel' : e.on < listed.size := by omega
      simp [hel'] at h3 ⊢
      exact h3
     rw [hr] at this; cases this
  · obtain ⟨hlt, hm, o, ho, hon⟩ := nready hsz hlist i hi
    have hbf : ∀ m, (bf.getD i 0).testBit m = true → m ∉ todo.erase i := fun m hb hmem => by
     have hmt := List.mem_of_mem_erase hmem
     have hms := hl m hmt
     rcases Nat.lt_trichotomy m i with q | q | q
     · obtain ⟨e, he, hbe, hor⟩ := hD.clo i o m ho q hb
       obtain ⟨g1, g2⟩ := hon e (by simpa using he) hbe
       rcases hor with hor | hor
       · exact g2 (hor ▸ hmt)
       · exact hdc _ g1 g2 m hor hmt
     · subst q
       have hnd : todo.Nodup := hp.imp fun h => Nat.ne_of_lt h
       exact (List.Nodup.not_mem_erase hnd) hmem
     · rw [hD.up m i hms q] at hb; cases hb
    have hnot : ∀ j ∈ todo, j < i → (bf.getD i 0).testBit j = false := fun j hj hji => by
     cases hb : (bf.getD i 0).testBit j with
     | false => rfl
     | true => exact (hbf j hb ((List.mem_erase_of_ne (by omega)).2 hj)).elim
    have hnd : todo.Nodup := hp.imp fun h => Nat.ne_of_lt h
    have hlist2 : ∀ j, j < ops.size → ((listed.setIfInBounds i true).getD j true = false ↔ j ∈ todo.erase i) := fun j hj => by
     by_cases hji : j = i
     · subst hji
       have hjl : j < listed.size := by omega
       simp [hjl]
       exact List.Nodup.not_mem_erase hnd
     · rw [getD_set_ne true (Ne.symm hji), hlist j hj, List.mem_erase_of_ne hji]
    have hdc2 : ∀ j, j < ops.size → j ∉ todo.erase i → ∀ m, (bf.getD j 0).testBit m = true → m ∉ todo.erase i := fun j hj hnj m hb => by
     by_cases hji : j = i
     · subst hji; exact hbf m hb
     · have hnj2 : j ∉ todo := fun q => hnj ((List.mem_erase_of_ne hji).2 q)
       exact fun q => hdc j hj hnj2 m hb (List.mem_of_mem_erase q)
    have hlen2 : (todo.erase i).length = n := by rw [List.length_erase_of_mem hm]; omega
    have hl2 : ∀ j ∈ todo.erase i, j < ops.size := fun j hj => hl j (List.mem_of_mem_erase hj)
    have hp2 : (todo.erase i).Pairwise (· < ·) := hp.sublist List.erase_sublist
    have wait : ∀ c r, rest = c :: r → i ∈ c :: r → i = c := fun c r hr hir => by
     rcases List.mem_cons.1 hir with q | q
     · exact q
     · exfalso
       have hpr2 : (c :: r).Pairwise (· < ·) := by
        have : (pre ++ rest).Pairwise (· < ·) := hpr ▸ hp
        rw [hr] at this
        exact (List.pairwise_append.1 this).2.1
       have hlt2 : c < i := (List.pairwise_cons.1 hpr2).1 i q
       have hct : c ∈ todo := by rw [hpr, hr]; simp
       have := (cutAt_spec (hcut c r hr)).2 i hlt (by omega)
       rw [if_neg (by omega)] at this
       have h3 := hnot c hct hlt2
       rw [this] at h3; cases h3
    cases hpre : pre with
    | nil =>
     subst hpre
     cases hrest : rest with
     | nil => rw [hpr, hrest] at hm; simp at hm
     | cons c r =>
      have hic : i = c := wait c r hrest (by rw [hpr, hrest] at hm; simpa using hm)
      subst hic
      have h' : stepA PA P T (fun _ _ => true) lkAll ops (fun _ => rdFlat) (fun _ h => h.length) inl i (fun st2 => segA PA P T inl ops bf mask f r st2 K) st := by
       rw [hrest] at h
       exact h
      have her : todo.erase i = r := by rw [hpr, hrest]; simp
      refine step_ok hT lkAll_ok (fun _ => rdFlat_ok) hI hs (fun _ => .inl rfl) h' fun ρ' st' a' w' he hs' hk => ?_
      cases f with
      | zero => exact zA hk
      | succ f =>
       rw [segA_eq] at hk
       have hs2 : RelS ρ' W ⟨st'.t, st'.h ++ List.replicate ops.size none, st'.d⟩ a' w' := ⟨hs'.t, hs'.h.room ops.size, hs'.d⟩
       refine ih st'.h.length _ f _ _ (todo.erase i) (by rw [her, List.takeWhile_append_dropWhile]) (fun c2 r2 hc2 => by have := drop_head hc2; simpa using this) hlen2 hp2 hl2 (by simpa using hsz) hlist2 hdc2 hs2 (fun k hk2 => ?_) (by simp) hk fun ρ2 st2 a2 w2 he2 => hK ρ2 st2 a2 w2 (he.trans he2)
       have hkr : k ∈ todo.erase i := by rw [her]; exact (List.takeWhile_sublist _).subset hk2
       have := hl2 k hkr
       rw [List.getElem?_append_right (by simp), List.getElem?_replicate]
       simp; omega
    | cons j0 pre0 =>
    have hip : i ∈ pre := by
     rw [hpr] at hm
     rcases List.mem_append.1 hm with q | q
     · exact q
     · exfalso
       cases hrest : rest with
       | nil => rw [hrest] at q; simp at q
       | cons c r =>
        have hic : i = c := wait c r hrest (by rw [hrest] at q; exact q)
        subst hic
        have hj0 : j0 ∈ todo := by rw [hpr, hpre]; simp
        have hlt0 : j0 < i := by
         have : (pre ++ rest).Pairwise (· < ·) := hpr ▸ hp
         exact (List.pairwise_append.1 this).2.2 j0 (by rw [hpre]; simp) i (by rw [hrest]; simp)
        have := (cutAt_spec (hcut i r hrest)).2 j0 (hl j0 hj0) (by omega)
        rw [if_pos hlt0] at this
        have h3 := hnot j0 hj0 hlt0
        rw [this] at h3; cases h3
    have hpp : pre.Pairwise (· < ·) := by
     have : (pre ++ rest).Pairwise (· < ·) := hpr ▸ hp
     exact (List.pairwise_append.1 this).1
    have hsub : ∀ j ∈ pre, j ∈ todo := fun j hj => by rw [hpr]; exact List.mem_append_left _ hj
    have her : todo.erase i = pre.erase i ++ rest := by rw [hpr, List.erase_append_left _ hip]
    have hbfp : ∀ m, (bf.getD i 0).testBit m = true → m ∉ pre.erase i := fun m hb hmem => hbf m hb (by rw [her]; exact List.mem_append_left _ hmem)
    have hstep := bubble (P := P) (T := T) (base := base) (own := own) hD pre st hpp hip (fun j hj => hl j (hsub j hj)) (fun j hj => hnot j (hsub j hj)) hlen h
    have hstep2 := stepD_mono P T ops base bf mask own ho (K' := fun s => (s.h.length = base + ops.size ∧ ∀ k ∈ pre.erase i, s.h[base + k]? = some none) ∧ opsD P T ops base bf mask own (pre.erase i) s (restK P T inl ops bf mask f K rest)) (fun v f2 hf hk => ⟨⟨by
     show (effH st.h (base + i) f2).length = _; rw [effH_length (by omega)]; exact hlen, fun k hk2 => by
     show (effH st.h (base + i) f2)[base + k]? = _
     have hne : k ≠ i := fun e => by subst e; exact (List.Nodup.not_mem_erase (hpp.imp fun h => Nat.ne_of_lt h)) hk2
     rw [effH_other (by omega) _ (by omega) (fun m hx hn => by have hf : if m < base then (i, m) ∈ own ∧ okOld bf own i m = true else mask.testBit (m - base) = true ∧ (bf.getD i 0).testBit (m - base) = true := (by cases f2 <;> simp [Eff.sets] at hx <;> subst hx <;> exact hf); rw [if_neg (by omega)] at hf; have g3 := hf.2; rw [← hn, show base + k - base = k by omega] at g3; exact hbfp k g3 hk2)]; exact hres k (List.mem_of_mem_erase hk2)⟩, hk⟩) hstep
    refine step_ok hT (lkOf_ok ops) (rdDrawn_ok base bf own) (noInl_ok P) hs (fun _ => .inr (hres i hip)) hstep2 fun ρ' st' a' w' he hs' hk => ?_
    obtain ⟨⟨k1, k2⟩, k3⟩ := hk
    exact ih base own f (pre.erase i) rest (todo.erase i) her hcut hlen2 hp2 hl2 (by simpa using hsz) hlist2 hdc2 hs' k2 k1 k3 fun ρ2 st2 a2 w2 he2 => hK ρ2 st2 a2 w2 (he.trans he2)
end drawn
theorem upTo_pairwise : ∀ (n a : Nat), (upTo a n).Pairwise (· < ·)
 | 0, _ => .nil
 | n + 1, a => List.pairwise_cons.2 ⟨fun b hb => by rw [upTo_mem] at hb; omega, upTo_pairwise n (a + 1)⟩
theorem upTo_range (n : Nat) : upTo 0 n = List.range n := by
 apply List.ext_getElem?
 intro k
 rw [upTo_get]
 split
 · rename_i h; simp [h]
 · rename_i h; simp; omega
theorem regionA_ok (hm : P.follows .mixedOrders = true) (hT : TabOk P T) {inl : Inl Prop} (hI : InlOk P inl) {Q : Exit → Act → World → Prop} {K : St → Prop} {st : St} {a : Act} {id : Nat} {draw : Bool} (hs : RelS ρ W st a w)
 (h : regionA PA P T inl ops draw st K) (hK : ∀ ρ' st' a' w', Ext ρ ρ' → RelS ρ' W st' a' w' → K st' → Q .normal a' w') : (Code.region id ops draw).wpIn (FR rr) dp P Q a w := by
 unfold regionA at h
 cases draw with
 | false =>
  simp only [Bool.false_eq_true, if_false, upTo_range] at h
  exact wpIn_region (opsA_ok hT hI _ hs h hK)
 | true =>
  simp only [if_true] at h
  split at h
  · rename_i hok
    refine wpIn_region_any hm ?_
    have hs' : RelS ρ W ⟨st.t, st.h ++ List.replicate ops.size none, st.d⟩ a { w with drawn := w.drawn + 1 } := ⟨hs.t, (hs.h.room ops.size).drew, hs.d⟩
    rw [segA_eq] at h
    refine drawn_ok hT (drawnOk_spec hok) hI ops.size st.h.length _ ops.size _ _ (upTo 0 ops.size) (List.takeWhile_append_dropWhile).symm (fun c r hc => by have := drop_head hc; simpa using this) (upTo_length _ _) (upTo_pairwise _ _) (fun j hj => by rw [upTo_mem] at hj; omega) (by simp) (fun i hi => ?_) (fun i hi hn => ?_) hs' (fun i hi => ?_) (by simp) h hK
    · simp [hi, upTo_mem]
    · exact (hn (by rw [upTo_mem]; omega)).elim
    · have hi := (List.takeWhile_sublist _).subset hi
      rw [upTo_mem] at hi
      rw [List.getElem?_append_right (by simp), List.getElem?_replicate]
      simp; omega
  · exact zA h
variable {P : Program} {ρ : Names} {W w : World} {T : Tab}
def Ex.is : Ex → Exit → Prop
 | .normal, .normal => True
 | .exit i, .exit j => i = j
 | .ret, .ret => True
 | _, _ => False
def Post (ρ : Names) (W : World) (Q : Ex → St → Prop) : Exit → Act → World → Prop := fun e a w => ∃ e' st' ρ', e'.is e ∧ Ext ρ ρ' ∧ RelS ρ' W st' a w ∧ Q e' st'
theorem Post.ext {ρ' : Names} {Q : Ex → St → Prop} {e : Exit} {a : Act} (he : Ext ρ ρ') (h : Post ρ' W Q e a w) : Post ρ W Q e a w :=
 let ⟨e', st', ρ2, h1, h2, h3, h4⟩ := h; ⟨e', st', ρ2, h1, he.trans h2, h3, h4⟩
def RfOk (P : Program) (r : Option Nat) (rf : Rf Prop) : Prop :=
 ∀ f ps sg bo (st : St) (Q : Ex → St → Prop) (ρ : Names) (W w : World) (a : Act), rf f ps sg bo st Q → RelS ρ W st a w → ∀ n, (Code.rangeFunc f ps sg bo).wpIn (FR r) n P (Post ρ W Q) a w
theorem noRf_ok (P : Program) (r : Option Nat) : RfOk P r (noRf PA) := fun _ _ _ _ _ _ _ _ _ _ h => zA h
def LoopsOk (P : Program) (r : Option Nat) (lp : Code → St → (Ex → St → Prop) → Prop) : Prop :=
 ∀ (c : Code) (st : St) (Q : Ex → St → Prop) (ρ : Names) (W w : World) (a : Act), lp c st Q → RelS ρ W st a w → ∀ (b : Frame) (k : List Item) (cs : List Frame), b.roundOf = r →
  ∃ e a' w', Post ρ W Q e a' w' ∧ ArrivesIn (Machine.fenced P (FR r)) P (lone (b.atR a (.code c :: .inLoop c :: k)) cs w) b k cs e a' w'
def LcOk (P : Program) (b : Code) (lc : St → (Ex → St → Prop) → Prop) : Prop := ∀ (st : St) (Q : Ex → St → Prop) (ρ : Names) (W w : World) (a : Act), lc st Q → RelS ρ W st a w → ∀ (r : Option Nat) (n : Nat), (Code.loop b).wpIn (FR r) n P (Post ρ W Q) a w
theorem codeA_ok (hm : P.follows .mixedOrders = true) (hT : TabOk P T) {r : Option Nat} {LT : LTab Prop} {lp : Code → St → (Ex → St → Prop) → Prop} (hr : LoopsOk P r lp) {inl : Inl Prop} (hI : InlOk P inl) {rf : Rf Prop} (hrf : RfOk P r rf) :
 ∀ (c : Code), (∀ b ∈ Code.loops c, ∀ lc, LT (Code.first b) = some lc → LcOk P b lc) → ∀ (st : St) (Q : Ex → St → Prop) (ρ : Names) (W w : World) (a : Act), codeA PA P T LT lp inl rf c st Q → RelS ρ W st a w → ∀ n, c.wpIn (FR r) n P (Post ρ W Q) a w := by
 intro c
 induction c with
 | skip => intro hL st Q ρ W w a h hs n; exact wpIn_skip ⟨.normal, st, ρ, trivial, Ext.refl ρ, hs, h⟩
 | label l => intro hL st Q ρ W w a h hs n; exact wpIn_label ⟨.normal, st, ρ, trivial, Ext.refl ρ, hs, h⟩
 | seq x y ihx ihy =>
  intro hL st Q ρ W w a h hs n
  refine wpIn_seq (wpIn_mono (ihx (fun b hb => hL b (by simp [Code.loops, hb])) _ _ ρ W w a h hs n) fun e a' w' hp => ?_)
  obtain ⟨e', st', ρ', h1, h2, h3, h4⟩ := hp
  cases e' with
  | normal =>
   cases e <;> try exact h1.elim
   exact wpIn_mono (ihy (fun b hb => hL b (by simp [Code.loops, hb])) _ _ ρ' W w' a' h4 h3 n) fun e a w hp => hp.ext h2
  | exit i =>
   cases e <;> try exact h1.elim
   exact ⟨.exit i, st', ρ', h1, h2, h3, h4⟩
  | ret =>
   cases e <;> try exact h1.elim
   exact ⟨.ret, st', ρ', h1, h2, h3, h4⟩
 | cond c x y ihx ihy =>
  intro hL st Q ρ W w a h hs n
  simp only [codeA] at h
  split at h
  · rename_i b hb
    have hv := hs.ev0 _ _ hb
    generalize hX : a.eval c = X at hv
    cases hv
    refine wpIn_cond_split hX (fun hb => ?_) (fun hb => ?_)
    · subst hb; rename_i hb
      have h' : fst (refC st c true) (fun st => codeA PA P T LT lp inl rf x st Q) := h
      rw [fst_eq, refC_eq hb] at h'
      exact ihx (fun b hb => hL b (by simp [Code.loops, hb])) _ _ ρ W w a h' hs n
    · subst hb; rename_i hb
      have h' : fst (refC st c false) (fun st => codeA PA P T LT lp inl rf y st Q) := h
      rw [fst_eq, refC_eq hb] at h'
      exact ihy (fun b hb => hL b (by simp [Code.loops, hb])) _ _ ρ W w a h' hs n
  · exact zA h
 | block id b ih =>
  intro hL st Q ρ W w a h hs n
  refine wpIn_block (wpIn_mono (ih (fun b hb => hL b (by simpa [Code.loops] using hb)) _ _ ρ W w a h hs n) fun e a' w' hp => ?_)
  obtain ⟨e', st', ρ', h1, h2, h3, h4⟩ := hp
  cases e' with
  | normal =>
   cases e <;> try exact h1.elim
   exact ⟨.normal, st', ρ', trivial, h2, h3, h4⟩
  | exit i =>
   cases e <;> try exact h1.elim
   rename_i j
   have h1' : i = j := h1
   subst h1'
   simp only [Exit.inBlock]
   simp only at h4
   by_cases hid : i = id
   · rw [if_pos hid] at h4 ⊢; exact ⟨.normal, st', ρ', trivial, h2, h3, h4⟩
   · rw [if_neg hid] at h4 ⊢; exact ⟨.exit i, st', ρ', rfl, h2, h3, h4⟩
  | ret =>
   cases e <;> try exact h1.elim
   exact ⟨.ret, st', ρ', h1, h2, h3, h4⟩
 | loop b ih =>
  intro hL st Q ρ W w a h hs n
  simp only [codeA] at h
  split at h
  · rename_i lc hlc
    exact hL b (by simp [Code.loops]) lc hlc st Q ρ W w a h hs r n
  · intro bf k cs hro hb hroom
    obtain ⟨e, a', w', h1, h2⟩ := hr b st Q ρ W w a h hs bf k cs hro
    exact ⟨e, a', w', h1, .of_steps (.one (fencedFR P r _) stepR_loop) h2⟩
 | rangeFunc f ps sg bo _ _ =>
  intro hL st Q ρ W w a h hs n
  exact hrf f ps sg bo st Q ρ W w a h hs n
 | exit id => intro hL st Q ρ W w a h hs n; exact wpIn_exit ⟨.exit id, st, ρ, rfl, Ext.refl ρ, hs, h⟩
 | ret => intro hL st Q ρ W w a h hs n; exact wpIn_ret ⟨.ret, st, ρ, trivial, Ext.refl ρ, hs, h⟩
 | region id ops draw =>
  intro hL st Q ρ W w a h hs n
  exact regionA_ok hm hT hI hs h fun ρ' st' a' w' he hs' hq => ⟨.normal, st', ρ', trivial, he, hs', hq⟩
 | _ => intro hL st Q ρ W w a h hs n; exact zA h
theorem codeA_ok0 (hm : P.follows .mixedOrders = true) (hT : TabOk P T) {r : Option Nat} {lp : Code → St → (Ex → St → Prop) → Prop} (hr : LoopsOk P r lp) {inl : Inl Prop} (hI : InlOk P inl) {rf : Rf Prop} (hrf : RfOk P r rf) (c : Code) (st : St) (Q : Ex → St → Prop) (ρ : Names) (W w : World) (a : Act) (h : codeA PA P T noLoops lp inl rf c st Q) (hs : RelS ρ W st a w) (n : Nat) : c.wpIn (FR r) n P (Post ρ W Q) a w :=
 codeA_ok hm hT hr hI hrf c (fun _ _ _ h => by cases h) st Q ρ W w a h hs n
theorem loopsA_ok (hm : P.follows .mixedOrders = true) (hT : TabOk P T) {r : Option Nat} {lp : Code → St → (Ex → St → Prop) → Prop} (hr : LoopsOk P r lp) {inl : Inl Prop} (hI : InlOk P inl) {rf : Rf Prop} (hrf : RfOk P r rf) :
 LoopsOk P r fun b st Q => codeA PA P T noLoops lp inl rf b st fun e st' => match e with | .normal => lp b st' Q | e => Q e st' := by
 intro b st Q ρ W w a h hs bf k cs hro
 obtain ⟨e, a1, w1, hp, harr⟩ := codeA_ok0 hm hT hr hI hrf b _ _ ρ W w a h hs 0 bf (.inLoop b :: k) cs hro trivial (roomFR r _)
 obtain ⟨e', st', ρ', g1, g2, g3, g4⟩ := hp
 cases e' with
 | normal =>
  cases e <;> try exact g1.elim
  obtain ⟨e2, a2, w2, hp2, harr2⟩ := hr b st' Q ρ' W w1 a1 g4 g3 bf k cs hro
  exact ⟨e2, a2, w2, hp2.ext g2, .of_steps (StepsIn.trans harr (.one (fencedFR P r _) stepR_inLoop)) harr2⟩
 | exit i =>
  cases e <;> try exact g1.elim
  exact ⟨_, a1, w1, ⟨.exit i, st', ρ', g1, g2, g3, g4⟩, .pass (x := .inLoop b) rfl (fun _ _ => .inl (by simp)) harr⟩
 | ret =>
  cases e <;> try exact g1.elim
  exact ⟨_, a1, w1, ⟨.ret, st', ρ', g1, g2, g3, g4⟩, .pass (x := .inLoop b) rfl (fun _ _ => .inl (by simp)) harr⟩
theorem entry_ok {fn : Func} {args : List AV} {A : List Value} (h : RL ρ W args A) : TR ρ W (entryT fn args) (A.toArray ++ Array.replicate (fn.ntmps - A.toArray.size) undef) := by
 have hl := h.length
 refine ⟨by simp [entryT, hl], fun i v hv => ?_⟩
 simp only [entryT] at hv
 rw [List.getElem?_append] at hv
 split at hv
 · simp only [List.getElem?_map, Option.map_eq_some_iff] at hv
   obtain ⟨u, h1, h2⟩ := hv
   simp at h2; subst h2
   obtain ⟨V, g1, g2⟩ := h.get i u h1
   refine ⟨V, ?_, g2⟩
   rw [Array.getElem?_append_left (by rename_i hlt; simp at hlt; simp; omega)]
   simpa using g1
 · simp [List.getElem?_replicate] at hv
def resSem (tmps : Array Value) : ResultVar → Sem Value
 | .tmp t => pure (tmps.getD t undef)
 | .cell a t => do loadVar t (← asAddr (tmps.getD a undef))
theorem results_eq (fn : Func) (tmps : Array Value) : results fn tmps = (do let vs ← fn.results.mapM (resSem tmps); pure (if h : vs.size = 1 then vs[0] else .tuple vs)) := by
 unfold results
 congr 1
theorem res_ok {st : St} {a : Act} (hs : RelS ρ W st a w) : ∀ (l : List ResultVar) (r : List AV), resA P st l = some r → ∃ R, (l.mapM (resSem a.tmps)).run P w = .ok R w ∧ RL ρ W r R
 | [], r, hq => by simp [resA] at hq; subst hq; exact ⟨[], by simp, .nil⟩
 | .tmp t :: l, r, hq => by
  simp only [resA] at hq
  split at hq
  · rename_i v vs h1 h2
    simp at hq; subst hq
    obtain ⟨R, g1, g2⟩ := res_ok hs l vs h2
    have hv := hs.ev0 (.tmp t) v h1
    exact ⟨_ :: R, by simp [List.mapM_cons, g1, resSem, Act.eval], .cons hv g2⟩
  · cases hq
 | .cell c t :: l, r, hq => by
  simp only [resA] at hq
  split at hq
  · rename_i m i s j vs h1 h2
    split at hq
    · rename_i v hl
      simp at hq; subst hq
      obtain ⟨R, g1, g2⟩ := res_ok hs l vs h2
      have hv := hs.ev0 (.tmp c) _ h1
      obtain ⟨V, g3, g4⟩ := loadA_ok (P := P) hs.h (rdFlat_ok st.h) hv hl
      refine ⟨V :: R, ?_, .cons g4 g2⟩
      generalize hC : a.eval (.tmp c) = C at hv
      cases hv with | ptr i s j hp =>
      simp only [Act.eval] at hC
      simp only [Instr.loadAt, Instr.sureAddr, Sem.run_bind, Sem.run_pure, Result.andThen_ok, hC, Act.eval] at g3
      simp [List.mapM_cons, resSem, g1, hC, asAddr, g3]
    · cases hq
  · cases hq
theorem resV_ok {r : List AV} {R : List Value} (h : RL ρ W r R) : RV ρ W (resV r) (if hh : R.toArray.size = 1 then R.toArray[0] else .tuple R.toArray) := by
 cases h with
 | nil => simp; exact .tup .nil
 | cons h t =>
  cases t with
  | nil => simpa [resV] using h
  | cons h2 t2 => simp [resV]; exact .tup (.cons h (.cons h2 t2))
theorem shut_ok {fn : Func} {tmps : Array Value} {R : Ending → World → Prop} {n : Nat} : ∀ {ds : List Nat} {D : List Deferred} {h h2 : Heap} {w : World}, Rel ρ W h w → RD ρ ds D → shut ds h = some h2 →
 (∀ w2, Rel ρ W h2 w2 → LeavesInM (FR none) n P fn tmps R [] .returning w2) → LeavesInM (FR none) n P fn tmps R D .returning w
 | _, _, h, h2, w, hR, .nil, hq, hK => by
  simp only [shut, Option.some.injEq] at hq
  subst hq
  exact hK w hR
 | _, _, h, h2, w, hR, .cons (n := m) (r := r) hp hd, hq, hK => by
  simp only [shut] at hq
  split at hq
  · rename_i hm
    have hm0 := zO hm
    obtain ⟨b, o, e1, hW0, ho, h4⟩ := hR.ob m _ hm0
    rw [hp] at e1
    cases e1
    have hlt : r < w.heap.size := (Array.getElem?_eq_some_iff.1 h4).1
    have hR2 : Rel ρ W (h.set m (some .dead)) (w.putObj r (.deferred none)) :=
     hR.put hm0 rfl hp (fun k hk => World.putObj_heap_other hk) World.putObj_size rfl rfl rfl trivial
    exact ⟨by simp, .inl ⟨r, _, rfl, run_takeDeferred h4, shut_ok hR2 hd hq hK⟩⟩
  · cases hq
theorem body_ok {LT : LTab Prop} {lp : Code → St → (Ex → St → Prop) → Prop} {inl : Inl Prop} {rf : Rf Prop} {g : FuncId} {fn : Func} (hf : P.funcs[g]? = some fn)
 (hc : ∀ c, fn.body = some c → ∀ (st : St) (Q : Ex → St → Prop) (ρ : Names) (W w : World) (a : Act), codeA PA P T LT lp inl rf c st Q → RelS ρ W st a w → ∀ n, c.wpIn (FR none) n P (Post ρ W Q) a w)
 {args : List AV} {A : List Value} {h : Heap} {K : AV → Heap → Prop} (hA : RL ρ W args A) (hR : Rel ρ W h w) (hq : bodyA PA P T LT lp inl rf fn args h K) :
 Calls P g A.toArray w fun e w' => ∃ V, e = .returned V ∧ ∃ ρ' v h', Ext ρ ρ' ∧ RV ρ' W v V ∧ Rel ρ' W h' w' ∧ K v h' := by
 unfold bodyA at hq
 split at hq
 case h_2 => exact zA hq
 rename_i c hb
 rw [fl_eq, fst_eq] at hq
 refine (callsIn_wide (n := 0)).1 (callsIn_of_wp_marks (F := FR none) hf hb trivial (wpIn_mono (hc c hb _ _ ρ W w _ hq ⟨entry_ok hA, hR, .nil⟩ 0) fun e a' w' hp => ?_))
 obtain ⟨e', st', ρ', g1, g2, g3, g4⟩ := hp
 have fin : (match shut st'.d st'.h with
  | some h2 => match resA P ⟨st'.t, h2, []⟩ fn.results.toList with
   | some l => fl PA l fun l => K (resV l) h2
   | none => False
  | none => False) → LeavesInM (FR none) 0 P fn a'.tmps (fun e w' => ∃ V, e = .returned V ∧ ∃ ρ' v h', Ext ρ ρ' ∧ RV ρ' W v V ∧ Rel ρ' W h' w' ∧ K v h') a'.defers .returning w' := fun hk => by
  split at hk
  · rename_i h2 hs2
    split at hk
    · rename_i l hl
      rw [fl_eq] at hk
      refine shut_ok g3.h g3.d hs2 fun w2 hR2 => ?_
      obtain ⟨R, r1, r2⟩ := res_ok (P := P) (st := ⟨st'.t, h2, []⟩) (a := ⟨a'.tmps, []⟩) ⟨g3.t, hR2, .nil⟩ _ _ hl
      refine ⟨_, ?_, _, rfl, ρ', _, h2, g2, resV_ok r2, hR2, hk⟩
      rw [results_eq, Sem.run_bind, Array.mapM_eq_mapM_toList, Sem.run_map, r1]
      rfl
    · exact zA hk
  · exact zA hk
 cases e' with
 | normal =>
  cases e <;> try exact g1.elim
  exact fin g4
 | ret =>
  cases e <;> try exact g1.elim
  exact fin g4
 | exit i => exact zA g4
theorem zM {g : FuncId} {fn : Func} (hf : P.funcs[g]? = some fn) (hb : fn.body.isSome = true) (hn : (fn.name == "runtime.NumGoroutine") = false) (A : Array Value) (w : World) : (callFunc g A).run P w = .ok (.enter g A) w := by
 have h1 : fn.name ≠ "runtime.NumGoroutine" := by simpa using hn
 have h2 : fn.body ≠ none := by cases h : fn.body <;> simp_all
 simp [callFunc, hf, h1, h2]
theorem bodyA_some {LT : LTab Prop} {rec : Code → St → (Ex → St → Prop) → Prop} {inl : Inl Prop} {rf : Rf Prop} {fn : Func} {args : List AV} {h : Heap} {K : AV → Heap → Prop} (hq : bodyA PA P T LT rec inl rf fn args h K) : fn.body.isSome = true := by
 unfold bodyA at hq
 split at hq
 · rename_i hb; simp [hb]
 · exact zA hq
def CallOk (P : Program) (call : FuncId → List AV → Heap → (AV → Heap → Prop) → Prop) : Prop :=
 ∀ g args h (K : AV → Heap → Prop), call g args h K → ∀ (ρ : Names) (W w : World) (A : List Value), Rel ρ W h w → RL ρ W args A →
  (∀ w', (callFunc g A.toArray).run P w' = .ok (.enter g A.toArray) w') ∧ Calls P g A.toArray w fun e w' => ∃ V, e = .returned V ∧ ∃ ρ' v h', Ext ρ ρ' ∧ RV ρ' W v V ∧ Rel ρ' W h' w' ∧ K v h'
theorem loop_put {h : Heap} (hR : Rel ρ W h w) {n : Nat} {s : LoopState} {pe : Option Code} {t : List (Option AV)} {ps : List Nat} {sg bo : Code} (hn : h[n]? = some (some (.loop s pe t ps sg bo))) :
 ∃ b o r, ρ n = some (b, o) ∧ w.heap[b]? = some (.loop r) ∧ r.state = s ∧ r.pending = pe ∧ r.params.toList = ps ∧ r.assign = sg ∧ r.body = bo ∧ TR ρ W t r.tmps ∧
  ∀ s' pe', Rel ρ W (h.set n (some (.loop s' pe' t ps sg bo))) (w.putObj b (.loop { r with state := s', pending := pe' })) := by
 obtain ⟨b, o, e1, hW0, r, h4, h5, h6, h7, h8, h9, h10⟩ := hR.ob n _ hn
 have hlt : b < w.heap.size := (Array.getElem?_eq_some_iff.1 h4).1
 exact ⟨b, o, r, e1, h4, h5, h6, h7, h8, h9, h10, fun s' pe' => hR.put hn rfl e1 (fun k hk => World.putObj_heap_other hk) World.putObj_size rfl rfl rfl ⟨hW0, _, World.putObj_heap_same hlt, rfl, rfl, h7, h8, h9, h10⟩⟩
theorem setPs_ok : ∀ {ps : List Nat} {vs : List AV} {A : List Value}, RL ρ W vs A → ∀ {t : List (Option AV)} {a : Array Value}, TR ρ W t a → vs.length = ps.length → TR ρ W (setPs t ps vs) ((ps.zip A).foldl (fun tmps (t, a) => tmps.setIfInBounds t a) a)
 | [], _, _, .nil, t, a, h, _ => by simpa [setPs] using h
 | [], _, _, .cons _ _, _, _, _, hl => by simp at hl
 | p :: ps, _, _, .nil, _, _, _, hl => by simp at hl
 | p :: ps, _, _, .cons (v := v) (V := V) hv tl, t, a, h, hl => by
  simp only [setPs, List.zip_cons_cons, List.foldl_cons]
  have := TR.put (a := ⟨a, []⟩) h (Ext.refl ρ) hv (some p)
  exact setPs_ok tl this (by simpa using hl)
theorem round_ok {cd : Code → St → (Ex → St → Prop) → Prop} (hcd : ∀ (b : Nat) (c : Code) (st : St) (Q : Ex → St → Prop) (ρ : Names) (W w : World) (a : Act), cd c st Q → RelS ρ W st a w → ∀ n, c.wpIn (FR (some b)) n P (Post ρ W Q) a w)
 {o : Oper} {c : Call} {f : Operand} (hc : o.op = .call c) (hcal : c.callee = .value f) {n : Nat} {args : List AV} {h : Heap} {a : Act} {A : List Value} (hR : Rel ρ W h w) (hf : RV ρ W (.yl n) (a.eval f)) (hA : RL ρ W args A) (hAe : c.args.toList.map a.eval = A)
 {Kx : AV → Heap → Prop} (hq : roundA PA cd n args h Kx) {K : Act → World → Prop} {Q : Exit → Act → World → Prop} (hK : ∀ ρ' V w' v h', Ext ρ ρ' → RV ρ' W v V → Rel ρ' W h' w' → Kx v h' → K (a.put o.dst V) w') (r : Option Nat) (dp : Nat) : o.wpIn (FR r) dp P a w K Q := by
 unfold roundA at hq
 split at hq
 case h_2 => exact zA hq
 rename_i pe t ps sg bo hrd
 split at hq
 case isFalse => exact zA hq
 rename_i hlen
 have hn := zO hrd
 obtain ⟨b, o', lr, e1, h4, h5, h6, h7, h8, h9, h10, _⟩ := loop_put hR hn
 generalize hF : a.eval f = F at hf
 cases hf with | yl hp =>
 rename_i b2 o2
 obtain ⟨hbb, hoo⟩ : b2 = b ∧ o2 = o' := by rw [hp] at e1; simpa using e1
 subst hbb; subst hoo
 rw [fst_eq] at hq
 have e0 : c.args.map a.eval = A.toArray := by apply Array.ext'; simpa using hAe
 have hsz : A.toArray.size = lr.params.size := by
  have := hA.length
  have h2 : lr.params.toList.length = ps.length := by rw [h7]
  simp at h2 ⊢
  omega
 have hrun : (execOp a.eval o).run P w = .ok (.round b2 lr.fn ((lr.params.zip A.toArray).foldl (fun tmps (t, a) => tmps.setIfInBounds t a) lr.tmps) lr.assign lr.body) w := by
  have := run_yield (P := P) h4 hsz
  simp only [execOp, hc, resolve, hcal, hF, Deferred.ofValue, e0, Sem.run_bind, Sem.run_pure, Result.andThen_ok, invoke, Array.empty_append]
  exact this
 unfold Oper.wpIn
 refine ⟨fun _ _ => trivial, ?_⟩
 rw [Oper.semAt_eq _ _ _ (fun c' e => by rw [hc] at e; cases e), hrun]
 refine ⟨fun e => by simp [Fence.wide] at e, roundIn_of_wpIn (F := FR r) trivial ?_⟩
 have htm : TR ρ W (setPs t ps args) ((lr.params.zip A.toArray).foldl (fun tmps (t, a) => tmps.setIfInBounds t a) lr.tmps) := by
  have := setPs_ok hA h10 hlen
  rw [← Array.foldl_toList, Array.toList_zip, h7]
  exact this
 rw [h8, h9]
 refine wpIn_mono (hcd b2 sg _ _ ρ W w ⟨_, []⟩ hq ⟨htm, hR, .nil⟩ (dp - 1)) fun e a1 w1 hp1 => ?_
 obtain ⟨e', st1, ρ1, g1, g2, g3, g4⟩ := hp1
 cases e' with
 | exit i => exact zA g4
 | ret => exact zA g4
 | normal =>
  cases e <;> try exact g1.elim
  show ∃ w₂, _
  dsimp only at g4
  split at g4
  case h_2 => exact zA g4
  rename_i p1 t1 ps1 as1 b1 hrd1
  have hn1 := zO hrd1
  obtain ⟨c1, d1, lr1, k1, k2, k3, k4, k5, k6, k7, k8, k9⟩ := loop_put g3.h hn1
  have hb : c1 = b2 := by
   have := g2 _ _ hp
   rw [this] at k1
   cases k1; rfl
  subst hb
  have hbr := run_beginRound (P := P) k2 k3
  refine ⟨_, hbr, ?_⟩
  have hR1 := k9 .busy p1
  have hrec : ({ lr1 with state := .busy } : Loop) = { lr1 with state := .busy, pending := p1 } := by rw [← k4]
  rw [hrec]
  refine wpIn_mono (hcd c1 bo _ _ ρ1 W _ a1 g4 ⟨g3.t, hR1, g3.d⟩ (dp - 1)) fun e2 a2 w2 hp2 => ?_
  obtain ⟨e2', st2, ρ2, m1, m2, m3, m4⟩ := hp2
  split at m4
  case h_2 => exact zA m4
  rename_i s2 p2 t2 ps2 as2 bo2 hrd2
  have hn2 := zO hrd2
  obtain ⟨c2, d2, lr2, q1, q2, q3, q4, q5, q6, q7, q8, q9⟩ := loop_put m3.h hn2
  have hb : c2 = c1 := by
   have := m2 _ _ (g2 _ _ hp)
   rw [this] at q1
   cases q1; rfl
  subst hb
  have hext : Ext ρ ρ2 := g2.trans m2
  cases e2' with
  | normal =>
   cases e2 <;> try exact m1.elim
   exact ⟨_, _, run_endRound (P := P) none q2, hK ρ2 _ _ _ _ hext (.bool true) (q9 .ready none) m4⟩
  | ret =>
   cases e2 <;> try exact m1.elim
   exact ⟨_, _, run_endRound (P := P) (some .ret) q2, hK ρ2 _ _ _ _ hext (.bool false) (q9 .done (some .ret)) m4⟩
  | exit i =>
   cases e2 <;> try exact m1.elim
   rename_i i'
   have m1' : i = i' := m1
   subst m1'
   exact ⟨_, _, run_endRound (P := P) (some (.exit i)) q2, hK ρ2 _ _ _ _ hext (.bool false) (q9 .done (some (.exit i))) m4⟩
theorem range_ok {call : FuncId → List AV → Heap → (AV → Heap → Prop) → Prop} (hcall : CallOk P call) : RfOk P none (rangeA PA call) := by
 intro f ps sg bo st Q ρ W w a hq hs n
 simp only [rangeA] at hq
 split at hq
 case h_2 => exact zA hq
 rename_i g first cap hf
 have hfv := hs.ev0 _ _ hf
 generalize hF : a.eval f = F at hfv
 cases hfv with | fn _ hfirst hcap =>
 rename_i FA CA
 refine wpIn_rangeFunc fun fn _ => ?_
 have he := run_enterLoop_outer (P := P) (w := w) fn a.tmps ps sg bo
 obtain ⟨x1, x2, x3⟩ := makeF_ok hs.h (nm := st.h.length) (.inl rfl) (w' := w.alloc (.deferred (some []))) (World.grownBy_alloc w _ none) (x := .dfr) (b := w.heap.size) (o := 0) (Nat.le_refl _) (by simp) ⟨hs.h.bel.size, rfl, heap_alloc_new w _⟩
 have l1 : effH st.h st.h.length (.alloc .dfr) = st.h ++ [some .dfr] := by simp [effH]
 rw [l1] at x2
 generalize ρ.with st.h.length w.heap.size 0 = ρ1 at x1 x2 x3
 have hw1 : (w.alloc (.deferred (some []))).heap.size = w.heap.size + 1 := by simp
 obtain ⟨L, hL⟩ : ∃ L : Loop, L = { state := .ready, pending := none, fn, tmps := a.tmps, params := ps, assign := sg, body := bo, defers := w.heap.size } := ⟨_, rfl⟩
 rw [← hL] at he
 have hl2 : ((w.alloc (.deferred (some []))).alloc (.loop L)).heap[w.heap.size + 1]? = some (.loop L) := by
  have := heap_alloc_new (w.alloc (.deferred (some []))) (.loop L)
  rw [hw1] at this
  exact this
 have hTL : TR (ρ1.with (st.h.length + 1) (w.heap.size + 1) 0) W st.t L.tmps := by
  rw [hL]
  exact (hs.t.ext x1).ext (Names.with_ext (x2.free_none (.inl (by simp))))
 obtain ⟨y1, y2, y3⟩ := makeF_ok x2 (nm := st.h.length + 1) (.inl (by simp)) (w' := (w.alloc (.deferred (some []))).alloc (.loop L)) (World.grownBy_alloc _ _ none) (x := .loop .ready none st.t ps.toList sg bo) (b := w.heap.size + 1) (o := 0) (by omega) (by simp)
  ⟨by have := hs.h.bel.size; omega, L, hl2, by rw [hL], by rw [hL], by rw [hL], by rw [hL], by rw [hL], hTL⟩
 have l2 : effH (st.h ++ [some .dfr]) (st.h.length + 1) (.alloc (.loop .ready none st.t ps.toList sg bo)) = st.h ++ [some .dfr, some (.loop .ready none st.t ps.toList sg bo)] := by simp [effH]
 rw [l2] at y2
 generalize ρ1.with (st.h.length + 1) (w.heap.size + 1) 0 = ρ2 at y1 y2 y3
 clear hTL
 have hext := x1.trans y1
 obtain ⟨henter, hcalls⟩ := hcall _ _ _ _ hq _ W _ (FA ++ ([.func (.yield (w.heap.size + 1)) #[] #[]] ++ CA)) y2 (by
  rw [List.append_assoc]
  exact (hfirst.ext hext).append ((RL.cons (.yl y3) .nil).append (hcap.ext hext)))
 refine ⟨w.heap.size + 1, _, _, { target := .fn (.func g) CA.toArray, args := FA.toArray ++ #[Value.func (.yield (w.heap.size + 1)) #[] #[]] }, (w.alloc (.deferred (some []))).alloc (.loop L), g, (FA ++ ([Value.func (.yield (w.heap.size + 1)) #[] #[]] ++ CA)).toArray, (w.alloc (.deferred (some []))).alloc (.loop L), he, ?_, fun _ _ => trivial, ?_, fun e => by simp [Fence.wide] at e, ?_⟩
 · have hmap : Array.map a.eval #[Operand.const (Value.func (.yield (w.heap.size + 1)) #[] #[])] = #[Value.func (.yield (w.heap.size + 1)) #[] #[]] := by simp [Act.eval]
   simp only [resolve, Sem.run_bind, hF, Deferred.ofValue, Sem.run_pure, Result.andThen_ok, hmap]
 · have : FA.toArray ++ #[Value.func (.yield (w.heap.size + 1)) #[] #[]] ++ CA.toArray = (FA ++ ([Value.func (.yield (w.heap.size + 1)) #[] #[]] ++ CA)).toArray := by simp
   simp only [invoke, this]
   exact henter _
 · refine callsFR (hcalls.mono ?_)
   intro e w3 hp
   obtain ⟨V, rfl, ρ3, v3, h3, z1, z2, z3, z4⟩ := hp
   show ∃ jump w₄, _
   split at z4
   case h_2 => exact zA z4
   rename_i s3 pe3 t3 ps3 as3 bo3 hrd3
   split at z4
   case isTrue => exact zA z4
   rename_i hbusy
   have hn3 := zO hrd3
   obtain ⟨b3, o3, lr3, k1, k2, k3, k4, k5, k6, k7, k8, k9⟩ := loop_put z3 hn3
   have hb : b3 = w.heap.size + 1 := by
    have := z1 _ _ y3
    rw [this] at k1
    cases k1; rfl
   subst hb
   have hext3 : Ext ρ ρ3 := hext.trans z1
   have hend := run_endLoop (P := P) k2 (by rw [k3]; exact hbusy)
   have hlt : w.heap.size + 1 < w3.heap.size := (Array.getElem?_eq_some_iff.1 k2).1
   have hR4 : Rel ρ3 W (h3.set (st.h.length + 1) (some .dead)) (w3.putObj (w.heap.size + 1) (.loop { lr3 with state := .exhausted })) :=
    z3.put hn3 rfl k1 (fun k hk => World.putObj_heap_other hk) World.putObj_size rfl rfl rfl trivial
   have hS : RelS ρ3 W ⟨st.t, h3.set (st.h.length + 1) (some .dead), st.h.length :: st.d⟩ { a with defers := [{ target := .collected w.heap.size, args := #[] }] ++ a.defers } (w3.putObj (w.heap.size + 1) (.loop { lr3 with state := .exhausted })) :=
    ⟨hs.t.ext hext3, hR4, .cons (z1 _ _ (y1 _ _ x3)) (hs.d.ext hext3)⟩
   refine ⟨_, _, hend, ?_⟩
   clear hend
   generalize w3.putObj (w.heap.size + 1) (.loop { lr3 with state := .exhausted }) = w4 at hS ⊢
   rw [k4]
   split at z4
   · rw [fst_eq] at z4; exact ⟨.normal, _, ρ3, trivial, hext3, hS, z4⟩
   · rw [fst_eq] at z4; exact wpIn_ret ⟨.ret, _, ρ3, trivial, hext3, hS, z4⟩
   · rw [fst_eq] at z4; exact wpIn_exit ⟨.exit _, _, ρ3, rfl, hext3, hS, z4⟩
   · exact zA z4
theorem callOf_ok {o : Oper} {e : Operand → Option AV} {g : FuncId} {args : List AV} (hq : callOf P o e = some (g, args)) : ∃ c, o.op = .call c ∧ targetA P e c = some (g, args) := by
 unfold callOf at hq
 split at hq
 · rename_i c hc; exact ⟨c, hc, hq⟩
 · cases hq
theorem yieldOf_ok {o : Oper} {e : Operand → Option AV} {n : Nat} {args : List AV} (hq : yieldOf o e = some (n, args)) : ∃ c f, o.op = .call c ∧ c.callee = .value f ∧ e f = some (.yl n) ∧ evAll e c.args.toList = some args := by
 unfold yieldOf at hq
 split at hq
 · rename_i c hc
   split at hq
   · rename_i f hf
     split at hq
     · rename_i n' args' h1 h2
       simp at hq
       obtain ⟨rfl, rfl⟩ := hq
       exact ⟨c, f, hc, hf, h1, h2⟩
     · cases hq
   · cases hq
 · cases hq
theorem xop_nodefer {o : Oper} {e : Operand → Option AV} {rd : Nat → Option Ob} {nm : Nat} {x : Bool × AV × Option (Nat × Ob) × Option Ob} (hq : xop P o e rd nm = some x) : ∀ c, o.op ≠ .defer c := fun c h => by
 simp [xop, h] at hq
theorem brc_iff' {b : Bool} {A B : Prop} : brc b A B ↔ (b = true → A) ∧ (b = false → B) := by cases b <;> simp [brc]
theorem all_ok (hm : P.follows .mixedOrders = true) (hT : TabOk P T) : ∀ n, (∀ r rf, RfOk P r rf → LoopsOk P r (alp PA P T rf n)) ∧ InlOk P (ainl PA P T n) ∧ CallOk P (acall PA P T n)
 | 0 => ⟨fun _ _ _ _ _ _ _ _ _ _ h => zA h, fun _ _ _ _ h => zA h, fun _ _ _ _ h => zA h⟩
 | n + 1 => by
  obtain ⟨h1, h2, h3⟩ := all_ok hm hT n
  refine ⟨fun r rf hrf => loopsA_ok hm hT (h1 r rf hrf) h2 hrf, ?_, ?_⟩
  · intro o e h Kx hq ρ W w a hR he K Q hK r dp
    simp only [ainl] at hq
    split at hq
    · rename_i m s pos hsi
      have hq2 := brc_iff'.1 hq
      exact wpIn_of_wp (siterOf_ok hsi) (siter_ok hR he hsi (fun hlt w' V hV hR' => hK ρ V w' _ _ (Ext.refl ρ) hV hR' (hq2.1 (decide_eq_true hlt))) fun hlt V hV => hK ρ V w _ _ (Ext.refl ρ) hV hR (hq2.2 (decide_eq_false hlt)))
    rename_i hsi
    split at hq
    · rename_i p v s al hx
      obtain ⟨rfl, hq⟩ := brc_false.1 hq
      rw [fso_eq, fao_eq] at hq
      exact wpIn_of_wp (xop_nodefer hx) (xop_ok hR he hx fun ρ' w' V he' hV hR' => hK ρ' V w' v _ he' hV hR' hq)
    split at hq
    · rename_i g args hta
      obtain ⟨c, hc, hta⟩ := callOf_ok hta
      obtain ⟨A, hA, hrun⟩ := target_ok (P := P) he hta o.type
      obtain ⟨henter, hcalls⟩ := h3 _ _ _ _ hq ρ W w A hR hA
      refine wpIn_of_wp (fun c' e' => by rw [hc] at e'; cases e') (wp_gives (R := fun V w' => ∃ ρ' v h', Ext ρ ρ' ∧ RV ρ' W v V ∧ Rel ρ' W h' w' ∧ Kx v h') (.inl ⟨henter _, hcalls.mono fun e w' he => he⟩) (by simp only [execOp, hc]; exact hrun w) fun V w' hVw => ?_)
      obtain ⟨ρ', v, h', g1, g2, g3, g4⟩ := hVw
      exact hK ρ' V w' v h' g1 g2 g3 g4
    · split at hq
      case h_2 => exact zA hq
      rename_i nl args hy
      obtain ⟨c, f, hc, hcal, hf, hargs⟩ := yieldOf_ok hy
      exact round_ok (fun b c st Q ρ W w a hcode hs n => codeA_ok0 hm hT (h1 (some b) _ (noRf_ok P _)) h2 (noRf_ok P _) c st Q ρ W w a hcode hs n) hc hcal hR (he _ _ hf) (evAll_ok he _ _ hargs) rfl hq hK r dp
  · intro g args h K hq ρ W w A hR hA
    simp only [acall] at hq
    split at hq
    case h_2 => exact zA hq
    rename_i fn hf
    split at hq
    case isTrue => exact zA hq
    rename_i hn
    have hrf := range_ok (P := P) h3
    exact ⟨fun w' => zM hf (bodyA_some hq) (by simpa using hn) _ _, body_ok hf (fun c _ => codeA_ok0 hm hT (h1 none _ hrf) h2 hrf c) hA hR hq⟩
def LtOk (P : Program) (g : FuncId) (LT : LTab Prop) : Prop := ∀ fn c, P.funcs[g]? = some fn → fn.body = some c → ∀ b ∈ Code.loops c, ∀ lc, LT (Code.first b) = some lc → LcOk P b lc
theorem zI (P : Program) (g : FuncId) : LtOk P g noLoops := fun _ _ _ _ _ _ _ h => by cases h
theorem afn_ok (hm : P.follows .mixedOrders = true) (hT : TabOk P T) {n : Nat} {g : FuncId} {LT : LTab Prop} (hLT : LtOk P g LT) {args : List AV} {K : AV → Heap → Prop} (hq : afn PA P T LT n g args K) {A : List Value} {w : World} (hA : RL noNames w args A) :
 Calls P g A.toArray w fun e w' => ∃ V, e = .returned V ∧ ∃ ρ' v h', RV ρ' w v V ∧ Rel ρ' w h' w' ∧ K v h' := by
 unfold afn at hq
 split at hq
 case h_2 => exact zA hq
 rename_i fn hf
 obtain ⟨h1, h2, h3⟩ := all_ok (P := P) (T := T) hm hT n
 have hrf := range_ok (P := P) h3
 refine (body_ok hf (fun c hc => codeA_ok hm hT (h1 none _ hrf) h2 hrf c (hLT fn c hf hc)) hA (Rel.start w) hq).mono fun e w' he => ?_
 obtain ⟨V, g1, ρ', v, h', g2, g3, g4, g5⟩ := he
 exact ⟨V, g1, ρ', v, h', g3, g4, g5⟩
theorem toNul_ok {W w : World} {ρ : Names} {h : Heap} {n : Nat} (ih : ∀ {v : AV} {V : Value}, RV ρ W v V → (toNu h n v).okN n = true → nuC h n v = true → RV noNames w (toNu h n v) V ∧ Fr W.heap.size n (toNu h n v) V) :
 ∀ {l : List AV} {L : List Value}, RL ρ W l L → (l.map (toNu h n)).all (AV.okN n) = true → l.all (nuC h n) = true → RL noNames w (l.map (toNu h n)) L ∧ ∀ (i : Nat) (v : AV) (V : Value), (l.map (toNu h n))[i]? = some v → L[i]? = some V → Fr W.heap.size n v V
 | _, _, .nil, _, _ => ⟨.nil, fun i v V a => by simp at a⟩
 | _, _, .cons g t, ha, hcc => by
  simp only [List.map_cons, List.all_cons, Bool.and_eq_true] at ha hcc
  obtain ⟨g1, g2⟩ := ih g ha.1 hcc.1
  obtain ⟨g3, g4⟩ := toNul_ok ih t ha.2 hcc.2
  refine ⟨.cons g1 g3, fun i v V a b => ?_⟩
  cases i with
  | zero => simp at a b; subst a; subst b; exact g2
  | succ i => exact g4 i v V (by simpa using a) (by simpa using b)
theorem toNu_gs {W w : World} {ρ : Names} {h : Heap} (hR : Rel ρ W h w) {m n s len : Nat} {V : Value} (hv : RV ρ W (.gs m s len) V) (ho : (toNu h n (.gs m s len)).okN n = true) (hcc : nuC h n (.gs m s len) = true) : RV noNames w (toNu h n (.gs m s len)) V ∧ Fr W.heap.size n (toNu h n (.gs m s len)) V := by
 have e : toNu h n (.gs m s len) = match rdFlat h m with
  | some (.own true e s' l) => if s = s' ∧ l.length = len * s then .nu e s len l else .gs m s len
  | some (.vec e s' len' c) => if s = s' then .nv s len c else .gs m s len
  | _ => .gs m s len := by cases n <;> rfl
 have ec : nuC h n (.gs m s len) = match rdFlat h m with
  | some (.vec _ _ len' _) => Nat.ble len len'
  | _ => true := by cases n <;> rfl
 rw [e] at ho ⊢
 rw [ec] at hcc
 have bad : (AV.gs m s len).okN n = false := by cases n <;> rfl
 split at ho
 · rename_i e' s' l hl
   try simp only [hl]
   split at ho
   · rename_i hc
     rw [if_pos hc]
     obtain ⟨rfl, hlen⟩ := hc
     cases hv with | gs s len hp hle =>
     rename_i b cap
     obtain ⟨b', o', e1, e2⟩ := hR.ob m _ (rdFlat_ok _ _ _ hl)
     rw [hp] at e1; cases e1
     obtain ⟨hW0, hcap, L, fz, h4, h5, h6, _, h7, h8⟩ := e2
     have hfz := h6 rfl
     subst hfz
     have ho' : l.all (AV.flat 4) = true := by cases n <;> simp [AV.okN] at ho <;> simpa using ho.1
     exact ⟨.nu e' s len (hR.dom m _ hp).2 hcap hle h4 h5 hlen (h8.flat_move 4 ho'), by cases n <;> simpa [Fr] using hW0⟩
   · rw [bad] at ho; cases ho
 · rename_i e' s' len' c hl
   try simp only [hl] at hcc ⊢
   split at ho
   · rename_i hs
     rw [if_pos hs]
     subst hs
     have hlen := Nat.le_of_ble_eq_true hcc
     cases hv with | gs s len hp hle =>
     rename_i b cap
     obtain ⟨b', o', e1, e2⟩ := hR.ob m _ (rdFlat_ok _ _ _ hl)
     rw [hp] at e1; cases e1
     obtain ⟨hW0, hcap, L, h4, h5, h6, h7⟩ := e2
     have hV : ∀ i j, i < len → j < s → ∃ V, L[i * s + j]? = some V ∧ RV noNames W (c i j) V ∧ (c i j).plain = true := fun i j hi hj => h7 i j (by omega) hj
     refine ⟨.nv (o := 0) s len cap c (fun i j => L.getD (i * s + j) undef) (hR.dom m _ hp).2 hle (fun i j hi hj => ?_) (fun i j hi hj => ?_) (fun i j hi hj => ?_), by cases n <;> simpa [Fr] using hW0⟩
     · obtain ⟨V, g1, _⟩ := hV i j hi hj
       simp only [List.getD, g1, Option.getD_some, Nat.zero_add]
       simp [World.cell?, h4, g1]
     · obtain ⟨V, g1, g2, g3⟩ := hV i j hi hj
       simp only [List.getD, g1, Option.getD_some]
       exact plain_move g2 g3
     · obtain ⟨V, _, _, g3⟩ := hV i j hi hj
       exact (plain_iff.1 g3).1
   · rw [bad] at ho; cases ho
 · rw [bad] at ho; cases ho
theorem toNu_ok {W w : World} {ρ : Names} {h : Heap} (hR : Rel ρ W h w) : ∀ (n : Nat) {v : AV} {V : Value}, RV ρ W v V → (toNu h n v).okN n = true → nuC h n v = true → RV noNames w (toNu h n v) V ∧ Fr W.heap.size n (toNu h n v) V := by
 intro n
 induction n with
 | zero =>
  intro v V hv ho hcc
  cases v
  case gs => exact toNu_gs hR hv ho hcc
  case nu e s len l => simp [toNu, AV.okN, AV.flat] at ho
  case nv s len c => simp [toNu, AV.okN, AV.flat] at ho
  all_goals exact ⟨hv.flat_move 0 ho, Fr.flat 0 ho⟩
 | succ n ih =>
  intro v V hv ho hcc
  cases v
  case gs => exact toNu_gs hR hv ho hcc
  case nu e s len l => simp [toNu, AV.okN, AV.flat] at ho
  case nv s len c => simp [toNu, AV.okN, AV.flat] at ho
  case agg l =>
   cases hv with | agg hl =>
   obtain ⟨g1, g2⟩ := toNul_ok ih hl ho hcc
   exact ⟨.agg g1, fun i v V a b => g2 i v V a (by simpa using b)⟩
  case tup l =>
   cases hv with | tup hl =>
   obtain ⟨g1, g2⟩ := toNul_ok ih hl ho hcc
   exact ⟨.tup g1, fun i v V a b => g2 i v V a (by simpa using b)⟩
  all_goals exact ⟨hv.flat_move (n + 1) ho, Fr.flat (n + 1) ho⟩
def AVLe (u v : AV) : Prop := ∀ (W : World) (n0 : Nat) (V : Value), RV noNames W u V → Fr n0 4 u V → RV noNames W v V ∧ Fr n0 4 v V
theorem AVLe.refl (u : AV) : AVLe u u := fun _ _ _ h k => ⟨h, k⟩
def Res (v x : AV) : Prop := x.okN 4 = true ∧ AVLe x v
theorem zN {v : AV} (h : v.okN 4 = true) : Res v v := ⟨h, AVLe.refl v⟩
theorem givesL_ok (hm : P.follows .mixedOrders = true) (hT : TabOk P T) {g : FuncId} (hn : (P.funcs[g]?).any (fun fn => !(fn.name == "runtime.NumGoroutine")) = true) {LT : LTab Prop} (hLT : LtOk P g LT) {args : List AV} {v : AV} {n : Nat}
 (hq : afn PA P T LT n g args fun u h => nuK h u (Res v)) {A : List Value} (hA : RL noNames w args A) : Gives P g A.toArray w fun V w' => (RV noNames w' v V ∧ Below w.heap.size w w') ∧ Fr w.heap.size 4 v V := by
 cases hf : P.funcs[g]? with
 | none => simp [hf] at hn
 | some fn =>
  simp [hf] at hn
  have hb : fn.body.isSome = true := by
   unfold afn at hq
   simp only [hf] at hq
   exact bodyA_some hq
  refine .inl ⟨zM hf hb (by simpa using hn) _ _, (afn_ok hm hT hLT hq hA).mono fun e w' he => ?_⟩
  obtain ⟨V, g1, ρ', u, h', g2, g3, g4⟩ := he
  obtain ⟨c1, c2, c3⟩ := brc_false.1 g4
  obtain ⟨k1, k2⟩ := toNu_ok g3 4 g2 c2 c1
  obtain ⟨k3, k4⟩ := c3 _ _ _ k1 k2
  exact ⟨V, g1, ⟨k3, g3.bel⟩, k4⟩
theorem givesN_ok (hm : P.follows .mixedOrders = true) (hT : TabOk P T) {g : FuncId} (hn : (P.funcs[g]?).any (fun fn => !(fn.name == "runtime.NumGoroutine")) = true) {LT : LTab Prop} (hLT : LtOk P g LT) {args : List AV} {v : AV} (hok : v.okN 4 = true) {n : Nat}
 (hq : afn PA P T LT n g args fun u h => nuK h u fun x => x = v) {A : List Value} (hA : RL noNames w args A) : Gives P g A.toArray w fun V w' => (RV noNames w' v V ∧ Below w.heap.size w w') ∧ Fr w.heap.size 4 v V := by
 cases hf : P.funcs[g]? with
 | none => simp [hf] at hn
 | some fn =>
  simp [hf] at hn
  have hb : fn.body.isSome = true := by
   unfold afn at hq
   simp only [hf] at hq
   exact bodyA_some hq
  refine .inl ⟨zM hf hb (by simpa using hn) _ _, (afn_ok hm hT hLT hq hA).mono fun e w' he => ?_⟩
  obtain ⟨V, g1, ρ', u, h', g2, g3, g4⟩ := he
  obtain ⟨c1, rfl⟩ := brc_false.1 g4
  obtain ⟨k1, k2⟩ := toNu_ok g3 4 g2 hok c1
  exact ⟨V, g1, ⟨k1, g3.bel⟩, k2⟩
variable {P : Program} {T : Tab} {β : Type} {x : β}
theorem bro_some {b : Bool} {A B : Option β} (h : bro b A B = some x) : (b = true ∧ A = some x) ∨ (b = false ∧ B = some x) := by cases b <;> simp_all [bro]
def InlAd (x : β) (i : Inl (Option β)) (j : Inl Prop) : Prop := ∀ c e h (K : AV → Heap → Option β) (K' : AV → Heap → Prop), i c e h K = some x → (∀ v h', K v h' = some x → K' v h') → j c e h K'
def RecAd (x : β) (i : Code → St → (Ex → St → Option β) → Option β) (j : Code → St → (Ex → St → Prop) → Prop) : Prop :=
 ∀ c st (K : Ex → St → Option β) (K' : Ex → St → Prop), i c st K = some x → (∀ e s, K e s = some x → K' e s) → j c st K'
theorem step_ad {ok : Nat → Nat → Bool} {lk : Lk} (hlk : LkOk lk) {ops : Array Oper} {rd : Nat → Heap → Nat → Option Ob} {nm : Nat → Heap → Nat} {i : Inl (Option β)} {j : Inl Prop} (hi : InlAd x i j) {n : Nat} {st : St} {K : St → Option β} {K' : St → Prop}
 (h : stepA (OA β) P T ok lk ops rd nm i n K st = some x) (hK : ∀ s, K s = some x → K' s) : stepA PA P T ok lk ops rd nm j n K' st := by
 rw [stepA_eq _ P T ok hlk] at h ⊢
 unfold stepB at h ⊢
 split at h
 · rename_i ho; exact hK _ h
 · rename_i o ho
   try simp only [ho]
   split at h
   · cases h
   · rename_i b hb
     try simp only [hb]
     rcases bro_some h with ⟨rfl, h⟩ | ⟨rfl, h⟩
     · simp only [PA, brc]
       split at h
       · rename_i p v f hv
         try simp only [hv]
         cases hok : effOk (ok n) f with
         | false => rw [hok] at h; cases h
         | true =>
         rw [hok] at h
         simp only [Bool.cond_true] at h ⊢
         rcases bro_some h with ⟨rfl, h⟩ | ⟨rfl, h⟩
         · simp only [brc]
           rw [fx_eq, fy_eq, fst_eq] at h ⊢
           exact hK _ h
         · cases h
       · rename_i hv
         try simp only [hv]
         refine hi _ _ _ _ _ h fun v h' hk => ?_
         rw [fv_eq, fst_eq] at hk ⊢
         exact hK _ hk
     · simp only [PA, brc]
       rw [fst_eq] at h ⊢
       exact hK _ h
theorem ops_ad {ok : Nat → Nat → Bool} {lk : Lk} (hlk : LkOk lk) {ops : Array Oper} {rd : Nat → Heap → Nat → Option Ob} {nm : Nat → Heap → Nat} {i : Inl (Option β)} {j : Inl Prop} (hi : InlAd x i j) {K : St → Option β} {K' : St → Prop} (hK : ∀ s, K s = some x → K' s) :
 ∀ (l : List Nat) (st : St), opsA (OA β) P T ok lk ops rd nm i l st K = some x → opsA PA P T ok lk ops rd nm j l st K'
 | [], st, h => hK _ h
 | n :: l, st, h => step_ad hlk hi h fun s hs => ops_ad hlk hi hK l s hs
theorem noInl_ad0 : InlAd x (noInl (OA β)) (noInl PA) := fun _ _ _ _ _ h _ => by cases h
theorem seg_ad {inl : Inl (Option β)} {inl' : Inl Prop} (hi : InlAd x inl inl') {ops : Array Oper} {bf : List Nat} {mask : Nat} {K : St → Option β} {K' : St → Prop} : ∀ (f : Nat) (todo : List Nat) (st : St) (_ : Unit), segA (OA β) P T inl ops bf mask f todo st K = some x → (∀ s, K s = some x → K' s) → segA PA P T inl' ops bf mask f todo st K'
 | 0, _, _, _, h, _ => by cases h
 | f + 1, todo, st, u, h, hK => by
  simp only [segA] at h ⊢
  refine ops_ad (lkOf_ok ops) noInl_ad0 (fun s hs => ?_) _ _ h
  split at hs
  · exact hK _ hs
  · exact step_ad lkAll_ok hi hs fun s2 hs2 => seg_ad hi f _ s2 u hs2 hK
def RfAd (x : β) (i : Rf (Option β)) (j : Rf Prop) : Prop :=
 ∀ f ps a b st (K : Ex → St → Option β) (K' : Ex → St → Prop), i f ps a b st K = some x → (∀ e s, K e s = some x → K' e s) → j f ps a b st K'
def CallAd (x : β) (i : FuncId → List AV → Heap → (AV → Heap → Option β) → Option β) (j : FuncId → List AV → Heap → (AV → Heap → Prop) → Prop) : Prop :=
 ∀ g args h (K : AV → Heap → Option β) (K' : AV → Heap → Prop), i g args h K = some x → (∀ v h', K v h' = some x → K' v h') → j g args h K'
theorem noRf_ad : RfAd x (noRf (OA β)) (noRf PA) := fun _ _ _ _ _ _ _ h _ => by cases h
theorem code_ad {r : Code → St → (Ex → St → Option β) → Option β} {r' : Code → St → (Ex → St → Prop) → Prop} (hr : RecAd x r r') {i : Inl (Option β)} {j : Inl Prop} (hi : InlAd x i j) {rf : Rf (Option β)} {rf' : Rf Prop} (hf : RfAd x rf rf') : RecAd x (codeA (OA β) P T noLoops r i rf) (codeA PA P T noLoops r' j rf') := by
 intro c
 induction c with
 | skip => intro st K K' h hK; exact hK _ _ h
 | label l => intro st K K' h hK; exact hK _ _ h
 | exit id => intro st K K' h hK; exact hK _ _ h
 | ret => intro st K K' h hK; exact hK _ _ h
 | seq a b iha ihb =>
  intro st K K' h hK
  refine iha _ _ _ h fun e s hs => ?_
  cases e with
  | normal => exact ihb _ _ _ hs hK
  | exit n => exact hK _ _ hs
  | ret => exact hK _ _ hs
 | cond c a b iha ihb =>
  intro st K K' h hK
  simp only [codeA] at h ⊢
  split at h
  · rename_i q hq
    try simp only [hq]
    rcases bro_some h with ⟨rfl, h⟩ | ⟨rfl, h⟩
    · have h2 : fst (refC st c true) (fun st => codeA (OA β) P T noLoops r i rf a st K) = some x := h
      rw [fst_eq, refC_eq hq] at h2
      rw [PA.br_t, fst_eq, refC_eq hq]
      exact iha _ _ _ h2 hK
    · have h2 : fst (refC st c false) (fun st => codeA (OA β) P T noLoops r i rf b st K) = some x := h
      rw [fst_eq, refC_eq hq] at h2
      rw [PA.br_f, fst_eq, refC_eq hq]
      exact ihb _ _ _ h2 hK
  · cases h
 | block id b ih =>
  intro st K K' h hK
  refine ih _ _ _ h fun e s hs => ?_
  cases e with
  | normal => exact hK _ _ hs
  | exit n =>
   simp only at hs ⊢
   split at hs
   · rename_i hn; rw [if_pos hn]; exact hK _ _ hs
   · rename_i hn; rw [if_neg hn]; exact hK _ _ hs
  | ret => exact hK _ _ hs
 | loop b ih =>
  intro st K K' h hK
  exact hr _ _ _ _ h hK
 | rangeFunc f ps a b iha ihb =>
  intro st K K' h hK
  exact hf _ _ _ _ _ _ _ h hK
 | region id ops draw =>
  intro st K K' h hK
  simp only [codeA, regionA] at h ⊢
  split at h
  · rename_i hd
    rw [if_pos hd]
    split at h
    · rename_i hok
      rw [if_pos hok]
      exact seg_ad hi _ _ _ () h (fun s hs => hK _ _ hs)
    · cases h
  · rename_i hd
    rw [if_neg hd]
    exact ops_ad lkAll_ok hi (fun s hs => hK _ _ hs) _ _ h
 | _ => intro st K K' h hK; cases h
theorem body_ad {r : Code → St → (Ex → St → Option β) → Option β} {r' : Code → St → (Ex → St → Prop) → Prop} (hr : RecAd x r r') {i : Inl (Option β)} {j : Inl Prop} (hi : InlAd x i j) {rf : Rf (Option β)} {rf' : Rf Prop} (hf : RfAd x rf rf') {fn : Func} {args : List AV} {hp : Heap} {K : AV → Heap → Option β} {K' : AV → Heap → Prop}
 (h : bodyA (OA β) P T noLoops r i rf fn args hp K = some x) (hK : ∀ v h', K v h' = some x → K' v h') : bodyA PA P T noLoops r' j rf' fn args hp K' := by
 unfold bodyA at h ⊢
 split at h
 · rename_i c hc
   try simp only [hc]
   rw [fl_eq, fst_eq] at h ⊢
   refine code_ad hr hi hf _ _ _ _ h fun e s hs => ?_
   have fin : (match shut s.d s.h with | some h2 => (match resA P ⟨s.t, h2, []⟩ fn.results.toList with | some l => fl (OA β) l fun l => K (resV l) h2 | none => (OA β).no) | none => (OA β).no) = some x → (match shut s.d s.h with | some h2 => (match resA P ⟨s.t, h2, []⟩ fn.results.toList with | some l => fl PA l fun l => K' (resV l) h2 | none => PA.no) | none => PA.no) := fun h => by
    split at h
    · rename_i h2 hs2
      try simp only [hs2]
      split at h
      · rename_i l hl
        try simp only [hl]
        rw [fl_eq] at h ⊢
        exact hK _ _ h
      · cases h
    · cases h
   cases e with
   | normal => exact fin hs
   | ret => exact fin hs
   | exit n => cases hs
 · cases h
theorem round_ad {cd : Code → St → (Ex → St → Option β) → Option β} {cd' : Code → St → (Ex → St → Prop) → Prop} (hc : RecAd x cd cd') {n : Nat} {args : List AV} {hp : Heap} {K : AV → Heap → Option β} {K' : AV → Heap → Prop}
 (h : roundA (OA β) cd n args hp K = some x) (hK : ∀ v h', K v h' = some x → K' v h') : roundA PA cd' n args hp K' := by
 unfold roundA at h ⊢
 split at h
 case h_2 => cases h
 rename_i p t ps sg bo hrd
 try simp only [hrd]
 split at h
 case isFalse => cases h
 rename_i hl
 rw [if_pos hl]
 rw [fst_eq] at h ⊢
 refine hc _ _ _ _ h fun e1 s1 h1 => ?_
 cases e1 with
 | exit n => cases h1
 | ret => cases h1
 | normal =>
  dsimp only at h1 ⊢
  split at h1
  case h_2 => cases h1
  rename_i p1 t1 ps1 as1 b1 hrd1
  try simp only [hrd1]
  refine hc _ _ _ _ h1 fun e2 s2 h2 => ?_
  split at h2
  case h_2 => cases h2
  rename_i hrd2
  try simp only [hrd2]
  cases e2 <;> exact hK _ _ h2
theorem range_ad {call : FuncId → List AV → Heap → (AV → Heap → Option β) → Option β} {call' : FuncId → List AV → Heap → (AV → Heap → Prop) → Prop} (hc : CallAd x call call') : RfAd x (rangeA (OA β) call) (rangeA PA call') := by
 intro f ps a b st K K' h hK
 unfold rangeA at h ⊢
 split at h
 case h_2 => cases h
 rename_i g first cap hf
 try simp only [hf]
 refine hc _ _ _ _ _ h fun v h2 hq => ?_
 try dsimp only at hq ⊢
 split at hq
 case h_2 => cases hq
 rename_i s pe t1 ps1 as1 b1 hrd
 try simp only [hrd]
 split at hq
 case isTrue => cases hq
 rename_i hb
 rw [if_neg hb]
 split at hq
 · rw [fst_eq] at hq ⊢; exact hK _ _ hq
 · rw [fst_eq] at hq ⊢; exact hK _ _ hq
 · rw [fst_eq] at hq ⊢; exact hK _ _ hq
 · cases hq
theorem all_ad : ∀ n, (∀ rf rf', RfAd x rf rf' → RecAd x (alp (OA β) P T rf n) (alp PA P T rf' n)) ∧ InlAd x (ainl (OA β) P T n) (ainl PA P T n) ∧ CallAd x (acall (OA β) P T n) (acall PA P T n)
 | 0 => by
  refine ⟨fun rf rf' _ c st K K' h hK => ?_, fun c e hp K K' h hK => ?_, fun g args hp K K' h hK => ?_⟩
  all_goals
   have : (none : Option β) = some x := h
   cases this
 | n + 1 => by
  obtain ⟨h1, h2, h3⟩ := all_ad n
  refine ⟨fun rf rf' hrf c st K K' h hK => ?_, fun c e h K K' hq hK => ?_, fun g args h K K' hq hK => ?_⟩
  · refine code_ad (h1 _ _ hrf) h2 hrf c _ _ _ h fun e s hs => ?_
    cases e with
    | normal => exact h1 _ _ hrf _ _ _ _ hs hK
    | exit n => exact hK _ _ hs
    | ret => exact hK _ _ hs
  · simp only [ainl] at hq ⊢
    split at hq
    · rename_i m s pos hsi
      try simp only [hsi]
      rcases bro_some hq with ⟨e, hq⟩ | ⟨e, hq⟩ <;> rw [e] <;> exact hK _ _ hq
    rename_i hsi
    try simp only [hsi]
    split at hq
    · rename_i p v s al hx
      try simp only [hx]
      rcases bro_some hq with ⟨rfl, hq⟩ | ⟨rfl, hq⟩
      · simp only [PA, brc]
        rw [fso_eq, fao_eq] at hq ⊢
        exact hK _ _ hq
      · cases hq
    rename_i hx
    try simp only [hx]
    split at hq
    · rename_i g args hg
      try simp only [hg]
      exact h3 _ _ _ _ _ hq hK
    · rename_i hg
      try simp only [hg]
      split at hq
      · rename_i nl args hy
        try simp only [hy]
        exact round_ad (code_ad (h1 _ _ noRf_ad) h2 noRf_ad) hq hK
      · cases hq
  · simp only [acall] at hq ⊢
    split at hq
    · rename_i fn hf
      try simp only [hf]
      split at hq
      · cases hq
      · rename_i hn
        rw [if_neg hn]
        have hrf := range_ad h3
        exact body_ad (h1 _ _ hrf) h2 hrf hq hK
    · cases hq
theorem afn_ad {n : Nat} {g : FuncId} {args : List AV} {K : AV → Heap → Option β} {K' : AV → Heap → Prop} (h : afn (OA β) P T noLoops n g args K = some x) (hK : ∀ v h', K v h' = some x → K' v h') : afn PA P T noLoops n g args K' := by
 unfold afn at h ⊢
 split at h
 · rename_i fn hf
   try simp only [hf]
   obtain ⟨h1, h2, h3⟩ := all_ad (P := P) (T := T) (x := x) n
   have hrf := range_ad h3
   exact body_ad (h1 _ _ hrf) h2 hrf h hK
 · cases h
theorem nuK_of {h : Heap} {v u : AV} (hk : cond (nuC h 4 v) (fv (OA AV) (toNu h 4 v) some) none = some u) : nuK h v fun x => x = u := by
 unfold nuK
 cases hc : nuC h 4 v with
 | false => rw [hc] at hk; cases hk
 | true =>
  rw [hc] at hk
  simp only [Bool.cond_true] at hk
  rw [fv_eq] at hk
  simpa [brc] using hk
theorem runC_ok (hm : P.follows .mixedOrders = true) (rounds : Nat) (hT : TabOk P T) (g : FuncId) : COk P g (runC P rounds T g) := by
 intro args p v hcv hp w A hA
 simp only [runC] at hcv
 split at hcv
 case isFalse => cases hcv
 rename_i hname
 split at hcv
 case h_2 => cases hcv
 rename_i u hu
 split at hcv
 case isFalse => cases hcv
 rename_i hok
 simp at hcv
 obtain ⟨_, rfl⟩ := hcv
 simp only [Bool.and_eq_true] at hok
 have hP : afn PA P T noLoops rounds g args fun z h => nuK h z fun x => x = u := afn_ad hu fun v h' hk => nuK_of hk
 exact givesN_ok hm hT hname (zI P g) hok.1 hP hA
theorem runT_ok (hm : P.follows .mixedOrders = true) (rounds : Nat) {T0 : Tab} (h0 : TabOk P T0) : ∀ k, TabOk P (runT P rounds T0 k)
 | 0 => h0
 | k + 1 => by
  intro g con hc
  simp only [runT] at hc
  split at hc
  · exact h0 g con (by rename_i c hq; rw [hq]; exact hc)
  · simp at hc
    subst hc
    exact runC_ok hm rounds (runT_ok hm rounds h0 k) g
def AV.eqb : Nat → AV → AV → Bool
 | _, .bool a, .bool b => a == b
 | _, .int k a, .int k' b => decide (k = k') && decide (a = b)
 | _, .str a, .str b => decide (a.data.toList = b.data.toList)
 | _, .nilp, .nilp | _, .nilsl, .nilsl | _, .nilmap, .nilmap | _, .nilf, .nilf | _, .nili, .nili => true
 | n + 1, .agg l, .agg m => eql n l m
 | _, _, _ => false
where
 eql (n : Nat) : List AV → List AV → Bool
  | [], [] => true
  | x :: l, y :: m => AV.eqb n x y && eql n l m
  | _, _ => false
mutual
theorem eqb_ok : ∀ (n : Nat) (x y : AV), x.eqb n y = true → x = y
 | n, x, y, h => by
  unfold AV.eqb at h
  split at h
  · simp at h; rw [h]
  · simp at h; obtain ⟨rfl, rfl⟩ := h; rfl
  · rename_i a b
    simp at h
    have : a = b := by
     obtain ⟨⟨a⟩⟩ := a; obtain ⟨⟨b⟩⟩ := b
     simp at h; rw [h]
    rw [this]
  all_goals first | rfl | (cases h; done) | skip
  rw [eql_ok _ _ _ h]
theorem eql_ok : ∀ (n : Nat) (l m : List AV), AV.eqb.eql n l m = true → l = m
 | _, [], [], _ => rfl
 | n, x :: l, y :: m, h => by
  simp only [AV.eqb.eql, Bool.and_eq_true] at h
  rw [eqb_ok n x y h.1, eql_ok n l m h.2]
 | _, [], _ :: _, h => by simp [AV.eqb.eql] at h
 | _, _ :: _, [], h => by simp [AV.eqb.eql] at h
end
def memo : List (List AV × AV) → Con
 | [], _ => none
 | (a, v) :: r, args => if AV.eqb.eql 4 a args then some (true, v) else memo r args
theorem memo_ok (hm : P.follows .mixedOrders = true) {rounds : Nat} (hT : TabOk P T) {g : FuncId} : ∀ {l : List (List AV × AV)}, (∀ x ∈ l, runC P rounds T g x.1 = some (true, x.2)) → COk P g (memo l)
 | [], _ => fun args p v hc => by simp [memo] at hc
 | (a, u) :: r, h => fun args p v hc hp w A hA => by
  simp only [memo] at hc
  split at hc
  · rename_i he
    simp at hc
    obtain ⟨rfl, rfl⟩ := hc
    have hae := eql_ok _ _ _ he
    subst hae
    exact runC_ok hm rounds hT g a true u (h (a, u) (by simp)) rfl w A hA
  · exact memo_ok hm hT (fun x hx => h x (by simp [hx])) args p v hc hp w A hA
theorem memo_nil {g : FuncId} {rounds : Nat} : ∀ x ∈ ([] : List (List AV × AV)), runC P rounds T g x.1 = some (true, x.2) := by simp
theorem memo_cons {g : FuncId} {rounds : Nat} {a : List AV} {v : AV} {r : List (List AV × AV)} (h : runC P rounds T g a = some (true, v)) (t : ∀ x ∈ r, runC P rounds T g x.1 = some (true, x.2)) : ∀ x ∈ (a, v) :: r, runC P rounds T g x.1 = some (true, x.2) := fun x hx => by
 rcases List.mem_cons.1 hx with rfl | hx
 · exact h
 · exact t x hx
end Go.Proofs.YtimgphlfaninnaaGreat.A
namespace Go.Proofs.YtimgphlfaninnaaGreat.A
open Go Go.RowKit
set_option linter.unusedVariables false
set_option linter.unusedSimpArgs false
set_option maxRecDepth 100000
variable {ρ : Names} {W w : World}
theorem kL {L : List Value} : RL ρ W [] L ↔ L = [] := ⟨fun h => by cases h; rfl, fun h => by subst h; exact .nil⟩
theorem kG {v : AV} {l : List AV} {L : List Value} : RL ρ W (v :: l) L ↔ ∃ V L', L = V :: L' ∧ RV ρ W v V ∧ RL ρ W l L' :=
 ⟨fun h => by cases h with | cons h t => exact ⟨_, _, rfl, h, t⟩, fun ⟨_, _, e, h, t⟩ => by subst e; exact .cons h t⟩
theorem kM {k : IntKind} {n : Int} {V : Value} : RV ρ W (.int k n) V ↔ V = .int k n := ⟨fun h => by cases h; rfl, fun h => by subst h; exact .int _ _⟩
theorem kN {b : Bool} {V : Value} : RV ρ W (.bool b) V ↔ V = .bool b := ⟨fun h => by cases h; rfl, fun h => by subst h; exact .bool _⟩
theorem kZ {s : ByteArray} {V : Value} : RV ρ W (.str s) V ↔ V = .string s := ⟨fun h => by cases h; rfl, fun h => by subst h; exact .str _⟩
theorem kV {l : List AV} {V : Value} : RV ρ W (.agg l) V ↔ ∃ L, V = .agg L.toArray ∧ RL ρ W l L := ⟨fun h => by cases h with | agg h => exact ⟨_, rfl, h⟩, fun ⟨_, e, h⟩ => by subst e; exact .agg h⟩
theorem bK {l : List AV} {V : Value} : RV ρ W (.tup l) V ↔ ∃ L, V = .tuple L.toArray ∧ RL ρ W l L := ⟨fun h => by cases h with | tup h => exact ⟨_, rfl, h⟩, fun ⟨_, e, h⟩ => by subst e; exact .tup h⟩
theorem jP {f : Fn} {V : Value} : RV ρ W (.fn f [] []) V ↔ V = .func f #[] #[] := ⟨fun h => by cases h with | fn f ha hb => cases ha; cases hb; rfl, fun h => by subst h; exact .fn f .nil .nil⟩
theorem jS {b : Bool} {A B : Prop} : brc b A B ↔ (b = true → A) ∧ (b = false → B) := by cases b <;> simp [brc]
theorem bN {α : Type} {c : Prop} [Decidable c] {a b : Option α} {r : α} : (if c then a else b) = some r ↔ (c ∧ a = some r) ∨ (¬ c ∧ b = some r) := by split <;> simp_all
noncomputable def gd {α : Type} [Inhabited α] (o : Option α) : α := o.getD default
theorem kH {α : Type} [Inhabited α] (a : α) : gd (some a) = a := rfl
theorem wrap_i64 (x : Int) : IntKind.i64.wrap x = wrap64 x := by rw [IntKind.wrap_i64]; unfold wrap64; rfl
theorem mixed : Tryz.prog.follows .mixedOrders = true := by kernel_rfl
def tab : List (FuncId × Con) → Tab
 | [], _ => none
 | (g, c) :: r, f => if f = g then some c else tab r f
theorem bE {P : Program} : TabOk P (tab []) := fun _ _ h => by cases h
theorem kD {P : Program} {g : FuncId} {c : Con} {r : List (FuncId × Con)} (h : COk P g c) (t : TabOk P (tab r)) : TabOk P (tab ((g, c) :: r)) := fun f con hq => by
 simp only [tab] at hq
 split at hq
 · rename_i e; subst e; simp at hq; subst hq; exact h
 · exact t f con hq
theorem kK {g : FuncId} {fn : Func} (hf : Tryz.prog.funcs[g]? = some fn) (hb : fn.body.isSome = true) (hn : (fn.name == "runtime.NumGoroutine") = false) {A : List Value} {v : AV} {V : Value} {R : World → World → Prop}
 (h : Calls Tryz.prog g A.toArray w fun e w' => e = .returned V ∧ R w w') (hV : ∀ w', RV noNames w' v V) (hR : ∀ w', R w w' → Below w.heap.size w w') (hfl : v.flat 4 = true := by rfl) : Gives Tryz.prog g A.toArray w fun V w' => (RV noNames w' v V ∧ Below w.heap.size w w') ∧ Fr w.heap.size 4 v V :=
 .inl ⟨zM hf hb hn _ _, h.mono fun e w' he => ⟨V, he.1, ⟨hV w', hR w' he.2⟩, Fr.flat 4 hfl⟩⟩
theorem gives_of_run {g : FuncId} {A : List Value} {v : AV} {V : Value} (h : (callFunc g A.toArray).run Tryz.prog w = .ok (.value V) w) (hV : ∀ w', RV noNames w' v V) (hfl : v.flat 4 = true := by rfl) : Gives Tryz.prog g A.toArray w fun V w' => (RV noNames w' v V ∧ Below w.heap.size w w') ∧ Fr w.heap.size 4 v V :=
 .inr ⟨V, h, ⟨hV w, Below.refl _ _⟩, Fr.flat 4 hfl⟩
theorem bW {T : Tab} (hT : TabOk Tryz.prog T) {n : Nat} {g : FuncId} {args : List AV} {v : AV} {V : Value} {A : List Value} (hq : afv PA Tryz.prog T noLoops n g args fun u => u = v) (hA : RL noNames w args A) (hV : ∀ ρ V', RV ρ w v V' → V' = V) :
 Calls Tryz.prog g A.toArray w fun e w' => e = .returned V ∧ Below w.heap.size w w' := by
 have h1 : afn PA Tryz.prog T noLoops n g args fun u _ => u = v := by rw [afv] at hq; exact hq
 have h2 := afn_ok mixed hT (zI Tryz.prog g) h1 hA
 refine h2.mono fun e w' he => ?_
 obtain ⟨V', e1, ρ', u, h', g2, g3, g4⟩ := he
 subst g4; subst e1
 exact ⟨by rw [hV ρ' V' g2], g3.bel⟩
end Go.Proofs.YtimgphlfaninnaaGreat.A
namespace Go.Proofs.YtimgphlfaninnaaGreat.A
open Go Go.RowKit Go.Proofs
set_option linter.unusedVariables false
set_option maxRecDepth 100000
theorem add64_run (a0 a1 a2 : Int) (w : World) (h0 : 0 ≤ a0) (h1 : 0 ≤ a1) (h2 : 0 ≤ a2) (h3 : a2 ≤ 1) :
 (callFunc 149 #[.int .u64 a0, .int .u64 a1, .int .u64 a2]).run Tryz.prog w = .ok (.value (.tuple #[.int .u64 ((a0 + a1 + a2) % 18446744073709551616), .int .u64 ((a0 + a1 + a2) / 18446744073709551616)])) w := by
 rw [run_callFunc_extern Tryz.func149 (by kernel_rfl) (by kernel_rfl) (by kernel_rfl) (e := add64Entry) (by kernel_rfl), run_add64 a0 a1 a2 h0 h1 h2 h3]
 rfl
def addCon : Con
 | [.int .u64 a, .int .u64 b, .int .u64 c] => some (decide (0 ≤ a) && decide (0 ≤ b) && decide (0 ≤ c) && decide (c ≤ 1), .tup [.int .u64 ((a + b + c) % 18446744073709551616), .int .u64 ((a + b + c) / 18446744073709551616)])
 | _ => none
theorem addCon_ok : COk Tryz.prog 149 addCon := by
 intro args p v hc hp w A hA
 unfold addCon at hc
 split at hc
 · rename_i a b c
   simp only [Option.some.injEq, Prod.mk.injEq] at hc
   obtain ⟨rfl, rfl⟩ := hc
   simp only [Bool.and_eq_true, decide_eq_true_eq] at hp
   obtain ⟨⟨⟨h0, h1⟩, h2⟩, h3⟩ := hp
   obtain rfl : A = [.int .u64 a, .int .u64 b, .int .u64 c] := by simpa [kG, kL, kM] using hA
   exact gives_of_run (add64_run a b c w h0 h1 h2 h3) (fun _ => by simp [kG, kL, kM, bK])
 · cases hc
noncomputable def TK0 : Tab := tab [(149, addCon)]
theorem TK0_ok : TabOk Tryz.prog TK0 := kD addCon_ok bE
def M0 : List (List AV × AV) := [([], .int .i64 (-2453698))]
theorem M0_0 : runC Tryz.prog 450 (runT Tryz.prog 450 TK0 8) 108 [] = some (true, .int .i64 (-2453698)) := by kernel_rfl
theorem M0_ok : COk Tryz.prog 108 (memo M0) := memo_ok mixed (runT_ok mixed 450 TK0_ok 8) (memo_cons M0_0 (memo_nil))
noncomputable def TK1 : Tab := tab [(149, addCon), (108, memo M0)]
theorem TK1_ok : TabOk Tryz.prog TK1 := kD addCon_ok (kD M0_ok (bE))
def M1 : List (List AV × AV) := [([], .int .i64 106754173)]
theorem M1_0 : runC Tryz.prog 450 (runT Tryz.prog 450 TK1 8) 166 [] = some (true, .int .i64 106754173) := by kernel_rfl
theorem M1_ok : COk Tryz.prog 166 (memo M1) := memo_ok mixed (runT_ok mixed 450 TK1_ok 8) (memo_cons M1_0 (memo_nil))
noncomputable def TK2 : Tab := tab [(149, addCon), (108, memo M0), (166, memo M1)]
theorem TK2_ok : TabOk Tryz.prog TK2 := kD addCon_ok (kD M0_ok (kD M1_ok (bE)))
def M2 : List (List AV × AV) := [([(.int .i64 2024)], .int .i64 8766)]
theorem M2_0 : runC Tryz.prog 450 (runT Tryz.prog 450 TK2 8) 167 [(.int .i64 2024)] = some (true, .int .i64 8766) := by kernel_rfl
theorem M2_ok : COk Tryz.prog 167 (memo M2) := memo_ok mixed (runT_ok mixed 450 TK2_ok 8) (memo_cons M2_0 (memo_nil))
noncomputable def TK3 : Tab := tab [(149, addCon), (108, memo M0), (166, memo M1), (167, memo M2)]
theorem TK3_ok : TabOk Tryz.prog TK3 := kD addCon_ok (kD M0_ok (kD M1_ok (kD M2_ok (bE))))
def M3 : List (List AV × AV) := [([(.int .i64 2024), (.int .i64 10), (.int .i64 27), (.int .i64 1800000000)], .agg [.int .i64 0, .int .i64 783304200000000]), ([(.int .i64 2024), (.int .i64 3), (.int .i64 30), (.int .i64 39600000000)], .agg [.int .i64 0, .int .i64 765111600000000]), ([(.int .i64 2024), (.int .i64 3), (.int .i64 1), (.int .i64 0)], .agg [.int .i64 0, .int .i64 762566400000000]), ([(.int .i64 2024), (.int .i64 1), (.int .i64 31), (.int .i64 0)], .agg [.int .i64 0, .int .i64 759974400000000]), ([(.int .i64 2024), (.int .i64 10), (.int .i64 27), (.int .i64 9000000000)], .agg [.int .i64 0, .int .i64 783311400000000]), ([(.int .i64 2024), (.int .i64 3), (.int .i64 31), (.int .i64 36000000000)], .agg [.int .i64 0, .int .i64 765194400000000]), ([(.int .i64 2024), (.int .i64 3), (.int .i64 31), (.int .i64 39600000000)], .agg [.int .i64 0, .int .i64 765198000000000])]
theorem M3_0 : runC Tryz.prog 450 (runT Tryz.prog 450 TK3 8) 41 [(.int .i64 2024), (.int .i64 10), (.int .i64 27), (.int .i64 1800000000)] = some (true, .agg [.int .i64 0, .int .i64 783304200000000]) := by kernel_rfl
theorem M3_1 : runC Tryz.prog 450 (runT Tryz.prog 450 TK3 8) 41 [(.int .i64 2024), (.int .i64 3), (.int .i64 30), (.int .i64 39600000000)] = some (true, .agg [.int .i64 0, .int .i64 765111600000000]) := by kernel_rfl
theorem M3_2 : runC Tryz.prog 450 (runT Tryz.prog 450 TK3 8) 41 [(.int .i64 2024), (.int .i64 3), (.int .i64 1), (.int .i64 0)] = some (true, .agg [.int .i64 0, .int .i64 762566400000000]) := by kernel_rfl
theorem M3_3 : runC Tryz.prog 450 (runT Tryz.prog 450 TK3 8) 41 [(.int .i64 2024), (.int .i64 1), (.int .i64 31), (.int .i64 0)] = some (true, .agg [.int .i64 0, .int .i64 759974400000000]) := by kernel_rfl
theorem M3_4 : runC Tryz.prog 450 (runT Tryz.prog 450 TK3 8) 41 [(.int .i64 2024), (.int .i64 10), (.int .i64 27), (.int .i64 9000000000)] = some (true, .agg [.int .i64 0, .int .i64 783311400000000]) := by kernel_rfl
theorem M3_5 : runC Tryz.prog 450 (runT Tryz.prog 450 TK3 8) 41 [(.int .i64 2024), (.int .i64 3), (.int .i64 31), (.int .i64 36000000000)] = some (true, .agg [.int .i64 0, .int .i64 765194400000000]) := by kernel_rfl
theorem M3_6 : runC Tryz.prog 450 (runT Tryz.prog 450 TK3 8) 41 [(.int .i64 2024), (.int .i64 3), (.int .i64 31), (.int .i64 39600000000)] = some (true, .agg [.int .i64 0, .int .i64 765198000000000]) := by kernel_rfl
theorem M3_ok : COk Tryz.prog 41 (memo M3) := memo_ok mixed (runT_ok mixed 450 TK3_ok 8) (memo_cons M3_0 (memo_cons M3_1 (memo_cons M3_2 (memo_cons M3_3 (memo_cons M3_4 (memo_cons M3_5 (memo_cons M3_6 (memo_nil))))))))
noncomputable def TK4 : Tab := tab [(149, addCon), (108, memo M0), (166, memo M1), (167, memo M2), (41, memo M3)]
theorem TK4_ok : TabOk Tryz.prog TK4 := kD addCon_ok (kD M0_ok (kD M1_ok (kD M2_ok (kD M3_ok (bE)))))
def M4 : List (List AV × AV) := [([(.agg [.int .i64 0, .int .i64 762566400000000]), (.agg [.int .i64 0, .int .i64 759974400000000])], .tup [.agg [.int .i64 0, .int .i64 1, .int .i64 1, .int .i64 0], .int .i64 0])]
theorem M4_0 : runC Tryz.prog 450 (runT Tryz.prog 450 TK4 8) 23 [(.agg [.int .i64 0, .int .i64 762566400000000]), (.agg [.int .i64 0, .int .i64 759974400000000])] = some (true, .tup [.agg [.int .i64 0, .int .i64 1, .int .i64 1, .int .i64 0], .int .i64 0]) := by kernel_rfl
theorem M4_ok : COk Tryz.prog 23 (memo M4) := memo_ok mixed (runT_ok mixed 450 TK4_ok 8) (memo_cons M4_0 (memo_nil))
noncomputable def TK5 : Tab := tab [(149, addCon), (108, memo M0), (166, memo M1), (167, memo M2), (41, memo M3), (23, memo M4)]
theorem TK5_ok : TabOk Tryz.prog TK5 := kD addCon_ok (kD M0_ok (kD M1_ok (kD M2_ok (kD M3_ok (kD M4_ok (bE))))))
theorem known_run : runC Tryz.prog 450 (runT Tryz.prog 450 TK5 8) 16 [] = some (true, .bool true) := by kernel_rfl
end Go.Proofs.YtimgphlfaninnaaGreat.A

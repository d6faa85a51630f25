import Derived.Test.YtimgphlfaninnaaGreatQdfoehbdgao
import Derived.Test.YtimgphlfaninnaaGreatQdodonhnjbp
import Derived.Test.YtimgphlfaninnaaGreatQjnpockodeo
import Derived.Test.YtimgphlfaninnaaGreatQmljkdhalhg
namespace Go.Proofs.YtimgphlfaninnaaGreat.A
open Go Go.RowKit
set_option linter.unusedVariables false
set_option linter.unusedSimpArgs false
def idxOf? (n : Nat) : List Nat → Nat → Option Nat
 | [], _ => none
 | x :: l, j => if x = n then some j else idxOf? n l (j + 1)
def nmv (m : Nat) (κ σ : List Nat) (n : Nat) : Option Nat := if κ.contains n = true then idxOf? n σ m else if n < m then some n else idxOf? n σ m
def AV.mvl (f : AV → Option AV) : List AV → Option (List AV)
 | [] => some []
 | v :: l => match f v, AV.mvl f l with
  | some v, some l => some (v :: l)
  | _, _ => none
def AV.mv (m : Nat) (κ σ : List Nat) : Nat → AV → Option AV
 | _, .gs n s len => (nmv m κ σ n).map fun j => .gs j s len
 | _, .gp n i s j => (nmv m κ σ n).map fun k => .gp k i s j
 | _, .ptr n i s j => (nmv m κ σ n).map fun k => .ptr k i s j
 | _, .sl n i s len => (nmv m κ σ n).map fun k => .sl k i s len
 | _, .mp n => (nmv m κ σ n).map .mp
 | _, .yl n => (nmv m κ σ n).map .yl
 | d + 1, .agg l => (AV.mvl (AV.mv m κ σ d) l).map .agg
 | d + 1, .tup l => (AV.mvl (AV.mv m κ σ d) l).map .tup
 | d + 1, .fn f a b => match AV.mvl (AV.mv m κ σ d) a, AV.mvl (AV.mv m κ σ d) b with
  | some a, some b => some (.fn f a b)
  | _, _ => none
 | d + 1, .ifc t v => (AV.mv m κ σ d v).map (.ifc t)
 | _, .agg _ | _, .tup _ | _, .fn .. | _, .ifc .. => none
 | _, v => some v
def renT (m : Nat) (κ σ : List Nat) : List Bool → List (Option AV) → Option (List (Option AV))
 | [], [] => some []
 | b :: bs, v :: vs =>
  match renT m κ σ bs vs with
  | some r => if b then (match v with
   | some v => (v.mv m κ σ 4).map fun v => some v :: r
   | none => none) else some (none :: r)
  | none => none
 | _, _ => none
def mvE (m : Nat) (κ σ : List Nat) : List (AV × AV) → Option (List (AV × AV))
 | [] => some []
 | (k, v) :: l => match k.mv m κ σ 4, v.mv m κ σ 4, mvE m κ σ l with
  | some k, some v, some l => some ((k, v) :: l)
  | _, _, _ => none
def Ob.mv (m : Nat) (κ σ : List Nat) (cv : Bool) (keep : List Bool) : Ob → Option Ob
 | .cells l => (AV.mvl (AV.mv m κ σ 4) l).map .cells
 | .own z e s l => if (cv && z && Nat.blt 0 s && l.all AV.plain && Nat.beq (l.length / s * s) l.length) = true then some (.vec e s (l.length / s) (rowC s l)) else (AV.mvl (AV.mv m κ σ 4) l).map (.own z e s)
 | .mapo l c => (mvE m κ σ l).map fun l => .mapo l c
 | .loop s p t ps a b => (renT m κ σ keep t).map fun t => .loop s p t ps a b
 | x => some x
def lowH (m : Nat) (κ σ : List Nat) (ks : Nat → List Bool) : Nat → Heap → Option Heap
 | _, [] => some []
 | i, none :: h => (lowH m κ σ ks (i + 1) h).map fun h => none :: h
 | i, some x :: h => match κ.contains i with
  | true => (lowH m κ σ ks (i + 1) h).map fun h => some .dead :: h
  | false => match x.mv m κ σ false (ks i), lowH m κ σ ks (i + 1) h with
   | some x, some h => some (some x :: h)
   | _, _ => none
def renH (m : Nat) (κ σ : List Nat) (h : Heap) : List Nat → Option Heap
 | [] => some []
 | n :: r =>
  match h[n]?, renH m κ σ h r with
  | some (some x), some r => match x.mv m κ σ true [] with
   | some x => some (some x :: r)
   | none => none
  | _, _ => none
structure CS where
 m : Nat
 keep : List Bool
 roots : List Nat := []
 maps : List Nat := []
 ks : Nat → List Bool := fun _ => []
 mv : List Nat := []
def nameOf (m : Nat) : AV → List Nat
 | .gs n _ _ => if n < m then [] else [n]
 | _ => []
def sigT (m : Nat) (t : List (Option AV)) : List Nat → List Nat
 | [] => []
 | r :: l => match (t[r]?).join with
  | some v => nameOf m v ++ sigT m t l
  | none => sigT m t l
def sigE (m : Nat) : List (AV × AV) → List Nat
 | [] => []
 | (_, v) :: l => nameOf m v ++ sigE m l
def sigM (m : Nat) (h : Heap) : List Nat → List Nat
 | [] => []
 | r :: l => match (h[r]?).join with
  | some (.mapo es _) => sigE m es ++ sigM m h l
  | _ => sigM m h l
def aliveV (h : Heap) (n : Nat) : Bool := match (h[n]?).join with
 | some (.vec _ _ _ _) => true
 | _ => false
def kills (c : CS) (st : St) : List Nat := c.mv.filter (aliveV st.h)
def sig (c : CS) (st : St) : List Nat := kills c st ++ (sigT c.m st.t c.roots ++ sigM c.m st.h c.maps)
def noDup : List Nat → Bool
 | [] => true
 | x :: l => !l.contains x && noDup l
def canonS (c : CS) (κ σ : List Nat) (st : St) : Option St :=
 match renT c.m κ σ c.keep st.t, lowH c.m κ σ c.ks 0 (st.h.take c.m), renH c.m κ σ st.h σ with
 | some t, some l, some r => if (Nat.ble c.m st.h.length && st.d.all (fun n => Nat.blt n c.m) && noDup σ && (σ.all fun n => κ.contains n || Nat.ble c.m n) && κ.all (aliveV st.h)) = true then some ⟨t, l ++ r, st.d⟩ else none
 | _, _, _ => none
def canon (c : CS) (st : St) : Option St := canonS c (kills c st) (sig c st) st
section
variable {ρ : Names} {W : World} {m : Nat} {κ σ : List Nat}
def rnm (ρ : Names) (m : Nat) (σ : List Nat) : Names := fun n => if n < m then ρ n else (σ[n - m]?).bind ρ
theorem idxOf_at {n : Nat} : ∀ {σ : List Nat} {j k : Nat}, idxOf? n σ j = some k → ∃ i, k = j + i ∧ σ[i]? = some n
 | [], j, k, e => by simp [idxOf?] at e
 | x :: σ, j, k, e => by
  simp only [idxOf?] at e
  split at e
  · rename_i hx; simp at e; exact ⟨0, by omega, by simp [hx]⟩
  · obtain ⟨i, a, b⟩ := idxOf_at e; exact ⟨i + 1, by omega, by simpa using b⟩
theorem rnm_low {m : Nat} (σ : List Nat) : ∀ k, k < m → rnm ρ m σ k = ρ k := fun k h => by unfold rnm; rw [if_pos h]
theorem nmv_at {n j : Nat} (e : nmv m κ σ n = some j) : rnm ρ m σ j = ρ n := by
 have up : idxOf? n σ m = some j → rnm ρ m σ j = ρ n := fun e => by
  obtain ⟨i, rfl, h⟩ := idxOf_at e
  unfold rnm
  rw [if_neg (by omega), show m + i - m = i by omega, h]; rfl
 unfold nmv at e
 split at e
 · exact up e
 split at e
 · rename_i h; simp at e; subst e; exact rnm_low σ n h
 · exact up e
theorem mvl_ok {d : Nat} (ih : ∀ {v v' : AV} {V : Value}, v.mv m κ σ d = some v' → RV ρ W v V → RV (rnm ρ m σ) W v' V) : ∀ {l l' : List AV} {L : List Value}, AV.mvl (AV.mv m κ σ d) l = some l' → RL ρ W l L → RL (rnm ρ m σ) W l' L
 | _, l', _, e, .nil => by simp [AV.mvl] at e; subst e; exact .nil
 | _, l', _, e, .cons h t => by
  simp only [AV.mvl] at e
  split at e
  · rename_i v l h1 h2
    simp at e; subst e
    exact .cons (ih h1 h) (mvl_ok ih h2 t)
  · cases e
theorem avmv_ok : ∀ (d : Nat) {v v' : AV} {V : Value}, v.mv m κ σ d = some v' → RV ρ W v V → RV (rnm ρ m σ) W v' V := by
 intro d
 have leaf : ∀ {v v' : AV} {V : Value} (d : Nat), v.mv m κ σ d = some v' → RV ρ W v V → (∀ l, v ≠ .agg l) → (∀ l, v ≠ .tup l) → (∀ f a b, v ≠ .fn f a b) → (∀ t u, v ≠ .ifc t u) → RV (rnm ρ m σ) W v' V := by
  intro v v' V d e h h1 h2 h3 h4
  cases h with
  | agg h => exact (h1 _ rfl).elim
  | tup h => exact (h2 _ rfl).elim
  | fn f a b => exact (h3 _ _ _ rfl).elim
  | ifc t h => exact (h4 _ _ rfl).elim
  | ptr i s j h => simp only [AV.mv, Option.map_eq_some_iff] at e; obtain ⟨k, hk, rfl⟩ := e; exact .ptr i s j ((nmv_at hk).trans h)
  | sl i s len cap off h a b => simp only [AV.mv, Option.map_eq_some_iff] at e; obtain ⟨k, hk, rfl⟩ := e; exact .sl i s len cap off ((nmv_at hk).trans h) a b
  | sl0 n i s => simp only [AV.mv, Option.map_eq_some_iff] at e; obtain ⟨k, hk, rfl⟩ := e; exact .sl0 _ _ _
  | gs s len h a => simp only [AV.mv, Option.map_eq_some_iff] at e; obtain ⟨k, hk, rfl⟩ := e; exact .gs s len ((nmv_at hk).trans h) a
  | gp i s j h => simp only [AV.mv, Option.map_eq_some_iff] at e; obtain ⟨k, hk, rfl⟩ := e; exact .gp i s j ((nmv_at hk).trans h)
  | mp h => simp only [AV.mv, Option.map_eq_some_iff] at e; obtain ⟨k, hk, rfl⟩ := e; exact .mp ((nmv_at hk).trans h)
  | yl h => simp only [AV.mv, Option.map_eq_some_iff] at e; obtain ⟨k, hk, rfl⟩ := e; exact .yl ((nmv_at hk).trans h)
  | undef => simp [AV.mv] at e; subst e; exact .undef
  | bool b => simp [AV.mv] at e; subst e; exact .bool b
  | int k n => simp [AV.mv] at e; subst e; exact .int k n
  | str s => simp [AV.mv] at e; subst e; exact .str s
  | anys s => simp [AV.mv] at e; subst e; exact .anys s
  | nilp => simp [AV.mv] at e; subst e; exact .nilp
  | nilsl => simp [AV.mv] at e; subst e; exact .nilsl
  | nilmap => simp [AV.mv] at e; subst e; exact .nilmap
  | nilf => simp [AV.mv] at e; subst e; exact .nilf
  | nili => simp [AV.mv] at e; subst e; exact .nili
  | cp j hb hl' hc => simp [AV.mv] at e; subst e; exact .cp j hb hl' hc
  | csl s len cap c V hb hl' hc hr => simp [AV.mv] at e; subst e; exact .csl s len cap c V hb hl' hc hr
  | csl0 s c => simp [AV.mv] at e; subst e; exact .csl0 s c
  | nv s len cap c V hb hl' hc hr hf => simp [AV.mv] at e; subst e; exact .nv s len cap c V hb hl' hc hr hf
  | nv0 s c => simp [AV.mv] at e; subst e; exact .nv0 s c
  | nu e' s len hb hc hl' hW hs hlen h => simp [AV.mv] at e; subst e; exact .nu e' s len hb hc hl' hW hs hlen h
 induction d with
 | zero =>
  intro v v' V e h
  refine leaf 0 e h (fun l q => ?_) (fun l q => ?_) (fun f a b q => ?_) (fun t u q => ?_) <;> (subst q; simp [AV.mv] at e)
 | succ d ih =>
  intro v v' V e h
  cases v
  case agg l =>
   cases h with | agg h =>
   simp only [AV.mv, Option.map_eq_some_iff] at e
   obtain ⟨l', g, rfl⟩ := e
   exact .agg (mvl_ok ih g h)
  case tup l =>
   cases h with | tup h =>
   simp only [AV.mv, Option.map_eq_some_iff] at e
   obtain ⟨l', g, rfl⟩ := e
   exact .tup (mvl_ok ih g h)
  case fn f a b =>
   cases h with | fn f ha hb =>
   simp only [AV.mv] at e
   split at e
   · rename_i a' b' g1 g2
     simp at e; subst e
     exact .fn f (mvl_ok ih g1 ha) (mvl_ok ih g2 hb)
   · cases e
  case ifc t u =>
   cases h with | ifc t h =>
   simp only [AV.mv, Option.map_eq_some_iff] at e
   obtain ⟨u', g, rfl⟩ := e
   exact .ifc t (ih g h)
  all_goals exact leaf (d + 1) e h (fun _ q => by cases q) (fun _ q => by cases q) (fun _ _ _ q => by cases q) (fun _ _ q => by cases q)
theorem mvE_ok : ∀ {l l' : List (AV × AV)} {L : List MapEntry}, mvE m κ σ l = some l' → RE ρ W l L → RE (rnm ρ m σ) W l' L
 | _, _, _, e, .nil => by simp [mvE] at e; subst e; exact .nil
 | _, _, _, e, .cons hk hv t => by
  simp only [mvE] at e
  split at e
  · rename_i k v l h1 h2 h3
    simp at e; subst e
    exact .cons (avmv_ok 4 h1 hk) (avmv_ok 4 h2 hv) (mvE_ok h3 t)
  · cases e
theorem renT_at : ∀ {bs : List Bool} {vs r : List (Option AV)}, renT m κ σ bs vs = some r → r.length = vs.length ∧ ∀ (i : Nat) (v' : AV), r[i]? = some (some v') → ∃ v : AV, vs[i]? = some (some v) ∧ v.mv m κ σ 4 = some v'
 | [], [], r, e => by simp [renT] at e; subst e; simp
 | [], _ :: _, r, e => by simp [renT] at e
 | _ :: _, [], r, e => by simp [renT] at e
 | b :: bs, v :: vs, r, e => by
  simp only [renT] at e
  split at e
  case h_2 => cases e
  rename_i r' hr
  obtain ⟨g1, g2⟩ := renT_at hr
  split at e
  · split at e
    case h_2 => cases e
    rename_i v0
    simp only [Option.map_eq_some_iff] at e
    obtain ⟨v1, h1, rfl⟩ := e
    refine ⟨by simp [g1], fun i v' hi => ?_⟩
    cases i with
    | zero => simp at hi; subst hi; exact ⟨v0, rfl, h1⟩
    | succ i => obtain ⟨v2, a, b⟩ := g2 i v' (by simpa using hi); exact ⟨v2, by simpa using a, b⟩
  · simp at e; subst e
    refine ⟨by simp [g1], fun i v' hi => ?_⟩
    cases i with
    | zero => simp at hi
    | succ i => obtain ⟨v2, a, b⟩ := g2 i v' (by simpa using hi); exact ⟨v2, by simpa using a, b⟩
theorem renT_ok {bs : List Bool} {vs r : List (Option AV)} {a : Array Value} (e : renT m κ σ bs vs = some r) (h : TR ρ W vs a) : TR (rnm ρ m σ) W r a := by
 obtain ⟨g1, g2⟩ := renT_at e
 refine ⟨by rw [g1]; exact h.len, fun i v hi => ?_⟩
 obtain ⟨v0, a1, a2⟩ := g2 i v hi
 obtain ⟨V, b1, b2⟩ := h.get i v0 a1
 exact ⟨V, b1, avmv_ok 4 a2 b2⟩
theorem mvl_len {f : AV → Option AV} : ∀ {l l' : List AV}, AV.mvl f l = some l' → l'.length = l.length
 | [], l', e => by simp [AV.mvl] at e; subst e; rfl
 | v :: l, l', e => by
  simp only [AV.mvl] at e
  split at e
  · rename_i v' l2 h1 h2; simp at e; subst e; simp [mvl_len h2]
  · cases e
theorem Ob.mv_ok {cv : Bool} {keep : List Bool} {x x' : Ob} {w : World} {b o : Nat} (e : x.mv m κ σ cv keep = some x') (h : Holds ρ W w b o x) : Holds (rnm ρ m σ) W w b o x' := by
 cases x with
 | cells l =>
  simp only [Ob.mv, Option.map_eq_some_iff] at e
  obtain ⟨l', g, rfl⟩ := e
  obtain ⟨h1, h2, L, t, h3, h4⟩ := h
  exact ⟨h1, h2, L, t, h3, mvl_ok (avmv_ok 4) g h4⟩
 | own z ty s l =>
  simp only [Ob.mv] at e
  split at e
  · rename_i hc
    simp only [Bool.and_eq_true] at hc
    obtain ⟨⟨⟨⟨_, hz⟩, hs⟩, hp⟩, hl⟩ := hc
    have hs : 0 < s := Nat.le_of_ble_eq_true hs
    have hl := Nat.eq_of_beq_eq_true hl
    simp only [Option.some.injEq] at e; subst e
    obtain ⟨h1, h2, L, fz, h3, h4, h5, h6, h7, h8⟩ := h
    have hfz := h5 hz
    subst hfz
    have hle : l.length / s ≤ o := by
     have : l.length / s * s ≤ o * s := by omega
     exact Nat.le_of_mul_le_mul_right this hs
    refine ⟨h1, h2, L, h3, h4, hle, fun i j hi hj => ?_⟩
    have hlt := row_lt hi hj
    have hlt2 : i * s + j < l.length := by omega
    have e := List.getElem?_eq_getElem hlt2
    obtain ⟨V, g1, g2⟩ := h8.get _ _ e
    have hpp := List.all_eq_true.1 hp _ (List.getElem_mem hlt2)
    have ed : rowC s l i j = l[i * s + j] := by rw [rowC_at hl.symm hi hj]; unfold listC; simp only [List.getD, e, Option.getD_some]
    rw [List.getElem?_take, if_pos hlt2] at g1
    exact ⟨V, g1, by rw [ed]; exact plain_move g2 hpp, by rw [ed]; exact hpp⟩
  · simp only [Option.map_eq_some_iff] at e
    obtain ⟨l', g, rfl⟩ := e
    obtain ⟨h1, h2, L, fz, h3, h4, h5, h6, h7, h8⟩ := h
    have hlen := mvl_len g
    exact ⟨h1, h2, L, fz, h3, h4, h5, h6, by rw [hlen]; exact h7, by rw [hlen]; exact mvl_ok (avmv_ok 4) g h8⟩
 | mapo l c =>
  simp only [Ob.mv, Option.map_eq_some_iff] at e
  obtain ⟨l', g, rfl⟩ := e
  obtain ⟨h1, L, h3, h4⟩ := h
  exact ⟨h1, L, h3, mvE_ok g h4⟩
 | loop s p t ps a b =>
  simp only [Ob.mv, Option.map_eq_some_iff] at e
  obtain ⟨t', g, rfl⟩ := e
  obtain ⟨h1, r, h3, h4, h5, h6, h7, h8, h9⟩ := h
  exact ⟨h1, r, h3, h4, h5, h6, h7, h8, renT_ok g h9⟩
 | vec => simp only [Ob.mv, Option.some.injEq] at e; subst e; exact h
 | row => simp only [Ob.mv, Option.some.injEq] at e; subst e; exact h
 | siter => simp only [Ob.mv, Option.some.injEq] at e; subst e; exact h
 | dfr => simp only [Ob.mv, Option.some.injEq] at e; subst e; exact h
 | dead => simp only [Ob.mv, Option.some.injEq] at e; subst e; exact h
theorem Ob.mv_like {cv : Bool} {keep : List Bool} {x x' : Ob} (e : x.mv m κ σ cv keep = some x') : x'.void = x.void ∧ x'.excl = x.excl ∧ (x' = .dead ↔ x = .dead) := by
 cases x <;> simp only [Ob.mv] at e
 case own =>
  split at e
  · simp at e; subst e; simp [Ob.void, Ob.excl]
  · simp only [Option.map_eq_some_iff] at e; obtain ⟨_, _, rfl⟩ := e; simp [Ob.void, Ob.excl]
 all_goals first
  | (simp only [Option.map_eq_some_iff] at e; obtain ⟨_, _, rfl⟩ := e; simp [Ob.void, Ob.excl]; done)
  | (simp only [Option.some.injEq] at e; subst e; simp)
theorem lowH_at {ks : Nat → List Bool} : ∀ {h h' : Heap} {i : Nat}, lowH m κ σ ks i h = some h' → h'.length = h.length ∧ ∀ n, (h[n]? = some none ↔ h'[n]? = some none) ∧ ∀ (x' : Ob), h'[n]? = some (some x') → ∃ x : Ob, h[n]? = some (some x) ∧ ((κ.contains (i + n) = true ∧ x' = .dead) ∨ (κ.contains (i + n) = false ∧ x.mv m κ σ false (ks (i + n)) = some x'))
 | [], h', i, e => by simp [lowH] at e; subst e; simp
 | none :: h, h', i, e => by
  simp only [lowH, Option.map_eq_some_iff] at e
  obtain ⟨r, hr, rfl⟩ := e
  obtain ⟨g1, g2⟩ := lowH_at hr
  refine ⟨by simp [g1], fun n => ?_⟩
  cases n with
  | zero => simp
  | succ n =>
   have := g2 n
   rw [show i + (n + 1) = i + 1 + n by omega]
   simpa using this
 | some x :: h, h', i, e => by
  simp only [lowH] at e
  cases hk : κ.contains i with
  | true =>
   rw [hk] at e
   simp only [Option.map_eq_some_iff] at e
   obtain ⟨r, hr, rfl⟩ := e
   obtain ⟨g1, g2⟩ := lowH_at hr
   refine ⟨by simp [g1], fun n => ?_⟩
   cases n with
   | zero =>
    refine ⟨by simp, fun x' hx' => ⟨x, rfl, .inl ⟨by simpa using hk, by simpa using hx'.symm⟩⟩⟩
   | succ n =>
    have := g2 n
    rw [show i + (n + 1) = i + 1 + n by omega]
    simpa using this
  | false =>
   rw [hk] at e
   simp only at e
   split at e
   case h_2 => cases e
   rename_i x2 r hx hr
   simp at e; subst e
   obtain ⟨g1, g2⟩ := lowH_at hr
   refine ⟨by simp [g1], fun n => ?_⟩
   cases n with
   | zero =>
    refine ⟨by simp, fun x' hx' => ⟨x, rfl, .inr ⟨by simpa using hk, ?_⟩⟩⟩
    have e2 : x2 = x' := by simpa using hx'
    rw [← e2]; exact hx
   | succ n =>
    have := g2 n
    rw [show i + (n + 1) = i + 1 + n by omega]
    simpa using this
theorem renH_at {h : Heap} : ∀ {τ : List Nat} {r : Heap}, renH m κ σ h τ = some r → r.length = τ.length ∧ ∀ (j : Nat) (x' : Option Ob), r[j]? = some x' → ∃ n y y', τ[j]? = some n ∧ x' = some y' ∧ h[n]? = some (some y) ∧ y.mv m κ σ true [] = some y'
 | [], r, e => by simp [renH] at e; subst e; simp
 | n :: τ, r, e => by
  simp only [renH] at e
  split at e
  case h_2 => cases e
  rename_i y r' h1 h2
  split at e
  case h_2 => cases e
  rename_i y' hy
  simp at e; subst e
  obtain ⟨g1, g2⟩ := renH_at h2
  refine ⟨by simp [g1], fun j x hj => ?_⟩
  cases j with
  | zero => simp at hj; subst hj; exact ⟨n, y, y', rfl, rfl, h1, hy⟩
  | succ j => obtain ⟨n', y, y', a, b, c, d⟩ := g2 j x (by simpa using hj); exact ⟨n', y, y', by simpa using a, b, c, d⟩
theorem rd_low : ∀ {l : List Nat} {L : List Deferred}, (∀ n ∈ l, n < m) → RD ρ l L → RD (rnm ρ m σ) l L
 | _, _, _, .nil => .nil
 | _, _, h, .cons k t => .cons ((rnm_low σ _ (h _ (by simp))).trans k) (rd_low (fun n hn => h n (by simp [hn])) t)
theorem noDup_ok : ∀ {l : List Nat}, noDup l = true → l.Nodup
 | [], _ => .nil
 | x :: l, h => by
  simp only [noDup, Bool.and_eq_true, Bool.not_eq_true', List.contains_eq_mem, decide_eq_false_iff_not] at h
  exact List.nodup_cons.2 ⟨h.1, noDup_ok h.2⟩
theorem aliveV_ok {h : Heap} {n : Nat} (e : aliveV h n = true) : ∃ ty s len c, h[n]? = some (some (.vec ty s len c)) := by
 unfold aliveV at e
 split at e
 · rename_i ty s len c hq
   refine ⟨ty, s, len, c, ?_⟩
   cases hx : h[n]? with
   | none => rw [hx] at hq; cases hq
   | some o => rw [hx] at hq; simp only [Option.join_some] at hq; rw [hq]
 · cases e
theorem canonS_ok {c : CS} {st st2 : St} {a : Act} {w : World} (e : canonS c κ σ st = some st2) (h : RelS ρ W st a w) : RelS (rnm ρ c.m σ) W st2 a w := by
 unfold canonS at e
 split at e
 case h_2 => cases e
 rename_i t l r ht hl hr
 split at e
 case isFalse => cases e
 rename_i hc
 simp only [Bool.and_eq_true, List.all_eq_true, Bool.or_eq_true] at hc
 obtain ⟨⟨⟨⟨c1, c2⟩, c3⟩, c4⟩, c6⟩ := hc
 have c1 := Nat.le_of_ble_eq_true c1
 have c4 : ∀ n ∈ σ, κ.contains n = true ∨ c.m ≤ n := fun n hn => (c4 n hn).imp id Nat.le_of_ble_eq_true
 have c5 := noDup_ok c3
 have ka : ∀ n, κ.contains n = true → ∃ ty s len c, st.h[n]? = some (some (.vec ty s len c)) := fun n hn => aliveV_ok (c6 n (by simpa using hn))
 simp only [Option.some.injEq] at e; subst e
 obtain ⟨l1, l2⟩ := lowH_at hl
 obtain ⟨r1, r2⟩ := renH_at hr
 have htl : l.length = c.m := by rw [l1]; simp; omega
 have at_ : ∀ (n : Nat) (x' : Ob), (l ++ r)[n]? = some (some x') → (x' = .dead ∧ n < c.m ∧ κ.contains n = true) ∨ ∃ (q : Nat) (x : Ob) (cv : Bool) (kp : List Bool), (if n < c.m then q = n ∧ κ.contains n = false else σ[n - c.m]? = some q) ∧ st.h[q]? = some (some x) ∧ x.mv c.m κ σ cv kp = some x' := fun n x' hx => by
  by_cases hn : n < c.m
  · rw [List.getElem?_append_left (by omega)] at hx
    obtain ⟨x, g1, g2⟩ := (l2 n).2 x' hx
    rw [List.getElem?_take, if_pos hn] at g1
    rw [Nat.zero_add] at g2
    rcases g2 with ⟨g2, g3⟩ | ⟨g2, g3⟩
    · exact .inl ⟨g3, hn, g2⟩
    · exact .inr ⟨n, x, _, _, by rw [if_pos hn]; exact ⟨rfl, g2⟩, g1, g3⟩
  · rw [List.getElem?_append_right (by omega), htl] at hx
    obtain ⟨q, y, y', g1, g2, g3, g4⟩ := r2 _ _ hx
    simp at g2; subst g2
    exact .inr ⟨q, y, _, _, by rw [if_neg hn]; exact g1, g3, g4⟩
 have nm : ∀ n q, (if n < c.m then q = n ∧ κ.contains n = false else σ[n - c.m]? = some q) → rnm ρ c.m σ n = ρ q := fun n q hq => by
  by_cases hn : n < c.m
  · rw [if_pos hn] at hq; rw [hq.1]; exact rnm_low σ _ hn
  · rw [if_neg hn] at hq; unfold rnm; rw [if_neg hn, hq]; rfl
 refine ⟨renT_ok ht h.t, ⟨h.h.bel, fun n p hp => ?_, fun n x' hx => ?_, fun n x' b o hx he hp k p y' hk hpb hy hyd => ?_⟩, rd_low (fun n hn => by have := c2 n hn; unfold Nat.blt at this; have := Nat.le_of_ble_eq_true this; omega) h.d⟩
 · by_cases hn : n < c.m
   · rw [rnm_low σ n hn] at hp
     obtain ⟨⟨x, g1⟩, g2⟩ := h.h.dom n p hp
     refine ⟨?_, g2⟩
     show ∃ x, (l ++ r)[n]? = some (some x)
     rw [List.getElem?_append_left (by omega)]
     have hlt : n < l.length := by omega
     rcases hq : l[n] with _ | x'
     · exfalso
       have hnone : l[n]? = some none := by rw [List.getElem?_eq_getElem hlt, hq]
       have := (l2 n).1.2 hnone
       rw [List.getElem?_take, if_pos hn, g1] at this
       cases this
     · exact ⟨x', by rw [List.getElem?_eq_getElem hlt, hq]⟩
   · unfold rnm at hp
     rw [if_neg hn] at hp
     simp only [Option.bind_eq_some_iff] at hp
     obtain ⟨q, hq, hp⟩ := hp
     refine ⟨?_, (h.h.dom q p hp).2⟩
     show ∃ x, (l ++ r)[n]? = some (some x)
     rw [List.getElem?_append_right (by omega), htl]
     have hl2 : n - c.m < r.length := by rw [r1]; exact (List.getElem?_eq_some_iff.1 hq).1
     obtain ⟨_, y, y', _, e2, _⟩ := r2 (n - c.m) _ (List.getElem?_eq_getElem hl2)
     exact ⟨y', by rw [List.getElem?_eq_getElem hl2, e2]⟩
 · rcases at_ n x' hx with ⟨rfl, g0, g1⟩ | ⟨q, x, cv, kp, g1, g2, g3⟩
   · obtain ⟨ty, s, len, cc, g2⟩ := ka n g1
     obtain ⟨b, o, g4, _⟩ := h.h.ob n _ g2
     exact .inr ⟨b, o, (rnm_low σ n g0).trans g4, trivial⟩
   have hlk := Ob.mv_like g3
   rcases h.h.obs q x g2 with hv | ⟨b, o, g4, g5⟩
   · exact .inl (by rw [hlk.1]; exact hv)
   · exact .inr ⟨b, o, (nm n q g1).trans g4, Ob.mv_ok g3 g5⟩
 · rcases at_ n x' hx with ⟨rfl, _, _⟩ | ⟨q1, x, cv, kp, g1, g2, g3⟩
   · cases he
   rcases at_ k y' hy with ⟨rfl, _, _⟩ | ⟨q2, y, cv2, kp2, g4, g5, g6⟩
   · exact (hyd rfl).elim
   have hlk := Ob.mv_like g3
   have hlk2 := Ob.mv_like g6
   have := h.h.sep q1 x b o g2 (by rw [← hlk.2.1]; exact he) ((nm n q1 g1).symm.trans hp) q2 p y ((nm k q2 g4).symm.trans hk) hpb g5 (fun e => hyd (hlk2.2.2.2 e))
   subst this
   by_cases h1 : n < c.m <;> by_cases h2 : k < c.m
   · rw [if_pos h1] at g1; rw [if_pos h2] at g4; omega
   · rw [if_pos h1] at g1; rw [if_neg h2] at g4
     rcases c4 _ (List.mem_of_getElem? g4) with q | q
     · rw [g1.1, g1.2] at q; cases q
     · omega
   · rw [if_neg h1] at g1; rw [if_pos h2] at g4
     rcases c4 _ (List.mem_of_getElem? g1) with q | q
     · rw [g4.1, g4.2] at q; cases q
     · omega
   · rw [if_neg h1] at g1; rw [if_neg h2] at g4
     obtain ⟨a1, a2⟩ := List.getElem?_eq_some_iff.1 g1
     obtain ⟨a3, a4⟩ := List.getElem?_eq_some_iff.1 g4
     have := (List.getElem_inj (h₀ := a3) (h₁ := a1) c5).1 (a4.trans a2.symm)
     omega
end
theorem loop_ok3 {P : Program} {T : Tab} (hm : P.follows .mixedOrders = true) (hT : TabOk P T) {LT : LTab Prop} {lp : Code → St → (Ex → St → Prop) → Prop} (hr : ∀ r, LoopsOk P r lp) {inl : Inl Prop} (hI : InlOk P inl) {rf : Rf Prop} (hrf : ∀ r, RfOk P r rf) {b : Code} (hL : ∀ c ∈ Code.loops b, ∀ lc, LT (Code.first c) = some lc → LcOk P c lc)
 {ι : Type} {H : ι → St} {μ : ι → Nat} {G : ι → (Ex → St → Prop) → Prop} {c cX : CS} (hcX : cX.m = c.m) {Q : Ex → St → Prop}
 (hround : ∀ x, G x Q → codeA PA P T LT lp inl rf b (H x) fun e st' => match e with | .normal => ∃ y, μ y < μ x ∧ G y Q ∧ canon c st' = some (H y) | e => ∃ st2, canon cX st' = some st2 ∧ Q e st2) :
 ∀ x, G x Q → ∀ st, canon c st = some (H x) → st.h.length = c.m → ∀ (ρ : Names) (W w : World) (a : Act), RelS ρ W st a w → ∀ (r : Option Nat) (dp : Nat), (Code.loop b).wpIn (FR r) dp P (Post ρ W Q) a w := by
 intro x hG st hc hlen ρ0 W w a hs r dp bf k cs hro hb hroom
 have small : ∀ q p, ρ0 q = some p → q < c.m := fun q p hq => by
  obtain ⟨⟨x, hx⟩, _⟩ := hs.h.dom q p hq
  have := (List.getElem?_eq_some_iff.1 hx).1
  omega
 have low : ∀ {ρ' : Names} {σ : List Nat}, Ext ρ0 ρ' → Ext ρ0 (rnm ρ' c.m σ) := fun hx q p hq => by rw [rnm_low _ q (small q p hq)]; exact hx _ _ hq
 have key : ∀ n x, μ x = n → G x Q → ∀ (ρ : Names) (w : World) (a : Act), Ext ρ0 ρ → RelS ρ W (H x) a w → ∃ e a' w', Post ρ0 W Q e a' w' ∧ ArrivesIn (Machine.fenced P (FR r)) P (lone (bf.atR a (.code b :: .inLoop b :: k)) cs w) bf k cs e a' w' := by
  intro n
  induction n using Nat.strongRecOn with
  | _ n ih =>
   intro x hn hG ρ w a hx hs
   obtain ⟨e, a1, w1, hp, harr⟩ := codeA_ok hm hT (hr r) hI (hrf r) b hL _ _ ρ W w a (hround x hG) hs dp bf (.inLoop b :: k) cs hro trivial (roomFR r _)
   obtain ⟨e', st', ρ', g1, g2, g3, g4⟩ := hp
   cases e' with
   | normal =>
    cases e <;> try exact g1.elim
    obtain ⟨y, q1, q2, q3⟩ := g4
    obtain ⟨e2, a2, w2, hp2, harr2⟩ := ih (μ y) (by omega) y rfl q2 (rnm ρ' c.m (sig c st')) w1 a1 (low (hx.trans g2)) (canonS_ok q3 g3)
    exact ⟨e2, a2, w2, hp2, .of_steps (StepsIn.trans harr (.one (fencedFR P r _) stepR_inLoop)) harr2⟩
   | exit i =>
    cases e <;> try exact g1.elim
    obtain ⟨st2, q3, q4⟩ := g4
    exact ⟨_, a1, w1, ⟨.exit i, st2, _, g1, hcX ▸ low (hx.trans g2), canonS_ok q3 g3, q4⟩, .pass (x := .inLoop b) rfl (fun _ _ => .inl (by simp)) harr⟩
   | ret =>
    cases e <;> try exact g1.elim
    obtain ⟨st2, q3, q4⟩ := g4
    exact ⟨_, a1, w1, ⟨.ret, st2, _, g1, hcX ▸ low (hx.trans g2), canonS_ok q3 g3, q4⟩, .pass (x := .inLoop b) rfl (fun _ _ => .inl (by simp)) harr⟩
 obtain ⟨e, a', w', h1, h2⟩ := key _ x rfl hG (rnm ρ0 c.m (sig c st)) w a (low (Ext.refl ρ0)) (canonS_ok hc hs)
 exact ⟨e, a', w', h1, .of_steps (.one (fencedFR P r _) stepR_loop) h2⟩
noncomputable def aroundN {α : Type} (A : Alg α) (P : Program) (T : Tab) (LT : LTab α) (n : Nat) (b : Code) (st : St) (R : St → α) (Q : Ex → St → α) : α :=
 codeA A P T LT (alp A P T (noRf A) n) (ainl A P T n) (noRf A) b st fun e st' => match e with
  | .normal => R st'
  | e => Q e st'
def isH (o : Option St) (s : St) : Prop := o = some s
theorem isH_rfl (s : St) : isH (some s) s := rfl
noncomputable def lcOf {ι : Type} (c : CS) (H : ι → St) (G : ι → (Ex → St → Prop) → Prop) (x : ι) : St → (Ex → St → Prop) → Prop := fun st Q => brc (Nat.beq st.h.length c.m) (isH (canon c st) (H x) ∧ G x Q) False
def again {ι : Type} (H : ι → St) (μ : ι → Nat) (G : ι → (Ex → St → Prop) → Prop) (x : ι) (Q : Ex → St → Prop) (o : Option St) : Prop := ∃ y, μ y < μ x ∧ G y Q ∧ o = some (H y)
def left (Q : Ex → St → Prop) (e : Ex) (o : Option St) : Prop := ∃ st2, o = some st2 ∧ Q e st2
theorem lc_ok {P : Program} {T : Tab} (hm : P.follows .mixedOrders = true) (hT : TabOk P T) {LT : LTab Prop} {n : Nat} {b : Code} (hL : ∀ c ∈ Code.loops b, ∀ lc, LT (Code.first c) = some lc → LcOk P c lc) {ι : Type} {H : ι → St} {μ : ι → Nat} {G : ι → (Ex → St → Prop) → Prop} {c cX : CS} (hcX : cX.m = c.m)
 (hround : ∀ x Q, G x Q → aroundN PA P T LT n b (H x) (fun st' => again H μ G x Q (canon c st')) fun e st' => left Q e (canon cX st')) (x : ι) : LcOk P b (lcOf c H G x) := by
 intro st Q ρ W w a hlc hs r dp
 obtain ⟨h1, h2, h3⟩ := brc_false.1 hlc
 obtain ⟨l1, l2, l3⟩ := all_ok (P := P) (T := T) hm hT n
 refine loop_ok3 hm hT (LT := LT) (fun r => l1 r _ (noRf_ok P r)) l2 (fun r => noRf_ok P r) hL (H := H) (μ := μ) (G := G) hcX (Q := Q) (fun y hy => ?_) x h3 st h2 (Nat.eq_of_beq_eq_true h1) ρ W w a hs r dp
 have h := hround y Q hy
 unfold aroundN at h
 exact h
theorem noLoops_in {P : Program} {b : Code} (hL : Code.loops b = []) {LT : LTab Prop} : ∀ c ∈ Code.loops b, ∀ lc, LT (Code.first c) = some lc → LcOk P c lc := by rw [hL]; intro c hc; cases hc
def loopsOf (P : Program) (g : FuncId) : List Code := (((P.funcs[g]?).bind (·.body)).map Code.loops).getD []
theorem lt_all {P : Program} {g : FuncId} {LT : LTab Prop} (h : ∀ b ∈ loopsOf P g, ∀ lc, LT (Code.first b) = some lc → LcOk P b lc) : LtOk P g LT := fun fn c hf hb b hbm lc hlc => by
 refine h b ?_ lc hlc
 unfold loopsOf
 rw [hf]
 show b ∈ (((fn.body).map Code.loops).getD [])
 rw [hb]
 exact hbm
theorem lt_of {P : Program} {g : FuncId} {k : Nat} {lc : St → (Ex → St → Prop) → Prop} (h2 : loopsOf P g = [loopOf P g 0]) (h : LcOk P (loopOf P g 0) lc) : LtOk P g fun j => if j = k then some lc else none := lt_all fun b hb lc' hlc => by
 rw [h2] at hb
 simp only [List.mem_singleton] at hb
 subst hb
 split at hlc
 · simp at hlc; subst hlc; exact h
 · cases hlc
theorem lt_two {P : Program} {g : FuncId} {k1 k2 : Nat} {lc1 lc2 : St → (Ex → St → Prop) → Prop} (h2 : loopsOf P g = [loopOf P g 0, loopOf P g 1]) (f1 : Code.first (loopOf P g 0) = k1) (f2 : Code.first (loopOf P g 1) = k2) (hk : k1 ≠ k2) (h1 : LcOk P (loopOf P g 0) lc1) (h3 : LcOk P (loopOf P g 1) lc2) : LtOk P g fun j => if j = k1 then some lc1 else if j = k2 then some lc2 else none := lt_all fun b hb lc' hlc => by
 rw [h2] at hb
 simp only [List.mem_cons, List.not_mem_nil, or_false] at hb
 rcases hb with rfl | rfl
 · rw [f1, if_pos rfl] at hlc
   simp at hlc; subst hlc; exact h1
 · rw [f2, if_neg (Ne.symm hk), if_pos rfl] at hlc
   simp at hlc; subst hlc; exact h3
theorem lg_ok {P : Program} {g : FuncId} {LT : LTab Prop} (h : LtOk P g LT) (f : FuncId) : LtOk P f (if f = g then LT else fun _ => none) := by
 split
 · rename_i e; subst e; exact h
 · exact lt_all fun b hb lc hlc => by cases hlc
section
variable {α : Type}
noncomputable def acallL (A : Alg α) (P : Program) (T : Tab) (LG : FuncId → LTab α) : Nat → FuncId → List AV → Heap → (AV → Heap → α) → α
 | 0 => fun _ _ _ _ => A.no
 | n + 1 => fun g args h K =>
  match P.funcs[g]? with
  | some fn => if fn.name == "runtime.NumGoroutine" then A.no else bodyA A P T (LG g) (alp A P T (rangeA A (acallL A P T LG n)) n) (ainl A P T n) (rangeA A (acallL A P T LG n)) fn args h K
  | none => A.no
noncomputable def afnL (A : Alg α) (P : Program) (T : Tab) (LG : FuncId → LTab α) (n : Nat) (f : FuncId) (args : List AV) (K : AV → Heap → α) : α :=
 match P.funcs[f]? with
 | some fn => bodyA A P T (LG f) (alp A P T (rangeA A (acallL A P T LG n)) n) (ainl A P T n) (rangeA A (acallL A P T LG n)) fn args [] K
 | none => A.no
end
theorem acallL_ok {P : Program} {T : Tab} (hm : P.follows .mixedOrders = true) (hT : TabOk P T) {LG : FuncId → LTab Prop} (hL : ∀ g, LtOk P g (LG g)) : ∀ n, CallOk P (acallL PA P T LG n)
 | 0 => fun _ _ _ _ h => zA h
 | n + 1 => by
  obtain ⟨h1, h2, _⟩ := all_ok (P := P) (T := T) hm hT n
  have h3 := acallL_ok hm hT hL n
  intro g args h K hq ρ W w A hR hA
  simp only [acallL] at hq
  split at hq
  case h_2 => exact zA hq
  rename_i fn hf
  split at hq
  case isTrue => exact zA hq
  rename_i hn
  have hrf := range_ok (P := P) h3
  exact ⟨fun w' => zM hf (bodyA_some hq) (by simpa using hn) _ _, body_ok hf (fun c hc => codeA_ok hm hT (h1 none _ hrf) h2 hrf c (hL g fn c hf hc)) hA hR hq⟩
theorem afnL_ok {P : Program} {T : Tab} (hm : P.follows .mixedOrders = true) (hT : TabOk P T) {n : Nat} {g : FuncId} {LG : FuncId → LTab Prop} (hL : ∀ g, LtOk P g (LG g)) {args : List AV} {K : AV → Heap → Prop} (hq : afnL PA P T LG n g args K) {A : List Value} {w : World} (hA : RL noNames w args A) :
 Calls P g A.toArray w fun e w' => ∃ V, e = .returned V ∧ ∃ ρ' v h', RV ρ' w v V ∧ Rel ρ' w h' w' ∧ K v h' := by
 unfold afnL at hq
 split at hq
 case h_2 => exact zA hq
 rename_i fn hf
 obtain ⟨h1, h2, h3⟩ := all_ok (P := P) (T := T) hm hT n
 have hrf := range_ok (P := P) (acallL_ok hm hT hL n)
 refine (body_ok hf (fun c hc => codeA_ok hm hT (h1 none _ hrf) h2 hrf c (hL g fn c hf hc)) hA (Rel.start w) hq).mono fun e w' he => ?_
 obtain ⟨V, g1, ρ', v, h', g2, g3, g4, g5⟩ := he
 exact ⟨V, g1, ρ', v, h', g3, g4, g5⟩
theorem givesF_ok {P : Program} {T : Tab} {w : World} (hm : P.follows .mixedOrders = true) (hT : TabOk P T) {g : FuncId} (hn : (P.funcs[g]?).any (fun fn => !(fn.name == "runtime.NumGoroutine")) = true) {LG : FuncId → LTab Prop} (hL : ∀ g, LtOk P g (LG g)) {args : List AV} {v : AV} {n : Nat}
 (hq : afnL PA P T LG n g args fun u h => nuK h u (Res v)) {A : List Value} (hA : RL noNames w args A) : Gives P g A.toArray w fun V w' => (RV noNames w' v V ∧ Below w.heap.size w w') ∧ Fr w.heap.size 4 v V := by
 cases hf : P.funcs[g]? with
 | none => simp [hf] at hn
 | some fn =>
  simp [hf] at hn
  have hb : fn.body.isSome = true := by
   unfold afnL at hq
   simp only [hf] at hq
   exact bodyA_some hq
  refine .inl ⟨zM hf hb (by simpa using hn) _ _, (afnL_ok hm hT hL hq hA).mono fun e w' he => ?_⟩
  obtain ⟨V, g1, ρ', u, h', g2, g3, g4⟩ := he
  obtain ⟨c1, c2, c3⟩ := brc_false.1 g4
  obtain ⟨k1, k2⟩ := toNu_ok g3 4 g2 c2 c1
  obtain ⟨k3, k4⟩ := c3 _ _ _ k1 k2
  exact ⟨V, g1, ⟨k3, g3.bel⟩, k4⟩
end Go.Proofs.YtimgphlfaninnaaGreat.A
namespace Go.Proofs.YtimgphlfaninnaaGreat.P
open Go.RowKit
set_option linter.unusedVariables false
set_option linter.unusedSimpArgs false
open A
def dvT (l m : List Int) (q r i : Option AV) : List (Option AV) := some (wdArg l) :: some (wdArg m) :: none :: none :: none :: none :: q :: r :: i :: none :: none :: none :: none :: none :: none :: none :: none :: List.replicate 40 none
def dvO (l : List Int) : Ob := .own true 155 1 (l.map fun n => .int .u64 n)
def dvP (s t : Bool) (l m : List Int) (r : Heap) : Heap := some (.cells [.bool s, wdArg l]) :: some (.cells [.bool t, wdArg m]) :: some (.cells [.bool false, .nilsl]) :: r
def dvH (s t : Bool) (l m q r : List Int) (i : Int) : St := ⟨dvT l m (some (.gs 3 1 6)) (some (.gs 5 1 6)) (some (.int .i64 i)), dvP s t l m [some (dvO q), some (dvO [0, 0, 0, 0, 0, 0]), some (.vec 155 1 6 (listC 1 (r.map fun n => .int .u64 n)))], []⟩
def dvH0 (s t : Bool) (l m : List Int) : St := ⟨dvT l m (some (.gs 3 1 6)) (some (.gs 4 1 6)) (some (.int .i64 191)), dvP s t l m [some (dvO [0, 0, 0, 0, 0, 0]), some (dvO [0, 0, 0, 0, 0, 0])], []⟩
def dvX (s t : Bool) (l m q r : List Int) : St := ⟨dvT l m (some (.gs 3 1 6)) (some (.gs 5 1 6)) none, dvP s t l m [some (dvO q), some (dvO [0, 0, 0, 0, 0, 0]), some (.vec 155 1 6 (listC 1 (r.map fun n => .int .u64 n)))], []⟩
def dvK : List Bool := true :: true :: false :: false :: false :: false :: true :: true :: List.replicate 49 false
def dvCS : CS := { m := 5, keep := dvK.set 8 true, roots := [7] }
def dvCSX : CS := { m := 5, keep := dvK, roots := [7] }
def dvBit (l : List Int) (i : Nat) : Int := Go.bits .and .u64 (Int.fdiv (l.getD (i / 32) 0) (2 ^ (i % 32))) 1
def dvSet (l s : List Int) (i : Nat) : List Int := s.set 0 (Go.bits .or .u64 (s.getD 0 0) (dvBit l i))
def dvQ (q : List Int) (i : Nat) : List Int := q.set (i / 32) (Go.bits .or .u64 (q.getD (i / 32) 0) (IntKind.wrap .u64 (1 * 2 ^ (i % 32))))
noncomputable def dvVC (l m q r : List Int) (i : Nat) (R : List Int → List Int → Prop) : Prop :=
 wdR (wdOk r && wdOk r) (wdVal r + wdVal r) fun s => brc (wdOk (dvSet l s i) && wdOk m) (∀ c : Int, c = wdSgn (wdVal (dvSet l s i)) (wdVal m) → brc (decide (c ≥ 0)) (wdR (wdOk (dvSet l s i) && wdOk m) (wdVal (dvSet l s i) - wdVal m) fun t => R (dvQ q i) t) (R q (dvSet l s i))) False
set_option maxRecDepth 100000 in
theorem dv_first (s t : Bool) (a0 a1 a2 a3 a4 a5 b0 b1 b2 b3 b4 b5 : Int) (R : Option St → Prop) (Q : Ex → Option St → Prop) : aroundN PA Tryz.prog wdT noLoops 6 (loopOf Tryz.prog 146 0) (dvH0 s t [a0, a1, a2, a3, a4, a5] [b0, b1, b2, b3, b4, b5]) (fun st => R (canon dvCS st)) (fun e st => Q e (canon dvCSX st)) =
 dvVC [a0, a1, a2, a3, a4, a5] [b0, b1, b2, b3, b4, b5] [0, 0, 0, 0, 0, 0] [0, 0, 0, 0, 0, 0] 191 (fun q r => R (some (dvH s t [a0, a1, a2, a3, a4, a5] [b0, b1, b2, b3, b4, b5] q r 190))) := by kernel_rfl
set_option maxRecDepth 100000 in
theorem dv_last (s t : Bool) (a0 a1 a2 a3 a4 a5 b0 b1 b2 b3 b4 b5 q0 q1 q2 q3 q4 q5 r0 r1 r2 r3 r4 r5 : Int) (R : Option St → Prop) (Q : Ex → Option St → Prop) : aroundN PA Tryz.prog wdT noLoops 6 (loopOf Tryz.prog 146 0) (dvH s t [a0, a1, a2, a3, a4, a5] [b0, b1, b2, b3, b4, b5] [q0, q1, q2, q3, q4, q5] [r0, r1, r2, r3, r4, r5] (-1)) (fun st => R (canon dvCS st)) (fun e st => Q e (canon dvCSX st)) =
 Q (.exit 0) (some (dvX s t [a0, a1, a2, a3, a4, a5] [b0, b1, b2, b3, b4, b5] [q0, q1, q2, q3, q4, q5] [r0, r1, r2, r3, r4, r5])) := by kernel_rfl
set_option maxRecDepth 100000 in
theorem dv_round (s t : Bool) (a0 a1 a2 a3 a4 a5 b0 b1 b2 b3 b4 b5 q0 q1 q2 q3 q4 q5 r0 r1 r2 r3 r4 r5 : Int) (R : Option St → Prop) (Q : Ex → Option St → Prop) : ∀ i : Nat, i < 191 → aroundN PA Tryz.prog wdT noLoops 6 (loopOf Tryz.prog 146 0) (dvH s t [a0, a1, a2, a3, a4, a5] [b0, b1, b2, b3, b4, b5] [q0, q1, q2, q3, q4, q5] [r0, r1, r2, r3, r4, r5] i) (fun st => R (canon dvCS st)) (fun e st => Q e (canon dvCSX st)) =
 dvVC [a0, a1, a2, a3, a4, a5] [b0, b1, b2, b3, b4, b5] [q0, q1, q2, q3, q4, q5] [r0, r1, r2, r3, r4, r5] i (fun q r => R (some (dvH s t [a0, a1, a2, a3, a4, a5] [b0, b1, b2, b3, b4, b5] q r ((i : Int) - 1))))
|0,_=>by kernel_rfl
|1,_=>by kernel_rfl
|2,_=>by kernel_rfl
|3,_=>by kernel_rfl
|4,_=>by kernel_rfl
|5,_=>by kernel_rfl
|6,_=>by kernel_rfl
|7,_=>by kernel_rfl
|8,_=>by kernel_rfl
|9,_=>by kernel_rfl
|10,_=>by kernel_rfl
|11,_=>by kernel_rfl
|12,_=>by kernel_rfl
|13,_=>by kernel_rfl
|14,_=>by kernel_rfl
|15,_=>by kernel_rfl
|16,_=>by kernel_rfl
|17,_=>by kernel_rfl
|18,_=>by kernel_rfl
|19,_=>by kernel_rfl
|20,_=>by kernel_rfl
|21,_=>by kernel_rfl
|22,_=>by kernel_rfl
|23,_=>by kernel_rfl
|24,_=>by kernel_rfl
|25,_=>by kernel_rfl
|26,_=>by kernel_rfl
|27,_=>by kernel_rfl
|28,_=>by kernel_rfl
|29,_=>by kernel_rfl
|30,_=>by kernel_rfl
|31,_=>by kernel_rfl
|32,_=>by kernel_rfl
|33,_=>by kernel_rfl
|34,_=>by kernel_rfl
|35,_=>by kernel_rfl
|36,_=>by kernel_rfl
|37,_=>by kernel_rfl
|38,_=>by kernel_rfl
|39,_=>by kernel_rfl
|40,_=>by kernel_rfl
|41,_=>by kernel_rfl
|42,_=>by kernel_rfl
|43,_=>by kernel_rfl
|44,_=>by kernel_rfl
|45,_=>by kernel_rfl
|46,_=>by kernel_rfl
|47,_=>by kernel_rfl
|48,_=>by kernel_rfl
|49,_=>by kernel_rfl
|50,_=>by kernel_rfl
|51,_=>by kernel_rfl
|52,_=>by kernel_rfl
|53,_=>by kernel_rfl
|54,_=>by kernel_rfl
|55,_=>by kernel_rfl
|56,_=>by kernel_rfl
|57,_=>by kernel_rfl
|58,_=>by kernel_rfl
|59,_=>by kernel_rfl
|60,_=>by kernel_rfl
|61,_=>by kernel_rfl
|62,_=>by kernel_rfl
|63,_=>by kernel_rfl
|64,_=>by kernel_rfl
|65,_=>by kernel_rfl
|66,_=>by kernel_rfl
|67,_=>by kernel_rfl
|68,_=>by kernel_rfl
|69,_=>by kernel_rfl
|70,_=>by kernel_rfl
|71,_=>by kernel_rfl
|72,_=>by kernel_rfl
|73,_=>by kernel_rfl
|74,_=>by kernel_rfl
|75,_=>by kernel_rfl
|76,_=>by kernel_rfl
|77,_=>by kernel_rfl
|78,_=>by kernel_rfl
|79,_=>by kernel_rfl
|80,_=>by kernel_rfl
|81,_=>by kernel_rfl
|82,_=>by kernel_rfl
|83,_=>by kernel_rfl
|84,_=>by kernel_rfl
|85,_=>by kernel_rfl
|86,_=>by kernel_rfl
|87,_=>by kernel_rfl
|88,_=>by kernel_rfl
|89,_=>by kernel_rfl
|90,_=>by kernel_rfl
|91,_=>by kernel_rfl
|92,_=>by kernel_rfl
|93,_=>by kernel_rfl
|94,_=>by kernel_rfl
|95,_=>by kernel_rfl
|96,_=>by kernel_rfl
|97,_=>by kernel_rfl
|98,_=>by kernel_rfl
|99,_=>by kernel_rfl
|100,_=>by kernel_rfl
|101,_=>by kernel_rfl
|102,_=>by kernel_rfl
|103,_=>by kernel_rfl
|104,_=>by kernel_rfl
|105,_=>by kernel_rfl
|106,_=>by kernel_rfl
|107,_=>by kernel_rfl
|108,_=>by kernel_rfl
|109,_=>by kernel_rfl
|110,_=>by kernel_rfl
|111,_=>by kernel_rfl
|112,_=>by kernel_rfl
|113,_=>by kernel_rfl
|114,_=>by kernel_rfl
|115,_=>by kernel_rfl
|116,_=>by kernel_rfl
|117,_=>by kernel_rfl
|118,_=>by kernel_rfl
|119,_=>by kernel_rfl
|120,_=>by kernel_rfl
|121,_=>by kernel_rfl
|122,_=>by kernel_rfl
|123,_=>by kernel_rfl
|124,_=>by kernel_rfl
|125,_=>by kernel_rfl
|126,_=>by kernel_rfl
|127,_=>by kernel_rfl
|128,_=>by kernel_rfl
|129,_=>by kernel_rfl
|130,_=>by kernel_rfl
|131,_=>by kernel_rfl
|132,_=>by kernel_rfl
|133,_=>by kernel_rfl
|134,_=>by kernel_rfl
|135,_=>by kernel_rfl
|136,_=>by kernel_rfl
|137,_=>by kernel_rfl
|138,_=>by kernel_rfl
|139,_=>by kernel_rfl
|140,_=>by kernel_rfl
|141,_=>by kernel_rfl
|142,_=>by kernel_rfl
|143,_=>by kernel_rfl
|144,_=>by kernel_rfl
|145,_=>by kernel_rfl
|146,_=>by kernel_rfl
|147,_=>by kernel_rfl
|148,_=>by kernel_rfl
|149,_=>by kernel_rfl
|150,_=>by kernel_rfl
|151,_=>by kernel_rfl
|152,_=>by kernel_rfl
|153,_=>by kernel_rfl
|154,_=>by kernel_rfl
|155,_=>by kernel_rfl
|156,_=>by kernel_rfl
|157,_=>by kernel_rfl
|158,_=>by kernel_rfl
|159,_=>by kernel_rfl
|160,_=>by kernel_rfl
|161,_=>by kernel_rfl
|162,_=>by kernel_rfl
|163,_=>by kernel_rfl
|164,_=>by kernel_rfl
|165,_=>by kernel_rfl
|166,_=>by kernel_rfl
|167,_=>by kernel_rfl
|168,_=>by kernel_rfl
|169,_=>by kernel_rfl
|170,_=>by kernel_rfl
|171,_=>by kernel_rfl
|172,_=>by kernel_rfl
|173,_=>by kernel_rfl
|174,_=>by kernel_rfl
|175,_=>by kernel_rfl
|176,_=>by kernel_rfl
|177,_=>by kernel_rfl
|178,_=>by kernel_rfl
|179,_=>by kernel_rfl
|180,_=>by kernel_rfl
|181,_=>by kernel_rfl
|182,_=>by kernel_rfl
|183,_=>by kernel_rfl
|184,_=>by kernel_rfl
|185,_=>by kernel_rfl
|186,_=>by kernel_rfl
|187,_=>by kernel_rfl
|188,_=>by kernel_rfl
|189,_=>by kernel_rfl
|190,_=>by kernel_rfl
 | n + 191, h => absurd h (by omega)
set_option maxRecDepth 100000 in
theorem dv_noloops : Code.loops (loopOf Tryz.prog 146 0) = [] := by kernel_rfl
set_option maxRecDepth 100000 in
theorem loops_dv : loopsOf Tryz.prog 146 = [loopOf Tryz.prog 146 0] := by kernel_rfl
end Go.Proofs.YtimgphlfaninnaaGreat.P
namespace Go.Proofs.YtimgphlfaninnaaGreat.Civ
set_option linter.unusedVariables false
set_option linter.unusedSimpArgs false
open Go.RowKit Go.Proofs.YtimgphlfaninnaaGreatW.PrintWords Go.Proofs.YtimgphlfaninnaaGreatW.PrintLast Go.Proofs.YtimgphlfaninnaaGreatW.PrintMore Go.Proofs.YtimgphlfaninnaaGreat.P
theorem u64m (x : Int) : IntKind.u64.wrap x = x % 18446744073709551616 := by simp [IntKind.wrap, IntKind.bits, IntKind.signed]
theorem u64w {x : Int} (h1 : 0 ≤ x) (h2 : x ≤ 18446744073709551615) : IntKind.u64.wrap x = x := by rw [u64m]; omega
theorem wraps_u64 (n : Int) (h₀ : 0 ≤ n) (h₁ : n < 2 ^ 64) : IntKind.u64.wrap n = n := by rw [u64m]; omega
theorem and32 {x : Int} (h1 : 0 ≤ x) (h2 : x ≤ 18446744073709551615) : Go.bits .and .u64 x 4294967295 = x % 4294967296 :=
 bits_mask .u64 64 (by decide) wraps_u64 32 (by decide) x h1 (by omega)
theorem orj (i : Nat) (hi : i ≤ 63) {x y : Int} (hx0 : 0 ≤ x) (hx : x % 2 ^ i = 0) (hx1 : x ≤ 18446744073709551615) (hy0 : 0 ≤ y) (hy : y < 2 ^ i) : Go.bits .or .u64 x y = x + y := by
 refine bits_join .u64 64 (by decide) wraps_u64 i x y hx0 hx (by omega) hy0 hy ?_
 have : (2 : Int) ^ i ≤ 2 ^ 63 := by exact_mod_cast Nat.pow_le_pow_right (by decide) hi
 omega
def dig (n : Int) : List Int := [n % 4294967296, n / 4294967296 % 4294967296, n / 4294967296 / 4294967296 % 4294967296, n / 4294967296 / 4294967296 / 4294967296 % 4294967296, n / 4294967296 / 4294967296 / 4294967296 / 4294967296 % 4294967296, n / 4294967296 / 4294967296 / 4294967296 / 4294967296 / 4294967296 % 4294967296]
theorem part_bd (x : Int) : 0 ≤ x % 4294967296 ∧ x % 4294967296 < 4294967296 := by omega
theorem part_eq (x : Int) : x = x % 4294967296 + 4294967296 * (x / 4294967296) := by omega
theorem dig_form {a : Int} (h0 : 0 ≤ a) (h1 : a < 6277101735386680763835789423207666416102355444464034512896) : ∃ a0 a1 a2 a3 a4 a5, dig a = [a0, a1, a2, a3, a4, a5] ∧ ((0 ≤ a0 ∧ a0 < 4294967296) ∧ (0 ≤ a1 ∧ a1 < 4294967296) ∧ (0 ≤ a2 ∧ a2 < 4294967296) ∧ (0 ≤ a3 ∧ a3 < 4294967296) ∧ (0 ≤ a4 ∧ a4 < 4294967296) ∧ (0 ≤ a5 ∧ a5 < 4294967296)) ∧ a = a0 + 4294967296 * (a1 + 4294967296 * (a2 + 4294967296 * (a3 + 4294967296 * (a4 + 4294967296 * (a5))))) := by
 refine ⟨_, _, _, _, _, _, rfl, ⟨part_bd _, part_bd _, part_bd _, part_bd _, part_bd _, part_bd _⟩, ?_⟩
 have e : a / 4294967296 / 4294967296 / 4294967296 / 4294967296 / 4294967296 % 4294967296 = a / 4294967296 / 4294967296 / 4294967296 / 4294967296 / 4294967296 := by
  have h : a / 4294967296 / 4294967296 / 4294967296 / 4294967296 / 4294967296 = a / 1461501637330902918203684832716283019655932542976 := by omega
  omega
 rw [e, ← part_eq, ← part_eq, ← part_eq, ← part_eq, ← part_eq]
theorem part_lo {x y : Int} (h : 0 ≤ x ∧ x < 4294967296) : (x + 4294967296 * y) % 4294967296 = x ∧ (x + 4294967296 * y) / 4294967296 = y := by omega
theorem dig_of {a : Int} {a0 a1 a2 a3 a4 a5 : Int} (h : (0 ≤ a0 ∧ a0 < 4294967296) ∧ (0 ≤ a1 ∧ a1 < 4294967296) ∧ (0 ≤ a2 ∧ a2 < 4294967296) ∧ (0 ≤ a3 ∧ a3 < 4294967296) ∧ (0 ≤ a4 ∧ a4 < 4294967296) ∧ (0 ≤ a5 ∧ a5 < 4294967296)) (e : a = a0 + 4294967296 * (a1 + 4294967296 * (a2 + 4294967296 * (a3 + 4294967296 * (a4 + 4294967296 * (a5)))))) : dig a = [a0, a1, a2, a3, a4, a5] := by
 obtain ⟨h0, h1, h2, h3, h4, h5⟩ := h
 have h6 : a5 % 4294967296 = a5 := by omega
 unfold dig
 rw [e]
 simp only [(part_lo h0).1, (part_lo h0).2, (part_lo h1).1, (part_lo h1).2, (part_lo h2).1, (part_lo h2).2, (part_lo h3).1, (part_lo h3).2, (part_lo h4).1, (part_lo h4).2, h6]
instance (x : Int) : Decidable (I64 x) := inferInstanceAs (Decidable (_ ∧ _))
def out (z : Int) : Int × Int := if I64 z then (z, 0) else (0, 10)
theorem out_in {z : Int} (h : I64 z) : out z = (z, 0) := if_pos h
theorem out_no {z : Int} (h : ¬ I64 z) : out z = (0, 10) := if_neg h
theorem add_eq (a b : Int) (ha : I64 a) (hb : I64 b) : zL.f a b = some (out (a + b)) := by
 unfold zL.f out
 by_cases h : I64 (a + b)
 · rw [if_pos h, w64_of h, if_neg]
   simp only [bne_iff_ne, ne_eq, Decidable.not_not]
   apply decide_eq_decide.2; omega
 · rw [if_neg h, if_pos]
   unfold I64 at *
   have hw : wrap64 (a + b) = a + b - 18446744073709551616 ∨ wrap64 (a + b) = a + b + 18446744073709551616 := by unfold wrap64; omega
   simp only [bne_iff_ne, ne_eq, decide_eq_decide]
   unfold wrap64 at *
   omega
theorem sub_eq (a b : Int) (ha : I64 a) (hb : I64 b) : num_Sub.f a b = some (out (a - b)) := by
 unfold num_Sub.f out
 by_cases h : I64 (a - b)
 · rw [if_pos h, w64_of h, if_neg]
   simp only [bne_iff_ne, ne_eq, Decidable.not_not]
   apply decide_eq_decide.2; omega
 · rw [if_neg h, if_pos]
   unfold I64 at *
   simp only [bne_iff_ne, ne_eq, decide_eq_decide]
   unfold wrap64 at *
   omega
theorem neg_eq (a : Int) (ha : I64 a) : num_Neg.f a = some (out (-a)) := by
 unfold num_Neg.f
 rw [sub_eq 0 a (by unfold I64; omega) ha]
 simp only [Option.bind_some, Int.zero_sub]
def ab (a : Int) : Int := if a < 0 then -a else a
theorem ab_bd {a : Int} (h : I64 a) : 0 ≤ ab a ∧ ab a ≤ 9223372036854775808 := by unfold ab; unfold I64 at h; split <;> omega
theorem ab_pos {a : Int} (h : 0 ≤ a) : ab a = a := by unfold ab; rw [if_neg (by omega)]
theorem ab_neg {a : Int} (h : a < 0) : ab a = -a := by unfold ab; rw [if_pos h]
theorem size_eq (a : Int) (ha : I64 a) : zH.f a = some (ab a) := by
 unfold zH.f ab
 unfold I64 at ha
 by_cases h : a < 0
 · rw [if_pos h, if_pos h, u64m, u64m]; congr 1; omega
 · rw [if_neg h, if_neg h, u64m]; congr 1; omega
theorem mul_bd {x y a b : Int} (hx : 0 ≤ x) (hxa : x ≤ a) (hy : 0 ≤ y) (hyb : y ≤ b) : 0 ≤ x * y ∧ x * y ≤ a * b :=
 ⟨Int.mul_nonneg hx hy, Int.mul_le_mul hxa hyb hy (by omega)⟩
theorem mul64_eq (x y : Int) (hx : 0 ≤ x) (hx1 : x ≤ 18446744073709551615) (hy : 0 ≤ y) (hy1 : y ≤ 18446744073709551615) :
 zF.f x y = some (x * y / 18446744073709551616, x * y % 18446744073709551616) := by
 unfold zF.f
 rw [and32 hx hx1, and32 hy hy1]
 have ex : x = x / 4294967296 * 4294967296 + x % 4294967296 := by omega
 have ey : y = y / 4294967296 * 4294967296 + y % 4294967296 := by omega
 have bx1 : 0 ≤ x / 4294967296 ∧ x / 4294967296 ≤ 4294967295 := by omega
 have bx0 : 0 ≤ x % 4294967296 ∧ x % 4294967296 ≤ 4294967295 := by omega
 have by1 : 0 ≤ y / 4294967296 ∧ y / 4294967296 ≤ 4294967295 := by omega
 have by0 : 0 ≤ y % 4294967296 ∧ y % 4294967296 ≤ 4294967295 := by omega
 have p11 := mul_bd bx1.1 bx1.2 by1.1 by1.2
 have p10 := mul_bd bx1.1 bx1.2 by0.1 by0.2
 have p01 := mul_bd bx0.1 bx0.2 by1.1 by1.2
 have p00 := mul_bd bx0.1 bx0.2 by0.1 by0.2
 have e : x * y = x / 4294967296 * (y / 4294967296) * 18446744073709551616 + (x / 4294967296 * (y % 4294967296) + x % 4294967296 * (y / 4294967296)) * 4294967296 + x % 4294967296 * (y % 4294967296) := by
  conv => lhs; rw [ex, ey]
  simp only [Int.mul_add, Int.add_mul]
  have c1 : x / 4294967296 * 4294967296 * (y / 4294967296 * 4294967296) = x / 4294967296 * (y / 4294967296) * 18446744073709551616 := by
   rw [Int.mul_assoc, Int.mul_left_comm 4294967296, ← Int.mul_assoc (x / 4294967296)]; rfl
  have c2 : x % 4294967296 * (y / 4294967296 * 4294967296) = x % 4294967296 * (y / 4294967296) * 4294967296 := by rw [Int.mul_assoc]
  have c3 : x / 4294967296 * 4294967296 * (y % 4294967296) = x / 4294967296 * (y % 4294967296) * 4294967296 := by rw [Int.mul_assoc, Int.mul_comm 4294967296, ← Int.mul_assoc]
  rw [c1, c2, c3]; omega
 generalize x * y = P at *
 generalize x / 4294967296 * (y / 4294967296) = P11 at *
 generalize x / 4294967296 * (y % 4294967296) = P10 at *
 generalize x % 4294967296 * (y / 4294967296) = P01 at *
 generalize x % 4294967296 * (y % 4294967296) = P00 at *
 clear ex ey bx1 bx0 by1 by0 hx hx1 hy hy1
 rw [u64w (x := P11) (by omega) (by omega), u64w (x := P10) (by omega) (by omega), u64w (x := P00) (by omega) (by omega), u64w (x := P01) (by omega) (by omega)]
 have t : 0 ≤ P00 / 4294967296 ∧ P00 / 4294967296 ≤ 4294967295 := by omega
 rw [u64w (x := P10 + P00 / 4294967296) (by omega) (by omega), and32 (by omega) (by omega)]
 obtain ⟨T, hT⟩ : ∃ T, P10 + P00 / 4294967296 = T := ⟨_, rfl⟩
 rw [hT]
 rw [u64w (x := T % 4294967296 + P01) (by omega) (by omega), u64w (x := P11 + T / 4294967296) (by omega) (by omega), u64w (x := P11 + T / 4294967296 + (T % 4294967296 + P01) / 4294967296) (by omega) (by omega), u64m]
 congr 2
 omega
theorem product_eq (a b : Int) (ha : I64 a) (hb : I64 b) : jE.f a b = some (ab a * ab b / 18446744073709551616, ab a * ab b % 18446744073709551616) := by
 have h1 := ab_bd ha
 have h2 := ab_bd hb
 unfold jE.f
 rw [size_eq a ha, size_eq b hb]
 simp only [Option.bind_some]
 rw [mul64_eq _ _ h1.1 (by omega) h2.1 (by omega)]
 rfl
theorem signed_eq (k : Nat) (neg : Bool) (hi lo : Int) (h0 : 0 ≤ hi) (h1 : 0 ≤ lo) (h2 : lo ≤ 18446744073709551615) :
 bG.f (k + 1) neg hi lo = some (out (if neg = true then -(hi * 18446744073709551616 + lo) else hi * 18446744073709551616 + lo)) := by
 unfold bG.f
 by_cases hh : hi = 0
 · subst hh
   rw [if_pos rfl]
   cases neg with
   | true =>
    simp only [if_true, bG.j0]
    by_cases g : lo ≤ 9223372036854775808
    · rw [decide_eq_true g, if_pos rfl, out_in (by unfold I64; omega), u64m]
      congr 2; unfold wrap64; omega
    · rw [decide_eq_false g, if_neg (by simp), out_no (by unfold I64; omega)]
   | false =>
    simp only [bG.j0, Bool.false_eq_true, if_false]
    by_cases g : lo > 9223372036854775807
    · rw [if_pos g, out_no (by unfold I64; omega)]
    · rw [if_neg g, out_in (by unfold I64; omega), w64 (by omega) (by omega)]
      congr 2; omega
 · rw [if_neg hh]
   cases neg with
   | true => rw [if_pos rfl, out_no (by unfold I64; omega)]
   | false => rw [if_neg (by simp), out_no (by unfold I64; omega)]
theorem mul_sign (a b : Int) : (if ((decide (a < 0)) != (decide (b < 0))) = true then -(ab a * ab b) else ab a * ab b) = a * b := by
 by_cases h1 : a < 0
 · by_cases h2 : b < 0
   · rw [decide_eq_true h1, decide_eq_true h2, if_neg (by simp), ab_neg h1, ab_neg h2, Int.neg_mul_neg]
   · rw [decide_eq_true h1, decide_eq_false h2, if_pos (by simp), ab_neg h1, ab_pos (by omega), Int.neg_mul, Int.neg_neg]
 · by_cases h2 : b < 0
   · rw [decide_eq_false h1, decide_eq_true h2, if_pos (by simp), ab_pos (by omega), ab_neg h2, Int.mul_neg, Int.neg_neg]
   · rw [decide_eq_false h1, decide_eq_false h2, if_neg (by simp), ab_pos (by omega), ab_pos (by omega)]
theorem mul_eq (k : Nat) (a b : Int) (ha : I64 a) (hb : I64 b) : jO.f (k + 1) a b = some (out (a * b)) := by
 have h1 := ab_bd ha
 have h2 := ab_bd hb
 have h3 := mul_bd h1.1 h1.2 h2.1 h2.2
 unfold jO.f
 rw [product_eq a b ha hb]
 simp only [Option.bind_some]
 rw [signed_eq _ _ _ _ (by omega) (by omega) (by omega)]
 simp only [Option.bind_some]
 rw [show ab a * ab b / 18446744073709551616 * 18446744073709551616 + ab a * ab b % 18446744073709551616 = ab a * ab b by omega, mul_sign]
def fl (a b : Int) : Int := if b < 0 then (-a) / (-b) else a / b
def md (a b : Int) : Int := if b < 0 then -((-a) % (-b)) else a % b
theorem fl_md (a b : Int) : a = b * fl a b + md a b := by
 unfold fl md
 split
 · have := Int.mul_ediv_add_emod (-a) (-b)
   rw [Int.neg_mul] at this
   omega
 · have := Int.mul_ediv_add_emod a b
   omega
theorem fl_unique {a b q r : Int} (h : a = b * q + r) (hr : (0 ≤ r ∧ r < b) ∨ (b < r ∧ r ≤ 0)) : fl a b = q ∧ md a b = r := by
 unfold fl md
 by_cases hb : b < 0
 · rw [if_pos hb, if_pos hb]
   have := (Int.ediv_emod_unique (a := -a) (b := -b) (r := -r) (q := q) (by omega)).2 ⟨by rw [Int.neg_mul]; omega, by omega, by omega⟩
   omega
 · rw [if_neg hb, if_neg hb]
   have := (Int.ediv_emod_unique (a := a) (b := b) (r := r) (q := q) (by omega)).2 ⟨by omega, by omega, by omega⟩
   omega
theorem div64_small (k : Nat) (lo y : Int) (h0 : 0 < y) (h1 : 0 ≤ lo) (h2 : lo ≤ 18446744073709551615) : jM.f k 0 lo y = some (lo / y, lo % y) := by
 unfold jM.f
 first
  | rw [if_pos ⟨rfl, h0⟩, td_pos h1, tm_pos h1]
  | rw [if_neg (by omega), if_neg (by omega), if_pos rfl, td_pos h1, tm_pos h1]
 have := Int.ediv_le_self y h1
 have := Int.ediv_nonneg h1 (b := y) (by omega)
 rw [u64w (by omega) (by omega)]
theorem fl_signs {a b c P D : Int} (hP : ab a * ab b = P) (hD : ab c = D) (hc : c ≠ 0) :
 fl (a * b) c = if (((decide (a < 0)) != (decide (b < 0))) != (decide (c < 0))) = true then (if P % D = 0 then -(P / D) else -(P / D) - 1) else P / D := by
 have hs := mul_sign a b
 rw [hP] at hs
 have hD0 : 0 < D := by rw [← hD]; unfold ab; split <;> omega
 have e := Int.mul_ediv_add_emod P D
 have r0 := Int.emod_nonneg P (Int.ne_of_gt hD0)
 have r1 := Int.emod_lt_of_pos P hD0
 have hP0 : ((decide (a < 0)) != (decide (b < 0))) = true → a * b = -P := fun h => by rw [if_pos h] at hs; exact hs.symm
 have hP1 : ((decide (a < 0)) != (decide (b < 0))) = false → a * b = P := fun h => by rw [if_neg (by rw [h]; simp)] at hs; exact hs.symm
 generalize ((decide (a < 0)) != (decide (b < 0))) = s at *
 generalize P / D = q at *
 generalize P % D = r at *
 have em : D * (q + 1) = D * q + D := by rw [Int.mul_add, Int.mul_one]
 by_cases h3 : c < 0
 · rw [ab_neg h3] at hD
   rw [decide_eq_true h3]
   cases s with
   | true =>
    rw [if_neg (by simp), hP0 rfl]
    exact (fl_unique (r := -r) (by rw [← e, show c = -D by omega, Int.neg_mul]; omega) (by omega)).1
   | false =>
    rw [if_pos (by simp), hP1 rfl]
    by_cases hr : r = 0
    · rw [if_pos hr]
      exact (fl_unique (r := 0) (by rw [← e, show c = -D by omega, Int.neg_mul_neg]; omega) (by omega)).1
    · rw [if_neg hr]
      exact (fl_unique (r := r - D) (by rw [← e, show c = -D by omega, show -q - 1 = -(q + 1) by omega, Int.neg_mul_neg]; omega) (by omega)).1
 · rw [ab_pos (by omega)] at hD
   subst hD
   rw [decide_eq_false h3]
   cases s with
   | true =>
    rw [if_pos (by simp), hP0 rfl]
    by_cases hr : r = 0
    · rw [if_pos hr]
      exact (fl_unique (r := 0) (by rw [← e, Int.mul_neg]; omega) (by omega)).1
    · rw [if_neg hr]
      exact (fl_unique (r := c - r) (by rw [← e, show -q - 1 = -(q + 1) by omega, Int.mul_neg]; omega) (by omega)).1
   | false =>
    rw [if_neg (by simp), hP1 rfl]
    exact (fl_unique (r := r) (by omega) (by omega)).1
theorem add64_eq (x : Int) (h0 : 0 ≤ x) : zB.f x 1 0 = some ((x + 1) % 18446744073709551616, (x + 1) / 18446744073709551616) := by
 unfold zB.f
 rw [if_pos h0, if_pos (by omega), if_pos (by omega), if_pos (by omega), Int.add_zero]
theorem scale_of (k : Nat) (a b c : Int) (ha : I64 a) (hb : I64 b) (hc : I64 c) (h0 : c ≠ 0)
 (hd : ab a * ab b / 18446744073709551616 < ab c → jM.f (k + 1) (ab a * ab b / 18446744073709551616) (ab a * ab b % 18446744073709551616) (ab c) = some (ab a * ab b / ab c, ab a * ab b % ab c)) :
 num_Scale.f (k + 1) a b c = some (out (fl (a * b) c)) := by
 have h1 := ab_bd ha
 have h2 := ab_bd hb
 have h3 := ab_bd hc
 have h4 := mul_bd h1.1 h1.2 h2.1 h2.2
 have hD0 : 0 < ab c := by unfold ab; split <;> omega
 rw [fl_signs rfl rfl h0]
 unfold num_Scale.f
 rw [if_neg h0, product_eq a b ha hb, size_eq c hc]
 simp only [Option.bind_some]
 generalize hP : ab a * ab b = P at *
 generalize hD : ab c = D at *
 have e := Int.mul_ediv_add_emod P D
 have r0 := Int.emod_nonneg P (Int.ne_of_gt hD0)
 have r1 := Int.emod_lt_of_pos P hD0
 have q0 : 0 ≤ P / D := Int.ediv_nonneg h4.1 (by omega)
 by_cases hl : P / 18446744073709551616 ≥ D
 · rw [if_pos hl]
   have hq : 18446744073709551616 ≤ P / D := by
    rw [Int.le_ediv_iff_mul_le hD0]; omega
   split
   · split
     · rw [out_no (by unfold I64; omega)]
     · rw [out_no (by unfold I64; omega)]
   · rw [out_no (by unfold I64; omega)]
 · rw [if_neg hl, hd (by omega)]
   simp only [Option.bind_some]
   have hq : P / D < 18446744073709551616 := Int.ediv_lt_of_lt_mul hD0 (by omega)
   generalize P / D = q at *
   generalize P % D = r at *
   by_cases hs : (((decide (a < 0)) != (decide (b < 0))) != (decide (c < 0))) = true
   · rw [if_pos hs, if_pos hs, hs]
     by_cases hr : r = 0
     · rw [if_pos hr, if_pos hr, signed_eq _ _ _ _ (by omega) (by omega) (by omega), if_pos rfl]
       simp only [Option.bind_some]
       rw [show (0 : Int) * 18446744073709551616 + q = q by omega]
     · rw [if_neg hr, if_neg hr, add64_eq _ q0]
       simp only [Option.bind_some]
       rw [signed_eq _ _ _ _ (by omega) (by omega) (by omega), if_pos rfl]
       simp only [Option.bind_some]
       rw [show (q + 1) / 18446744073709551616 * 18446744073709551616 + (q + 1) % 18446744073709551616 = q + 1 by omega, show -(q + 1) = -q - 1 by omega]
   · rw [if_neg hs, if_neg hs, signed_eq _ _ _ _ (by omega) (by omega) (by omega), if_neg hs]
     simp only [Option.bind_some]
     rw [show (0 : Int) * 18446744073709551616 + q = q by omega]
theorem div_eq (k : Nat) (a c : Int) (ha : I64 a) (hc : I64 c) (h0 : c ≠ 0) : num_Div.f (k + 1) a c = some (out (fl a c)) := by
 have h1 := ab_bd ha
 have h3 := ab_bd hc
 have hD0 : 0 < ab c := by unfold ab; split <;> omega
 unfold num_Div.f
 rw [scale_of k a 1 c ha (by unfold I64; omega) hc h0 (fun _ => ?_)]
 · simp only [Option.bind_some, Int.mul_one]
 · rw [ab_pos (a := 1) (by omega), Int.mul_one, show ab a / 18446744073709551616 = 0 by omega, show ab a % 18446744073709551616 = ab a by omega]
   exact div64_small _ _ _ hD0 h1.1 (by omega)
theorem mod_eq (a b : Int) (ha : I64 a) (hb : I64 b) (h0 : b ≠ 0) : num_Mod.f a b = some (md a b, 0) := by
 unfold num_Mod.f
 rw [if_neg h0]
 by_cases h1 : b = -1
 · rw [if_pos h1]
   have : md a b = 0 := by unfold md; rw [if_pos (by omega), h1]; simp
   rw [this]
 rw [if_neg h1]
 unfold I64 at hb
 by_cases hs : b < 0
 · -- the remainder of a cut division has the sign of a
   have e : Int.tmod a b = Int.tmod a (-b) := by rw [Int.tmod_neg]
   have c := cut_floor a (b := -b) (by omega)
   have g1 := Int.emod_nonneg a (b := -b) (by omega)
   have g2 := Int.emod_lt_of_pos a (b := -b) (by omega)
   have e2 : md a b = if a % (-b) = 0 then 0 else a % (-b) + b := by
    have d := Int.mul_ediv_add_emod a (-b)
    split
    · rename_i hz
      exact (fl_unique (q := -(a / -b)) (by rw [Int.mul_neg, ← Int.neg_mul]; omega) (by omega)).2
    · exact (fl_unique (q := -(a / -b) - 1) (by rw [show -(a / -b) - 1 = -((a / -b) + 1) by omega, Int.mul_neg, ← Int.neg_mul, Int.mul_add]; omega) (by omega)).2
   rw [e, e2]
   by_cases hn : Int.tmod a (-b) < 0
   · obtain ⟨c1, c2, c3⟩ := c.1 hn
     rw [if_neg (by omega), if_neg (show ¬ a % (-b) = 0 by omega), decide_eq_true hn, decide_eq_true hs, if_neg (by simp)]
     congr 2; omega
   · obtain ⟨c1, c2⟩ := c.2 hn
     rw [c2]
     by_cases hz : a % (-b) = 0
     · rw [if_pos hz, if_pos hz, hz]
     · rw [if_neg hz, if_neg hz, decide_eq_false (show ¬ a % (-b) < 0 by omega), decide_eq_true hs, if_pos (by simp), w64 (by omega) (by omega)]
 · have c := cut_floor a (b := b) (by omega)
   have g1 := Int.emod_nonneg a (b := b) (by omega)
   have g2 := Int.emod_lt_of_pos a (b := b) (by omega)
   have e2 : md a b = a % b := by unfold md; rw [if_neg hs]
   rw [e2]
   by_cases hn : Int.tmod a b < 0
   · obtain ⟨c1, c2, c3⟩ := c.1 hn
     rw [if_neg (by omega), decide_eq_true hn, decide_eq_false hs, if_pos (by simp), w64 (by omega) (by omega)]
     congr 2; omega
   · obtain ⟨c1, c2⟩ := c.2 hn
     rw [c2]
     by_cases hz : a % b = 0
     · rw [if_pos hz]
     · rw [if_neg hz, decide_eq_false (show ¬ a % b < 0 by omega), decide_eq_false hs, if_neg (by simp)]
theorem fl_pos {a b : Int} (h : 0 < b) : fl a b = a / b := by unfold fl; rw [if_neg (by omega)]
theorem md_pos {a b : Int} (h : 0 < b) : md a b = a % b := by unfold md; rw [if_neg (by omega)]
theorem fl_bd {a b : Int} (ha : I64 a) (hb : b ≠ 0) : I64 (fl a b) ∨ (b = -1 ∧ a = -9223372036854775808) := by
 unfold fl
 split
 · rename_i h
   by_cases h1 : b = -1
   · subst h1
     show I64 ((-a) / 1) ∨ _
     rw [Int.ediv_one]
     unfold I64 at *
     omega
   · left
     unfold I64 at *
     have e := Int.mul_ediv_add_emod (-a) (-b)
     have g1 := Int.emod_nonneg (-a) (b := -b) (by omega)
     have g2 := Int.emod_lt_of_pos (-a) (b := -b) (by omega)
     constructor
     · rw [Int.le_ediv_iff_mul_le (by omega)]
       have : -9223372036854775808 * -b ≤ -9223372036854775808 * 1 := Int.mul_le_mul_of_nonpos_left (by omega) (by omega)
       omega
     · rcases Int.lt_or_le (-a) 0 with g | g
       · have : (-a) / (-b) < 0 := Int.ediv_lt_of_lt_mul (by omega) (by omega)
         omega
       · have h3 : (-a) / (-b) ≤ (-a) / 2 := by
          rw [Int.le_ediv_iff_mul_le (by omega)]
          have h5 : 0 ≤ (-a) / (-b) := Int.ediv_nonneg g (by omega)
          have h6 : (-a) / (-b) * 2 ≤ (-a) / (-b) * -b := Int.mul_le_mul_of_nonneg_left (by omega) h5
          rw [Int.mul_comm (-b)] at e
          omega
         omega
 · left
   have := ediv_i64 (b := b) ha (by omega)
   exact this
theorem split_eq (k : Nat) (us : Int) (h : I64 us) : jL.f (k + 1) us = some (us / 86400000000, us % 86400000000) := by
 unfold jL.f
 have hc : I64 86400000000 := by unfold I64; omega
 rw [div_eq k us 86400000000 h hc (by omega), mod_eq us 86400000000 h hc (by omega), fl_pos (by omega), md_pos (by omega), out_in (ediv_i64 h (by omega))]
 rfl
def ng (x : Int) : Bool := decide (x < 0)
theorem ab_zero {x : Int} : ab x = 0 ↔ x = 0 := by unfold ab; split <;> omega
theorem pow_pos' (s : Nat) : (0 : Int) < 2 ^ s := by exact_mod_cast Nat.two_pow_pos s
theorem pow_split (s : Nat) (h : s < 32) : (4294967296 : Int) = 2 ^ s * (2 * 2 ^ (31 - s)) := by
 have e : (4294967296 : Int) = 2 ^ 32 := rfl
 rw [e, ← Int.pow_succ', ← Int.pow_add]
 congr 1; omega
theorem part_bit (x : Int) (s : Nat) (h : s < 32) : x % 4294967296 / 2 ^ s % 2 = x / 2 ^ s % 2 := by
 have hp := pow_pos' s
 have e : x = x % 4294967296 + 2 ^ s * (2 * 2 ^ (31 - s) * (x / 4294967296)) := by
  rw [← Int.mul_assoc, ← pow_split s h]; omega
 have e2 : x / 2 ^ s = x % 4294967296 / 2 ^ s + 2 * 2 ^ (31 - s) * (x / 4294967296) := by
  conv => lhs; rw [e]
  exact Int.add_mul_ediv_left _ _ (Int.ne_of_gt hp)
 rw [e2, Int.mul_assoc]; omega
theorem low_div (a : Int) (L : Int) (hL : 0 < L) (s : Nat) : a / L / 2 ^ s = a / (L * 2 ^ s) := Int.ediv_ediv_of_nonneg (by omega)
theorem rd_bit (a : Int) (n : Nat) (h : n < 192) : ∃ u, rd (dig a) ((n : Int) / 32) = u ∧ (0 ≤ u ∧ u < 4294967296) ∧ u / 2 ^ (n % 32) % 2 = a / 2 ^ n % 2 := by
 have hs : n % 32 < 32 := Nat.mod_lt _ (by omega)
 have hn : n = 32 * (n / 32) + n % 32 := by omega
 have hq : n / 32 = 0 ∨ n / 32 = 1 ∨ n / 32 = 2 ∨ n / 32 = 3 ∨ n / 32 = 4 ∨ n / 32 = 5 := by omega
 have hi : (n : Int) / 32 = ((n / 32 : Nat) : Int) := by omega
 rw [hi]
 generalize n % 32 = s at *
 generalize n / 32 = q at *
 subst hn
 rw [Int.pow_add]
 rcases hq with e | e | e | e | e | e <;> subst e
 · exact ⟨a % 4294967296, rfl, part_bd _, by rw [part_bit _ _ hs]; simp⟩
 · exact ⟨a / 4294967296 % 4294967296, rfl, part_bd _, by rw [part_bit _ _ hs, low_div _ _ (by omega)]; rfl⟩
 · exact ⟨a / 4294967296 / 4294967296 % 4294967296, rfl, part_bd _, by rw [part_bit _ _ hs, show a / 4294967296 / 4294967296 = a / 18446744073709551616 by omega, low_div _ _ (by omega)]; rfl⟩
 · exact ⟨a / 4294967296 / 4294967296 / 4294967296 % 4294967296, rfl, part_bd _, by rw [part_bit _ _ hs, show a / 4294967296 / 4294967296 / 4294967296 = a / 79228162514264337593543950336 by omega, low_div _ _ (by omega)]; rfl⟩
 · exact ⟨a / 4294967296 / 4294967296 / 4294967296 / 4294967296 % 4294967296, rfl, part_bd _, by rw [part_bit _ _ hs, show a / 4294967296 / 4294967296 / 4294967296 / 4294967296 = a / 340282366920938463463374607431768211456 by omega, low_div _ _ (by omega)]; rfl⟩
 · exact ⟨a / 4294967296 / 4294967296 / 4294967296 / 4294967296 / 4294967296 % 4294967296, rfl, part_bd _, by rw [part_bit _ _ hs, show a / 4294967296 / 4294967296 / 4294967296 / 4294967296 / 4294967296 = a / 1461501637330902918203684832716283019655932542976 by omega, low_div _ _ (by omega)]; rfl⟩
theorem set_bit (N : Int) (n : Nat) (h : n < 192) (h0 : 0 ≤ N) (h1 : N < 6277101735386680763835789423207666416102355444464034512896) (hm : N % 2 ^ (n + 1) = 0) :
 ∃ u, rd (dig N) ((n : Int) / 32) = u ∧ (0 ≤ u ∧ u < 4294967296) ∧ u % 2 ^ (n % 32 + 1) = 0 ∧ (dig N).set ((n : Int) / 32).toNat (u + 2 ^ (n % 32)) = dig (N + 2 ^ n) := by
 have hs : n % 32 < 32 := Nat.mod_lt _ (by omega)
 have hn : n = 32 * (n / 32) + n % 32 := by omega
 have hq : n / 32 = 0 ∨ n / 32 = 1 ∨ n / 32 = 2 ∨ n / 32 = 3 ∨ n / 32 = 4 ∨ n / 32 = 5 := by omega
 have hi : (n : Int) / 32 = ((n / 32 : Nat) : Int) := by omega
 rw [hi]
 generalize n % 32 = s at *
 generalize n / 32 = q at *
 subst hn
 have hp := pow_pos' s
 have hP := pow_split s hs
 have hsucc : (2 : Int) ^ (s + 1) = 2 * 2 ^ s := Int.pow_succ' _ _
 have hs1 : (4294967296 : Int) = 2 ^ (s + 1) * 2 ^ (31 - s) := by rw [hsucc, Int.mul_comm 2, Int.mul_assoc]; exact hP
 obtain ⟨w, hw⟩ : ∃ w, N = 2 ^ (32 * q + s + 1) * w := ⟨_, (Int.mul_ediv_cancel' (Int.dvd_of_emod_eq_zero hm)).symm⟩
 obtain ⟨a0, a1, a2, a3, a4, a5, ea, ⟨A0, A1, A2, A3, A4, A5⟩, va⟩ := dig_form h0 h1
 have up : ∀ u : Int, 0 ≤ u → u < 4294967296 → u % 2 ^ (s + 1) = 0 → u + 2 ^ s < 4294967296 := by
  intro u u0 u1 um
  obtain ⟨v, hv⟩ : ∃ v, u = 2 ^ (s + 1) * v := ⟨_, (Int.mul_ediv_cancel' (Int.dvd_of_emod_eq_zero um)).symm⟩
  have hlt : v < 2 ^ (31 - s) := by
   rcases Int.lt_or_le v (2 ^ (31 - s)) with g | g
   · exact g
   · have := Int.mul_le_mul_of_nonneg_left g (show (0 : Int) ≤ 2 ^ (s + 1) by omega)
     omega
  have := Int.mul_le_mul_of_nonneg_left (show v + 1 ≤ 2 ^ (31 - s) by omega) (show (0 : Int) ≤ 2 ^ (s + 1) by omega)
  rw [Int.mul_add] at this
  omega
 have modz : ∀ (u rest z : Int), u + 4294967296 * rest = 2 ^ (s + 1) * z → u % 2 ^ (s + 1) = 0 := by
  intro u rest z e
  have : u = 2 ^ (s + 1) * (z - 2 ^ (31 - s) * rest) := by rw [Int.mul_sub, ← Int.mul_assoc, ← hs1]; omega
  rw [this]; exact Int.mul_emod_right _ _
 rcases hq with e | e | e | e | e | e <;> subst e
 · have hpw : (2 : Int) ^ (32 * 0 + s + 1) = 1 * 2 ^ (s + 1) := by rw [Nat.add_assoc, Int.pow_add]; rfl
   have hpw2 : (2 : Int) ^ (32 * 0 + s) = 1 * 2 ^ s := by rw [Int.pow_add]; rfl
   have hN : a0 + 4294967296 * (a1 + 4294967296 * (a2 + 4294967296 * (a3 + 4294967296 * (a4 + 4294967296 * (a5))))) = 2 ^ (s + 1) * w := by
    rw [hpw, Int.mul_assoc] at hw
    generalize 2 ^ (s + 1) * w = W at *
    omega
   have hz := modz _ _ _ hN
   refine ⟨a0, by rw [ea]; rfl, A0, hz, ?_⟩
   rw [ea, hpw2]
   show [a0 + 2 ^ s, a1, a2, a3, a4, a5] = _
   exact (dig_of (a := N + 1 * 2 ^ s) ⟨⟨by omega, up a0 A0.1 A0.2 hz⟩, A1, A2, A3, A4, A5⟩ (by rw [va]; omega)).symm
 · have hpw : (2 : Int) ^ (32 * 1 + s + 1) = 4294967296 * 2 ^ (s + 1) := by rw [Nat.add_assoc, Int.pow_add]; rfl
   have hpw2 : (2 : Int) ^ (32 * 1 + s) = 4294967296 * 2 ^ s := by rw [Int.pow_add]; rfl
   have hN : a1 + 4294967296 * (a2 + 4294967296 * (a3 + 4294967296 * (a4 + 4294967296 * (a5)))) = 2 ^ (s + 1) * w := by
    rw [hpw, Int.mul_assoc] at hw
    generalize 2 ^ (s + 1) * w = W at *
    omega
   have hz := modz _ _ _ hN
   refine ⟨a1, by rw [ea]; rfl, A1, hz, ?_⟩
   rw [ea, hpw2]
   show [a0, a1 + 2 ^ s, a2, a3, a4, a5] = _
   exact (dig_of (a := N + 4294967296 * 2 ^ s) ⟨A0, ⟨by omega, up a1 A1.1 A1.2 hz⟩, A2, A3, A4, A5⟩ (by rw [va]; omega)).symm
 · have hpw : (2 : Int) ^ (32 * 2 + s + 1) = 18446744073709551616 * 2 ^ (s + 1) := by rw [Nat.add_assoc, Int.pow_add]; rfl
   have hpw2 : (2 : Int) ^ (32 * 2 + s) = 18446744073709551616 * 2 ^ s := by rw [Int.pow_add]; rfl
   have hN : a2 + 4294967296 * (a3 + 4294967296 * (a4 + 4294967296 * (a5))) = 2 ^ (s + 1) * w := by
    rw [hpw, Int.mul_assoc] at hw
    generalize 2 ^ (s + 1) * w = W at *
    omega
   have hz := modz _ _ _ hN
   refine ⟨a2, by rw [ea]; rfl, A2, hz, ?_⟩
   rw [ea, hpw2]
   show [a0, a1, a2 + 2 ^ s, a3, a4, a5] = _
   exact (dig_of (a := N + 18446744073709551616 * 2 ^ s) ⟨A0, A1, ⟨by omega, up a2 A2.1 A2.2 hz⟩, A3, A4, A5⟩ (by rw [va]; omega)).symm
 · have hpw : (2 : Int) ^ (32 * 3 + s + 1) = 79228162514264337593543950336 * 2 ^ (s + 1) := by rw [Nat.add_assoc, Int.pow_add]; rfl
   have hpw2 : (2 : Int) ^ (32 * 3 + s) = 79228162514264337593543950336 * 2 ^ s := by rw [Int.pow_add]; rfl
   have hN : a3 + 4294967296 * (a4 + 4294967296 * (a5)) = 2 ^ (s + 1) * w := by
    rw [hpw, Int.mul_assoc] at hw
    generalize 2 ^ (s + 1) * w = W at *
    omega
   have hz := modz _ _ _ hN
   refine ⟨a3, by rw [ea]; rfl, A3, hz, ?_⟩
   rw [ea, hpw2]
   show [a0, a1, a2, a3 + 2 ^ s, a4, a5] = _
   exact (dig_of (a := N + 79228162514264337593543950336 * 2 ^ s) ⟨A0, A1, A2, ⟨by omega, up a3 A3.1 A3.2 hz⟩, A4, A5⟩ (by rw [va]; omega)).symm
 · have hpw : (2 : Int) ^ (32 * 4 + s + 1) = 340282366920938463463374607431768211456 * 2 ^ (s + 1) := by rw [Nat.add_assoc, Int.pow_add]; rfl
   have hpw2 : (2 : Int) ^ (32 * 4 + s) = 340282366920938463463374607431768211456 * 2 ^ s := by rw [Int.pow_add]; rfl
   have hN : a4 + 4294967296 * (a5) = 2 ^ (s + 1) * w := by
    rw [hpw, Int.mul_assoc] at hw
    generalize 2 ^ (s + 1) * w = W at *
    omega
   have hz := modz _ _ _ hN
   refine ⟨a4, by rw [ea]; rfl, A4, hz, ?_⟩
   rw [ea, hpw2]
   show [a0, a1, a2, a3, a4 + 2 ^ s, a5] = _
   exact (dig_of (a := N + 340282366920938463463374607431768211456 * 2 ^ s) ⟨A0, A1, A2, A3, ⟨by omega, up a4 A4.1 A4.2 hz⟩, A5⟩ (by rw [va]; omega)).symm
 · have hpw : (2 : Int) ^ (32 * 5 + s + 1) = 1461501637330902918203684832716283019655932542976 * 2 ^ (s + 1) := by rw [Nat.add_assoc, Int.pow_add]; rfl
   have hpw2 : (2 : Int) ^ (32 * 5 + s) = 1461501637330902918203684832716283019655932542976 * 2 ^ s := by rw [Int.pow_add]; rfl
   have hN : a5 + 4294967296 * (0) = 2 ^ (s + 1) * w := by
    rw [hpw, Int.mul_assoc] at hw
    generalize 2 ^ (s + 1) * w = W at *
    omega
   have hz := modz _ _ _ hN
   refine ⟨a5, by rw [ea]; rfl, A5, hz, ?_⟩
   rw [ea, hpw2]
   show [a0, a1, a2, a3, a4, a5 + 2 ^ s] = _
   exact (dig_of (a := N + 1461501637330902918203684832716283019655932542976 * 2 ^ s) ⟨A0, A1, A2, A3, A4, ⟨by omega, up a5 A5.1 A5.2 hz⟩⟩ (by rw [va]; omega)).symm
end Go.Proofs.YtimgphlfaninnaaGreat.Civ
namespace Go.Proofs.YtimgphlfaninnaaGreat.P
open Go.RowKit Go.Proofs.YtimgphlfaninnaaGreatW.PrintWords Go.Proofs.YtimgphlfaninnaaGreatW.PrintLast Go.Proofs.YtimgphlfaninnaaGreatW.PrintMore
set_option linter.unusedVariables false
set_option linter.unusedSimpArgs false
open A
theorem wd_digval {l : List Int} (h : wdOk l = true) : wdDig (wdVal l) = l := by
 obtain ⟨x0, x1, x2, x3, x4, x5, rfl, _⟩ := wd_six h
 unfold wdDig wdVal
 simp only [List.cons.injEq, and_true]
 refine ⟨by omega, by omega, by omega, by omega, by omega, by omega⟩
theorem dv_math {a b Q R : Int} {n : Nat} (hn : n < 192) (ha : 0 ≤ a) (ha1 : a < 6277101735386680763835789423207666416102355444464034512896) (hb : 0 < b) (hb1 : b ≤ 3138550867693340381917894711603833208051177722232017256448) (hQ : 0 ≤ Q) (hR : 0 ≤ R) (hRb : R < b) (he : a / 2 ^ (n + 1) = b * Q + R)
 {K : List Int → List Int → Prop} (hK : ∀ Q' R', 0 ≤ Q' → 0 ≤ R' → R' < b → a / 2 ^ n = b * Q' + R' → K (wdDig (Q' * 2 ^ n)) (wdDig R')) : dvVC (wdDig a) (wdDig b) (wdDig (Q * 2 ^ (n + 1))) (wdDig R) n K := by
 have hpn := Civ.pow_pos' n
 have hp1 := Civ.pow_pos' (n + 1)
 have hs1 : (2 : Int) ^ (n + 1) = 2 ^ n * 2 := Int.pow_succ _ _
 have hbit : a / 2 ^ n = 2 * (a / 2 ^ (n + 1)) + a / 2 ^ n % 2 := by
  have e : a / 2 ^ (n + 1) = a / 2 ^ n / 2 := by rw [hs1, Int.ediv_ediv_of_nonneg (by omega)]
  rw [e]; omega
 obtain ⟨u, hu, ub, hub⟩ := Civ.rd_bit a n (by omega)
 obtain ⟨c, hc⟩ : ∃ c, a / 2 ^ n % 2 = c := ⟨_, rfl⟩
 have hc01 : 0 ≤ c ∧ c ≤ 1 := by omega
 rw [hc] at hbit hub
 have hQ1 : Q * 2 ^ (n + 1) < 6277101735386680763835789423207666416102355444464034512896 := by
  have e := Int.mul_ediv_add_emod a (2 ^ (n + 1))
  have g := Int.emod_nonneg a (Int.ne_of_gt hp1)
  have h1 : Q ≤ b * Q := by
   have := Int.mul_le_mul_of_nonneg_right (show (1 : Int) ≤ b by omega) hQ
   omega
  have h2 : Q ≤ a / 2 ^ (n + 1) := by omega
  have h3 := Int.mul_le_mul_of_nonneg_left h2 (show (0 : Int) ≤ 2 ^ (n + 1) by omega)
  rw [Int.mul_comm Q]; omega
 have hQ0 : 0 ≤ Q * 2 ^ (n + 1) := Int.mul_nonneg hQ (by omega)
 obtain ⟨v, hv, vb, vm, vset⟩ := Civ.set_bit (Q * 2 ^ (n + 1)) n (by omega) hQ0 hQ1 (Int.mul_emod_left _ _)
 have hidx : ((n : Int) / 32).toNat = n / 32 := by omega
 have hn32 : n % 32 < 32 := Nat.mod_lt _ (by omega)
 have hps := Civ.pow_pos' (n % 32)
 have hshl : IntKind.wrap .u64 (1 * 2 ^ (n % 32)) = 2 ^ (n % 32) := by
  rw [Int.one_mul, Civ.u64w]
  · omega
  · have : (2 : Int) ^ (n % 32) ≤ 2 ^ 31 := by exact_mod_cast Nat.pow_le_pow_right (by decide) (show n % 32 ≤ 31 by omega)
    omega
 have hand : Go.bits .and .u64 (u / 2 ^ (n % 32)) 1 = c := by
  have h1 := Int.ediv_le_self (2 ^ (n % 32)) ub.1
  have h0 := Int.ediv_nonneg ub.1 (b := 2 ^ (n % 32)) (by omega)
  rw [show (1 : Int) = 2 ^ 1 - 1 from rfl, bits_mask .u64 64 (by decide) Civ.wraps_u64 1 (by decide) _ h0 (by omega), ← hub]; rfl
 have hu' : (wdDig a).getD (n / 32) 0 = u := by rw [← hidx]; exact hu
 have hv' : (wdDig (Q * 2 ^ (n + 1))).getD (n / 32) 0 = v := by rw [← hidx]; exact hv
 have hbc : dvBit (wdDig a) n = c := by unfold dvBit; rw [hu', Int.fdiv_eq_ediv_of_nonneg _ (by omega)]; exact hand
 have hRr : 2 * R + c < 6277101735386680763835789423207666416102355444464034512896 := by omega
 have hset : dvSet (wdDig a) (wdDig (R + R)) n = wdDig (2 * R + c) := by
  unfold dvSet
  rw [hbc]
  obtain ⟨a0, a1, a2, a3, a4, a5, ea, ⟨A0, A1, A2, A3, A4, A5⟩, va⟩ := Civ.dig_form (a := R + R) (by omega) (by omega)
  have ea : wdDig (R + R) = [a0, a1, a2, a3, a4, a5] := ea
  rw [ea]
  show [Go.bits .or .u64 a0 c, a1, a2, a3, a4, a5] = _
  rw [Civ.orj 1 (by omega) A0.1 (by show a0 % 2 = 0; omega) (by omega) hc01.1 (by show c < 2; omega)]
  exact (Civ.dig_of (a := 2 * R + c) ⟨by omega, A1, A2, A3, A4, A5⟩ (by omega)).symm
 have hq : dvQ (wdDig (Q * 2 ^ (n + 1))) n = wdDig (Q * 2 ^ (n + 1) + 2 ^ n) := by
  unfold dvQ
  rw [hv', hshl, Civ.orj (n % 32 + 1) (by omega) vb.1 vm (by omega) (by omega) (by rw [Int.pow_succ]; omega), ← hidx]
  exact vset
 have vR : wdVal (wdDig R) = R := wd_val (by omega)
 have vT : wdVal (wdDig (2 * R + c)) = 2 * R + c := wd_val (by omega)
 have vB : wdVal (wdDig b) = b := wd_val (by omega)
 unfold dvVC
 rw [vR]
 refine wdR_ok (by rw [wd_okd]; rfl) ?_
 rw [hset, vT, vB]
 refine wd_brc (by rw [wd_okd, wd_okd]; rfl) ?_
 rintro _ rfl
 by_cases hg : b ≤ 2 * R + c
 · refine wd_brc (decide_eq_true (wdSgn_ge.2 hg)) (wdR_ok (by rw [wd_okd, wd_okd]; rfl) ?_)
   have e : Q * 2 ^ (n + 1) + 2 ^ n = (2 * Q + 1) * 2 ^ n := by rw [hs1, Int.add_mul, Int.one_mul, Int.mul_comm 2 Q, Int.mul_assoc, Int.mul_comm 2]
   rw [hq, e]
   refine hK (2 * Q + 1) (2 * R + c - b) (by omega) (by omega) (by omega) ?_
   have em : b * (2 * Q + 1) = 2 * (b * Q) + b := by rw [Int.mul_add, Int.mul_one, Int.mul_left_comm]
   rw [hbit, he, em]; omega
 · refine wd_brn (decide_eq_false fun k => hg (wdSgn_ge.1 k)) ?_
   have e : Q * 2 ^ (n + 1) = (2 * Q) * 2 ^ n := by rw [hs1, Int.mul_comm 2 Q, Int.mul_assoc, Int.mul_comm 2]
   rw [e]
   refine hK (2 * Q) (2 * R + c) (by omega) (by omega) (by omega) ?_
   have em : b * (2 * Q) = 2 * (b * Q) := Int.mul_left_comm _ _ _
   rw [hbit, he, em]; omega
abbrev DvIx := Option (Nat × (List Int × List Int))
def dvHx (s t : Bool) (l m : List Int) : DvIx → St
 | none => dvH0 s t l m
 | some (j, q, r) => dvH s t l m q r ((j : Int) - 1)
def dvMu : DvIx → Nat
 | none => 300
 | some (j, _, _) => j
def DvInv (a b : Int) : DvIx → Prop
 | none => True
 | some (j, q, r) => j ≤ 191 ∧ ∃ Q R, q = wdDig (Q * 2 ^ j) ∧ r = wdDig R ∧ 0 ≤ Q ∧ 0 ≤ R ∧ R < b ∧ a / 2 ^ j = b * Q + R
def dvG (s t : Bool) (l m : List Int) (x : DvIx) (K : Ex → St → Prop) : Prop := DvInv (wdVal l) (wdVal m) x ∧ K (.exit 0) (dvX s t l m (wdDig (wdVal l / wdVal m)) (wdDig (wdVal l % wdVal m)))
attribute [local irreducible] aroundN
theorem dv_hround (s t : Bool) {l m : List Int} (hl : wdOk l = true) (hm : wdOk m = true) (h0 : 0 < wdVal m) (h1 : wdVal m ≤ 3138550867693340381917894711603833208051177722232017256448) (x : DvIx) (K : Ex → St → Prop) (hG : dvG s t l m x K) : aroundN PA Tryz.prog wdT noLoops 6 (loopOf Tryz.prog 146 0) (dvHx s t l m x) (fun st' => again (dvHx s t l m) dvMu (dvG s t l m) x K (canon dvCS st')) (fun e st' => left K e (canon dvCSX st')) := by
 have el := wd_digval hl
 have em := wd_digval hm
 have pl := wdVal_pos hl
 obtain ⟨a0, a1, a2, a3, a4, a5, rfl, _⟩ := wd_six hl
 obtain ⟨b0, b1, b2, b3, b4, b5, rfl, _⟩ := wd_six hm
 obtain ⟨hi, hq⟩ := hG
 cases x with
 | none =>
  refine Eq.mpr (dv_first s t a0 a1 a2 a3 a4 a5 b0 b1 b2 b3 b4 b5 _ (left K)) ?_
  have k := dv_math (a := wdVal [a0, a1, a2, a3, a4, a5]) (b := wdVal [b0, b1, b2, b3, b4, b5]) (Q := 0) (R := 0) (n := 191) (by omega) pl.1 pl.2 h0 h1 (by omega) (by omega) h0
   (by rw [Int.mul_zero, Int.add_zero]; exact Int.ediv_eq_zero_of_lt pl.1 pl.2)
   (K := fun q r => again (dvHx s t [a0, a1, a2, a3, a4, a5] [b0, b1, b2, b3, b4, b5]) dvMu (dvG s t [a0, a1, a2, a3, a4, a5] [b0, b1, b2, b3, b4, b5]) none K (some (dvH s t [a0, a1, a2, a3, a4, a5] [b0, b1, b2, b3, b4, b5] q r 190)))
   fun Q' R' g1 g2 g3 g4 => ⟨some (191, _, _), by show 191 < 300; omega, ⟨⟨by omega, Q', R', rfl, rfl, g1, g2, g3, g4⟩, hq⟩, rfl⟩
  rw [el, em, Int.zero_mul] at k
  exact k
 | some p =>
  obtain ⟨j, q, r⟩ := p
  obtain ⟨hj, Q, R, rfl, rfl, g1, g2, g3, g4⟩ := hi
  cases j with
  | zero =>
   refine Eq.mpr (dv_last s t a0 a1 a2 a3 a4 a5 b0 b1 b2 b3 b4 b5 _ _ _ _ _ _ _ _ _ _ _ _ _ (left K)) ?_
   rw [Int.pow_zero, Int.ediv_one] at g4
   have e1 : wdVal [a0, a1, a2, a3, a4, a5] / wdVal [b0, b1, b2, b3, b4, b5] = Q * 2 ^ 0 := by
    rw [g4, Int.pow_zero, Int.mul_one, Int.mul_comm, Int.add_comm, Int.add_mul_ediv_right _ _ (by omega), Int.ediv_eq_zero_of_lt g2 g3, Int.zero_add]
   have e2 : wdVal [a0, a1, a2, a3, a4, a5] % wdVal [b0, b1, b2, b3, b4, b5] = R := by
    rw [g4, Int.add_comm, Int.add_mul_emod_self_left, Int.emod_eq_of_lt g2 g3]
   rw [e1, e2] at hq
   exact ⟨_, rfl, hq⟩
  | succ i =>
   have hx : dvHx s t [a0, a1, a2, a3, a4, a5] [b0, b1, b2, b3, b4, b5] (some (i + 1, wdDig (Q * 2 ^ (i + 1)), wdDig R)) = dvH s t [a0, a1, a2, a3, a4, a5] [b0, b1, b2, b3, b4, b5] (wdDig (Q * 2 ^ (i + 1))) (wdDig R) i := by
    unfold dvHx
    simp only
    rw [show ((i + 1 : Nat) : Int) - 1 = (i : Int) by omega]
   rw [hx]
   refine Eq.mpr (dv_round s t a0 a1 a2 a3 a4 a5 b0 b1 b2 b3 b4 b5 _ _ _ _ _ _ _ _ _ _ _ _ _ (left K) i (by omega)) ?_
   have k := dv_math (a := wdVal [a0, a1, a2, a3, a4, a5]) (b := wdVal [b0, b1, b2, b3, b4, b5]) (n := i) (by omega) pl.1 pl.2 h0 h1 g1 g2 g3 g4
    (K := fun q r => again (dvHx s t [a0, a1, a2, a3, a4, a5] [b0, b1, b2, b3, b4, b5]) dvMu (dvG s t [a0, a1, a2, a3, a4, a5] [b0, b1, b2, b3, b4, b5]) (some (i + 1, wdDig (Q * 2 ^ (i + 1)), wdDig R)) K (some (dvH s t [a0, a1, a2, a3, a4, a5] [b0, b1, b2, b3, b4, b5] q r ((i : Int) - 1))))
    fun Q' R' g1 g2 g3 g4 => ⟨some (i, _, _), by show i < i + 1; omega, ⟨⟨by omega, Q', R', rfl, rfl, g1, g2, g3, g4⟩, hq⟩, rfl⟩
   rw [el, em] at k
   exact k
theorem dv_lc (s t : Bool) {l m : List Int} (hl : wdOk l = true) (hm : wdOk m = true) (h0 : 0 < wdVal m) (h1 : wdVal m ≤ 3138550867693340381917894711603833208051177722232017256448) : LcOk Tryz.prog (loopOf Tryz.prog 146 0) (lcOf dvCS (dvHx s t l m) (dvG s t l m) none) :=
 lc_ok (T := wdT) mixed wdT_ok (LT := noLoops) (n := 6) (noLoops_in dv_noloops) (c := dvCS) (cX := dvCSX) rfl (dv_hround s t hl hm h0 h1) none
def dvLT (s t : Bool) (l m : List Int) : LTab Prop := fun k => if k = 5 then some (lcOf dvCS (dvHx s t l m) (dvG s t l m) none) else none
theorem dvLT_ok (s t : Bool) {l m : List Int} (hl : wdOk l = true) (hm : wdOk m = true) (h0 : 0 < wdVal m) (h1 : wdVal m ≤ 3138550867693340381917894711603833208051177722232017256448) : LtOk Tryz.prog 146 (dvLT s t l m) := lt_of loops_dv (dv_lc s t hl hm h0 h1)
end Go.Proofs.YtimgphlfaninnaaGreat.P
namespace Go.Proofs.YtimgphlfaninnaaGreat.P
open Go Go.RowKit Go.Proofs.YtimgphlfaninnaaGreatW.PrintWords Go.Proofs.YtimgphlfaninnaaGreatW.PrintLast Go.Proofs.YtimgphlfaninnaaGreatW.PrintMore
set_option linter.unusedVariables false
set_option linter.unusedSimpArgs false
open A
noncomputable def inlL (g0 : FuncId) (LT : LTab Prop) (T : Tab) (n : Nat) : Inl Prop := fun o e h K =>
 match callOf Tryz.prog o e with
 | some (g, args) => if g = g0 then (match Tryz.prog.funcs[g0]? with
  | some fn => bodyA PA Tryz.prog T LT (alp PA Tryz.prog T (noRf PA) n) (ainl PA Tryz.prog T n) (noRf PA) fn args h K
  | none => False) else ainl PA Tryz.prog T n o e h K
 | none => ainl PA Tryz.prog T n o e h K
theorem inlL_ok {T : Tab} (hT : TabOk Tryz.prog T) {g0 : FuncId} {LT : LTab Prop} (hLT : LtOk Tryz.prog g0 LT) (hn : ∀ fn, Tryz.prog.funcs[g0]? = some fn → (fn.name == "runtime.NumGoroutine") = false) (n : Nat) : InlOk Tryz.prog (inlL g0 LT T n) := by
 intro o e h Kx hq ρ W w a hR he K Q hK r dp
 have base : ainl PA Tryz.prog T n o e h Kx → o.wpIn (FR r) dp Tryz.prog a w K Q := fun h1 => (all_ok mixed hT n).2.1 o e h Kx h1 ρ W w a hR he K Q hK r dp
 unfold inlL at hq
 split at hq
 case h_2 => exact base hq
 rename_i g args hta
 split at hq
 case isFalse => exact base hq
 rename_i hg
 subst hg
 split at hq
 case h_2 => exact hq.elim
 rename_i fn hf
 obtain ⟨c, hc, hta⟩ := callOf_ok hta
 obtain ⟨A, hA, hrun⟩ := target_ok (P := Tryz.prog) he hta o.type
 have hcalls := body_ok hf (fun c hcb => codeA_ok mixed hT ((all_ok mixed hT n).1 none _ (noRf_ok Tryz.prog _)) (all_ok mixed hT n).2.1 (noRf_ok Tryz.prog _) c (hLT fn c hf hcb)) hA hR hq
 refine wpIn_of_wp (fun c' e' => by rw [hc] at e'; cases e') (wp_gives (R := fun V w' => ∃ ρ' v h', Ext ρ ρ' ∧ RV ρ' W v V ∧ Rel ρ' W h' w' ∧ Kx v h') (.inl ⟨zM hf (bodyA_some hq) (hn fn hf) _ _, hcalls.mono fun e w' he => he⟩) (by simp only [execOp, hc]; exact hrun w) fun V w' hVw => ?_)
 obtain ⟨ρ', v, h', g1, g2, g3, g4⟩ := hVw
 exact hK ρ' V w' v h' g1 g2 g3 g4
noncomputable def wdTO : Tab := tab [(133, wdAdd), (135, wdLess), (134, wdCmp), (136, wdZero), (98, wdOf)]
theorem wdTO_ok : TabOk Tryz.prog wdTO := kD wdAdd_ok (kD wdLess_ok (kD wdCmp_ok (kD wdZero_ok (kD wdOf_ok bE))))
@[irreducible] def wdPD (LT : LTab Prop) (args : List AV) (K : AV → Prop) : Prop :=
 match Tryz.prog.funcs[110]? with
 | some fn => bodyA PA Tryz.prog wdTO noLoops (alp PA Tryz.prog wdTO (noRf PA) 10) (inlL 146 LT wdTO 10) (noRf PA) fn args [] fun u h => nuK h u K
 | none => False
theorem wdPD_gives {LT : LTab Prop} (hLT : LtOk Tryz.prog 146 LT) {args : List AV} {v : AV} (hv : v.okN 4 = true) (h2 : wdPD LT args fun u => u = v) {w : World} {A : List Value} (hA : RL noNames w args A) : Gives Tryz.prog 110 A.toArray w fun V w' => (RV noNames w' v V ∧ Below w.heap.size w w') ∧ Fr w.heap.size 4 v V := by
 unfold wdPD at h2
 rw [Tryz.func110] at h2
 have hi := inlL_ok wdTO_ok hLT (fun fn hf => by rw [Tryz.func146] at hf; cases hf; kernel_rfl) 10
 have h3 := body_ok (g := 110) Tryz.func110 (fun c _ => codeA_ok0 mixed wdTO_ok ((all_ok mixed wdTO_ok 10).1 none _ (noRf_ok Tryz.prog _)) hi (noRf_ok Tryz.prog _) c) hA (Rel.start w) h2
 refine .inl ⟨zM Tryz.func110 (by kernel_rfl) (by kernel_rfl) _ _, h3.mono fun e w' he => ?_⟩
 obtain ⟨V, g1, ρ', u, h', _, g2, g3, g4⟩ := he
 obtain ⟨c1, g5⟩ := brc_false.1 g4
 obtain ⟨k1, k2⟩ := toNu_ok g3 4 g2 (by rw [g5]; exact hv) c1
 rw [g5] at k1 k2
 exact ⟨V, g1, ⟨k1, g3.bel⟩, k2⟩
def ovEnd (b : Bool) (q : List Int) (K : AV → Prop) : Prop := brc b (brc (wdOk q) (∀ z : Bool, z = decide (wdVal q = 0) → K (.agg [.bool (!z), wdRow q])) False) (K (.agg [.bool false, wdRow q]))
set_option maxRecDepth 100000 in
theorem wdOver_vc (s t : Bool) (x0 x1 x2 x3 x4 x5 y0 y1 y2 y3 y4 y5 : Int) (K : AV → Prop) : wdPD (dvLT s t [x0, x1, x2, x3, x4, x5] [y0, y1, y2, y3, y4, y5]) [wdArgW s [x0, x1, x2, x3, x4, x5], wdArgW t [y0, y1, y2, y3, y4, y5]] K =
 (isH (some (dvH0 s t [x0, x1, x2, x3, x4, x5] [y0, y1, y2, y3, y4, y5])) (dvH0 s t [x0, x1, x2, x3, x4, x5] [y0, y1, y2, y3, y4, y5]) ∧ (True ∧
  brc (!s == t) (brc (wdOk (wdDig (wdVal [x0, x1, x2, x3, x4, x5] % wdVal [y0, y1, y2, y3, y4, y5]))) (∀ z : Bool, z = decide (wdVal (wdDig (wdVal [x0, x1, x2, x3, x4, x5] % wdVal [y0, y1, y2, y3, y4, y5])) = 0) →
   brc (!z) (wdQ (wdIn 1) 1 fun u o => wdR (wdOk (wdDig (wdVal [x0, x1, x2, x3, x4, x5] / wdVal [y0, y1, y2, y3, y4, y5])) && wdOk o) (wdVal (wdDig (wdVal [x0, x1, x2, x3, x4, x5] / wdVal [y0, y1, y2, y3, y4, y5])) + wdVal o) fun q' => ovEnd (!s == t) q' K)
    (ovEnd (!s == t) (wdDig (wdVal [x0, x1, x2, x3, x4, x5] / wdVal [y0, y1, y2, y3, y4, y5])) K)) False) (ovEnd (!s == t) (wdDig (wdVal [x0, x1, x2, x3, x4, x5] / wdVal [y0, y1, y2, y3, y4, y5])) K))) := by kernel_rfl
theorem neg_fl {a b : Int} (hb : 0 < b) : (-a) / b = if a % b = 0 then -(a / b) else -(a / b + 1) := by
 have e := Int.mul_ediv_add_emod a b
 have h0 := Int.emod_nonneg a (Int.ne_of_gt hb)
 have h1 := Int.emod_lt_of_pos a hb
 split
 · rename_i h
   have k : (-a) / b = -(a / b) ∧ (-a) % b = 0 := (Int.ediv_emod_unique hb).2 ⟨by rw [Int.mul_neg]; omega, by omega, hb⟩
   exact k.1
 · rename_i h
   have k : (-a) / b = -(a / b + 1) ∧ (-a) % b = b - a % b := (Int.ediv_emod_unique hb).2 ⟨by rw [Int.mul_neg, Int.mul_add, Int.mul_one]; omega, by omega, by omega⟩
   exact k.1
theorem ovEnd_ok {b : Bool} {n v : Int} (hn : 0 ≤ n) (hn1 : n < 6277101735386680763835789423207666416102355444464034512896) (hv : v = if b = true then -n else n) : ovEnd b (wdDig n) fun u => u = wdW v := by
 subst hv
 unfold ovEnd
 cases b
 · exact wd_brn rfl (wdW_eq (by rw [if_neg (by decide)]; exact (decide_eq_false (by omega)).symm) (by rw [if_neg (by decide)]; unfold wdAb; rw [if_neg (by omega)]))
 · refine wd_brc rfl (wd_brc (wd_okd n) ?_)
   rintro _ rfl
   rw [wd_val ⟨hn, hn1⟩, if_pos rfl]
   refine wdW_eq ?_ ?_
   · by_cases h : n = 0
     · subst h; rfl
     · rw [decide_eq_false h, decide_eq_true (by omega)]; rfl
   · unfold wdAb
     split <;> omega
theorem wdOver_ok : COk Tryz.prog 110 wdOver := by
 intro args p v hc hp w A hA
 unfold wdOver wd2W at hc
 split at hc
 case h_2 => cases hc
 split at hc
 case isFalse => cases hc
 rename_i s _ _ _ t _ _ _ hs
 obtain ⟨rfl, rfl, rfl, rfl⟩ := hs
 split at hc
 case h_2 => cases hc
 rename_i l m hl0 hl1
 simp only [kG, kL, kV, kN] at hA
 obtain ⟨_, _, rfl, ⟨_, rfl, _, _, rfl, rfl, V0, _, rfl, hV0, rfl⟩, _, _, rfl, ⟨_, rfl, _, _, rfl, rfl, V1, _, rfl, hV1, rfl⟩, rfl⟩ := hA
 simp only [Option.some.injEq, Prod.mk.injEq] at hc
 obtain ⟨rfl, rfl⟩ := hc
 unfold wdOverC wdPlusC at hp
 obtain ⟨hp, hq⟩ := wd_and hp
 obtain ⟨hq, hz⟩ := wd_and hq
 obtain ⟨hx, hy⟩ := wd_and hq
 obtain ⟨ho, hn⟩ := wd_and hp
 obtain ⟨o0, o1⟩ := wd_and ho
 have pl := wdVal_pos o0
 have pm := wdVal_pos o1
 have hy := of_decide_eq_true hy
 have hz : ¬ wdMean t m = 0 := by simpa using hz
 have b0 : 0 < wdVal m := by unfold wdMean at hz; split at hz <;> omega
 have b1 : wdVal m ≤ 3138550867693340381917894711603833208051177722232017256448 := by unfold wdMean at hy; split at hy <;> omega
 refine wdPD_gives (dvLT_ok s t o0 o1 b0 b1) rfl ?_ (.cons (.agg (.cons (.bool _) (.cons (wd_canon hV0 hl0) .nil))) (.cons (.agg (.cons (.bool _) (.cons (wd_canon hV1 hl1) .nil))) .nil))
 have f0 : 0 ≤ wdVal l / wdVal m := Int.ediv_nonneg pl.1 (by omega)
 have f1 : wdVal l / wdVal m ≤ wdVal l := Int.ediv_le_self _ pl.1
 have r0 := Int.emod_nonneg (wdVal l) (Int.ne_of_gt b0)
 have r1 := Int.emod_lt_of_pos (wdVal l) b0
 have fl : wdFl (wdMean s l) (wdMean t m) = if (!s == t) = true then (-wdVal l) / wdVal m else wdVal l / wdVal m := by
  unfold wdFl wdMean
  cases s <;> cases t <;> simp <;> omega
 rw [fl, neg_fl b0]
 have hmod : wdVal l % wdVal m = wdVal l → wdVal l / wdVal m = 0 := fun h => by
  have e := Int.mul_ediv_add_emod (wdVal l) (wdVal m)
  have e : wdVal m * (wdVal l / wdVal m) = 0 := by omega
  rcases Int.mul_eq_zero.1 e with g | g <;> omega
 have q1 : wdVal l % wdVal m ≠ 0 → wdVal l / wdVal m + 1 < 6277101735386680763835789423207666416102355444464034512896 := fun h => by
  have e := Int.mul_ediv_add_emod (wdVal l) (wdVal m)
  have : wdVal l / wdVal m ≤ wdVal m * (wdVal l / wdVal m) := by
   have := Int.mul_le_mul_of_nonneg_right (show (1 : Int) ≤ wdVal m by omega) f0
   omega
  omega
 have vq : wdVal (wdDig (wdVal l / wdVal m)) = wdVal l / wdVal m := wd_val (by omega)
 have vr : wdVal (wdDig (wdVal l % wdVal m)) = wdVal l % wdVal m := wd_val (by omega)
 obtain ⟨x0, x1, x2, x3, x4, x5, rfl, _⟩ := wd_six o0
 obtain ⟨y0, y1, y2, y3, y4, y5, rfl, _⟩ := wd_six o1
 show wdPD _ [wdArgW s [x0, x1, x2, x3, x4, x5], wdArgW t [y0, y1, y2, y3, y4, y5]] _
 rw [wdOver_vc]
 generalize wdVal [x0, x1, x2, x3, x4, x5] = a at *
 generalize wdVal [y0, y1, y2, y3, y4, y5] = b at *
 refine ⟨rfl, trivial, ?_⟩
 rw [vr, vq]
 cases hst : (!s == t)
 · exact wd_brn rfl (ovEnd_ok f0 (by omega) (by simp))
 · refine wd_brc rfl (wd_brc (wd_okd _) ?_)
   rintro _ rfl
   by_cases h : a % b = 0
   · refine wd_brn (by simp [h]) (ovEnd_ok f0 (by omega) (by simp [h]))
   · refine wd_brc (by simp [h]) (wdQ_ok (by decide) (wdR_ok (by rw [wd_okd, wd_okd]; rfl) ?_))
     have e : wdVal (wdDig (wdAb 1)) = 1 := by decide
     rw [e]
     exact ovEnd_ok (by omega) (q1 h) (by simp [h])
end Go.Proofs.YtimgphlfaninnaaGreat.P
namespace Go.Proofs.YtimgphlfaninnaaGreat.Civ
set_option linter.unusedVariables false
set_option linter.unusedSimpArgs false
open Go.RowKit Go.Proofs.YtimgphlfaninnaaGreatW.PrintWords Go.Proofs.YtimgphlfaninnaaGreatW.PrintLast Go.Proofs.YtimgphlfaninnaaGreatW.PrintMore Go.Proofs.YtimgphlfaninnaaGreat.P
def Half (x : Int) : Prop := -3138550867693340381917894711603833208051177722232017256448 ≤ x ∧ x ≤ 3138550867693340381917894711603833208051177722232017256448
theorem ab_half {x : Int} (h : Half x) : 0 ≤ ab x ∧ ab x ≤ 3138550867693340381917894711603833208051177722232017256448 := by unfold Half at h; unfold ab; split <;> omega
theorem i64_word {a : Int} (ha : I64 a) : -18446744073709551615 ≤ a ∧ a ≤ 18446744073709551615 := by unfold I64 at ha; omega
theorem fl_signs1 {x y : Int} (hy : y ≠ 0) : fl x y = if (ng x != ng y) = true then (if ab x % ab y = 0 then -(ab x / ab y) else -(ab x / ab y) - 1) else ab x / ab y := by
 have h := fl_signs (a := x) (b := 1) (c := y) rfl rfl hy
 rw [Int.mul_one, ab_pos (a := 1) (by omega), Int.mul_one] at h
 rw [h]
 have e : (((decide (x < 0)) != (decide ((1 : Int) < 0))) != (decide (y < 0))) = (ng x != ng y) := by
  unfold ng; rw [show decide ((1 : Int) < 0) = false from rfl]; cases decide (x < 0) <;> cases decide (y < 0) <;> rfl
 rw [e]
theorem fl_half {x y : Int} (hx : Half x) (h0 : y ≠ 0) : Half (fl x y) := by
 have bx := ab_half hx
 have hD : 0 < ab y := by have := ab_zero (x := y); unfold ab at *; split at * <;> omega
 have hq0 : 0 ≤ ab x / ab y := Int.ediv_nonneg bx.1 (by omega)
 have hq1 : ab x / ab y ≤ ab x := Int.ediv_le_self _ bx.1
 rw [fl_signs1 h0]
 split
 · split
   · unfold Half; omega
   · rename_i z
     have e := Int.mul_ediv_add_emod (ab x) (ab y)
     have hr0 := Int.emod_nonneg (ab x) (Int.ne_of_gt hD)
     have hr1 := Int.emod_lt_of_pos (ab x) hD
     have h3 : ab x / ab y ≤ ab y * (ab x / ab y) := by
      have := Int.mul_le_mul_of_nonneg_right (show (1 : Int) ≤ ab y by omega) hq0
      omega
     unfold Half; omega
 · unfold Half; omega
theorem fl_word {a b : Int} (ha : I64 a) (h0 : b ≠ 0) : -18446744073709551615 ≤ fl a b ∧ fl a b ≤ 18446744073709551615 := by
 rcases fl_bd ha h0 with h | ⟨h1, h2⟩
 · exact i64_word h
 · subst h1; subst h2
   have : fl (-9223372036854775808) (-1) = 9223372036854775808 := by decide
   rw [this]; omega
theorem md_bd {a b : Int} (h0 : b ≠ 0) (hb : I64 b) : I64 (md a b) := by
 unfold I64 at *
 unfold md
 split
 · have g1 := Int.emod_nonneg (-a) (b := -b) (by omega)
   have g2 := Int.emod_lt_of_pos (-a) (b := -b) (by omega)
   omega
 · have g1 := Int.emod_nonneg a (b := b) (by omega)
   have g2 := Int.emod_lt_of_pos a (b := b) (by omega)
   omega
end Go.Proofs.YtimgphlfaninnaaGreat.Civ
namespace Go.Proofs.YtimgphlfaninnaaGreat.P
open Go.RowKit Go.Proofs.YtimgphlfaninnaaGreatW.PrintWords Go.Proofs.YtimgphlfaninnaaGreatW.PrintLast Go.Proofs.YtimgphlfaninnaaGreatW.PrintMore
set_option linter.unusedVariables false
set_option linter.unusedSimpArgs false
open A in
theorem wdU_ok : TabOk Tryz.prog wdU := kD wdOf_ok (kD wdPlus_ok (kD wdZero_ok (kD wdTimes_ok (kD wdOver_ok (kD wdSmall_ok bE)))))
open A in
theorem wd_calls2 {g : Nat} {a0 a1 r1 r2 : Int} {w : World} (hq : wdV wdU g [.int .i64 a0, .int .i64 a1] fun u => u = .tup [.int .i64 r1, .int .i64 r2]) :
 Calls Tryz.prog g #[.int .i64 a0, .int .i64 a1] w fun e w' => e = .returned (.tuple #[.int .i64 r1, .int .i64 r2]) ∧ Below w.heap.size w w' := by
 unfold wdV at hq
 have hA : RL noNames w [AV.int .i64 a0, AV.int .i64 a1] [.int .i64 a0, .int .i64 a1] := .cons (.int _ _) (.cons (.int _ _) .nil)
 have hV : ∀ ρ V', RV ρ w (AV.tup [.int .i64 r1, .int .i64 r2]) V' → V' = .tuple #[.int .i64 r1, .int .i64 r2] := fun ρ V' hV => by simpa [kG, kL, kM, bK] using hV
 refine bW (n := 10) (g := g) wdU_ok ?_ hA hV
 with_reducible exact hq
def Wd (v : Int) : Prop := -6277101735386680763835789423207666416102355444464034512896 < v ∧ v < 6277101735386680763835789423207666416102355444464034512896
theorem wd_in {a : Int} (h : wdIn a = true) : -9223372036854775808 ≤ a ∧ a ≤ 9223372036854775807 := of_decide_eq_true h
theorem wd_w {a : Int} (h : wdIn a = true) : Wd a := by have := wd_in h; unfold Wd; omega
theorem wd_mean {a : Int} (h : Wd a) : wdMean (decide (a < 0)) (wdDig (wdAb a)) = a := (wd_ab h).2.1
theorem wd_plus {a b : Int} (ha : Wd a) (hb : Wd b) : wdPlusC (decide (a < 0)) (wdDig (wdAb a)) (decide (b < 0)) (wdDig (wdAb b)) = true := by
 unfold wdPlusC
 rw [wd_okd, wd_okd, (wd_ab ha).2.2, (wd_ab hb).2.2]; rfl
theorem wd_over {a b : Int} (ha : wdHalf a = true) (hb : wdHalf b = true) (h0 : b ≠ 0) : wdOverC (decide (a < 0)) (wdDig (wdAb a)) (decide (b < 0)) (wdDig (wdAb b)) = true := by
 have h1 := of_decide_eq_true ha
 have h2 := of_decide_eq_true hb
 unfold wdOverC
 rw [wd_plus (by unfold Wd; omega) (by unfold Wd; omega), wd_mean (by unfold Wd; omega), wd_mean (by unfold Wd; omega), ha, hb, decide_eq_false h0]; rfl
theorem wd_times {a b : Int} (ha : -18446744073709551616 < a ∧ a < 18446744073709551616) (hb : -18446744073709551616 < b ∧ b < 18446744073709551616) : wdTimesC (decide (a < 0)) (wdDig (wdAb a)) (decide (b < 0)) (wdDig (wdAb b)) = true := by
 unfold wdTimesC
 rw [wd_okd, wd_okd, (wd_ab (v := a) (by omega)).1, (wd_ab (v := b) (by omega)).1, decide_eq_true (show wdAb a < 18446744073709551616 by unfold wdAb; split <;> omega), decide_eq_true (show wdAb b < 18446744073709551616 by unfold wdAb; split <;> omega)]; rfl
open A in
theorem wdS_ok {v : Int} {K : AV → Prop} (h : Wd v) (hK : K (.tup [.int .i64 (wdOut v).1, .int .i64 (wdOut v).2])) : wdS (decide (v < 0)) (wdDig (wdAb v)) K := by
 unfold wdS
 rw [wd_mean h]
 refine wd_brc (wd_okd _) ?_
 rintro _ rfl _ rfl
 exact hK
open A in
theorem wdM_ok {v : Int} {C : Bool → Prop} (h : Wd v) (hC : C (decide (-v < 0))) : wdM (decide (v < 0)) (wdDig (wdAb v)) C := by
 unfold wdM
 refine kB (fun g => wd_brc (wd_okd _) ?_) fun g => ?_
 · rintro _ rfl
   rw [(wd_ab h).1]
   have g : ¬ v < 0 := by simpa using g
   have e : (!decide (wdAb v = 0)) = decide (-v < 0) := by
    unfold wdAb; rw [if_neg g]
    by_cases z : v = 0
    · subst z; rfl
    · rw [decide_eq_false z, decide_eq_true (by omega)]; rfl
   rw [e]; exact hC
 · have g : v < 0 := by simpa using g
   rw [decide_eq_false (by omega)] at hC; exact hC
theorem wd_neg {v : Int} : wdAb v = wdAb (-v) := by unfold wdAb; split <;> split <;> omega
def wdRes (a b : Int) (r : Int × Int) : Option (Int × Int) := if wdIn a = true ∧ wdIn b = true then some r else none
open A in
theorem wdFAdd_calls {a b r1 r2 : Int} {w : World} (h : wdRes a b (wdOut (a + b)) = some (r1, r2)) : Calls Tryz.prog 90 #[.int .i64 a, .int .i64 b] w fun e w' => e = .returned (.tuple #[.int .i64 r1, .int .i64 r2]) ∧ Below w.heap.size w w' := by
 unfold wdRes at h
 split at h
 case isFalse => cases h
 rename_i hh
 obtain ⟨ha, hb⟩ := hh
 have := wd_in ha
 have := wd_in hb
 have e := Option.some.inj h
 refine wd_calls2 ?_
 rw [wdFAdd_vc]
 refine wdQ_ok ha (wdQ_ok hb (wdQ_ok (wd_plus (wd_w ha) (wd_w hb)) ?_))
 rw [wd_mean (wd_w ha), wd_mean (wd_w hb)]
 exact wdS_ok (by unfold Wd; omega) (by rw [e])
theorem wd_prod {a b : Int} (ha : -18446744073709551616 < a ∧ a < 18446744073709551616) (hb : -18446744073709551616 < b ∧ b < 18446744073709551616) : Wd (a * b) := by
 have h : (a * b).natAbs ≤ 18446744073709551615 * 18446744073709551615 := by rw [Int.natAbs_mul]; exact Nat.mul_le_mul (by omega) (by omega)
 unfold Wd; omega
open A in
theorem wdFMul_calls {a b r1 r2 : Int} {w : World} (h : wdRes a b (wdOut (a * b)) = some (r1, r2)) : Calls Tryz.prog 73 #[.int .i64 a, .int .i64 b] w fun e w' => e = .returned (.tuple #[.int .i64 r1, .int .i64 r2]) ∧ Below w.heap.size w w' := by
 unfold wdRes at h
 split at h
 case isFalse => cases h
 rename_i hh
 obtain ⟨ha, hb⟩ := hh
 have := wd_in ha
 have := wd_in hb
 have e := Option.some.inj h
 refine wd_calls2 ?_
 rw [wdFMul_vc]
 refine wdQ_ok ha (wdQ_ok hb (wdQ_ok (wd_times (by omega) (by omega)) ?_))
 rw [wd_mean (wd_w ha), wd_mean (wd_w hb)]
 exact wdS_ok (wd_prod (by omega) (by omega)) (by rw [e])
theorem wd_half {a : Int} (h : wdIn a = true) : wdHalf a = true := by have := wd_in h; exact decide_eq_true (by omega)
open A in
theorem wdFDiv_calls {a b r1 r2 : Int} {w : World} (h : (if b = 0 then some (0, 11) else wdRes a b (wdOut (wdFl a b))) = some (r1, r2)) : Calls Tryz.prog 70 #[.int .i64 a, .int .i64 b] w fun e w' => e = .returned (.tuple #[.int .i64 r1, .int .i64 r2]) ∧ Below w.heap.size w w' := by
 refine wd_calls2 ?_
 rw [wdFDiv_vc]
 split at h
 · rename_i h0
   refine wd_brc (by rw [h0]; rfl) ?_
   have e := Option.some.inj h
   simp only [Prod.mk.injEq] at e
   obtain ⟨rfl, rfl⟩ := e
   rfl
 rename_i h0
 refine wd_brn (by simpa using h0) ?_
 unfold wdRes at h
 split at h
 case isFalse => cases h
 rename_i hh
 obtain ⟨ha, hb⟩ := hh
 have e := Option.some.inj h
 refine wdQ_ok ha (wdQ_ok hb (wdQ_ok (wd_over (wd_half ha) (wd_half hb) h0) ?_))
 rw [wd_mean (wd_w ha), wd_mean (wd_w hb)]
 have : Civ.Half (wdFl a b) := Civ.fl_half (by have := wd_in ha; unfold Civ.Half; omega) h0
 exact wdS_ok (by unfold Civ.Half at this; unfold Wd; omega) (by rw [e])
def wdMd (a b : Int) : Int := if b < 0 then -((-a) % (-b)) else a % b
open A in
theorem wdFMod_calls {a b r1 r2 : Int} {w : World} (h : (if b = 0 then some (0, 11) else wdRes a b (wdMd a b, 0)) = some (r1, r2)) : Calls Tryz.prog 71 #[.int .i64 a, .int .i64 b] w fun e w' => e = .returned (.tuple #[.int .i64 r1, .int .i64 r2]) ∧ Below w.heap.size w w' := by
 refine wd_calls2 ?_
 rw [wdFMod_vc]
 split at h
 · rename_i h0
   refine wd_brc (by rw [h0]; rfl) ?_
   have e := Option.some.inj h
   simp only [Prod.mk.injEq] at e
   obtain ⟨rfl, rfl⟩ := e
   rfl
 rename_i h0
 refine wd_brn (by simpa using h0) ?_
 unfold wdRes at h
 split at h
 case isFalse => cases h
 rename_i hh
 obtain ⟨ha, hb⟩ := hh
 have i0 := wd_in ha
 have i1 := wd_in hb
 have e := Option.some.inj h
 have hf : -18446744073709551615 ≤ wdFl a b ∧ wdFl a b ≤ 18446744073709551615 := Civ.fl_word (wd_in ha) h0
 have hfm : a = b * wdFl a b + wdMd a b := Civ.fl_md a b
 have hmd : -9223372036854775808 ≤ wdMd a b ∧ wdMd a b ≤ 9223372036854775807 := Civ.md_bd (a := a) h0 (wd_in hb)
 have wf : Wd (wdFl a b) := by unfold Wd; omega
 have hp : Wd (b * wdFl a b) := wd_prod (by omega) (by omega)
 refine wdQ_ok ha (wdQ_ok hb (wdQ_ok ha (wdQ_ok hb (wdQ_ok (wd_over (wd_half ha) (wd_half hb) h0) ?_))))
 rw [wd_mean (wd_w ha), wd_mean (wd_w hb)]
 refine wdQ_ok (wd_times (by omega) (by omega)) ?_
 rw [wd_mean wf]
 refine wdM_ok hp ?_
 rw [wd_neg (v := b * wdFl a b)]
 have hn : Wd (-(b * wdFl a b)) := by unfold Wd at *; omega
 refine wdQ_ok (wd_plus (wd_w ha) hn) ?_
 rw [wd_mean hn, show a + -(b * wdFl a b) = wdMd a b by omega]
 exact wdS_ok (by unfold Wd; omega) (by rw [wdOut_in hmd, e])
end Go.Proofs.YtimgphlfaninnaaGreat.P
namespace Go.Proofs.YtimgphlfaninnaaGreat.P
open Go.RowKit Go.Proofs.YtimgphlfaninnaaGreatW.PrintWords Go.Proofs.YtimgphlfaninnaaGreatW.PrintLast Go.Proofs.YtimgphlfaninnaaGreatW.PrintMore
open Go.Proofs.YtimgphlfaninnaaGreat.A
 attribute [local go_sem] bR bQ jC jB bL bM bP bS
set_option linter.unusedVariables false
set_option linter.unusedSimpArgs false
def jT.f (k : Nat) (a0 : Int) (a1 : Int) : Option (Int × Int) := if a1 = 0 then some (0, 11) else wdRes a0 a1 (wdOut (wdFl a0 a1))
theorem jT.mono : ∀ a0 a1 k, LeO (jT.f k a0 a1) (jT.f (k + 1) a0 a1) := fun _ _ _ => LeO.refl _
theorem jT.calls (k : Nat) (a0 : Int) (a1 : Int) (r1 : Int) (r2 : Int) (w : World) (h : jT.f k a0 a1 = some (r1, r2)) :
 Calls Tryz.prog 70 #[.int .i64 a0, .int .i64 a1] w fun e w' => e = .returned (.tuple #[.int .i64 r1, .int .i64 r2]) ∧ Below w.heap.size w w' :=
 wdFDiv_calls h
end Go.Proofs.YtimgphlfaninnaaGreat.P

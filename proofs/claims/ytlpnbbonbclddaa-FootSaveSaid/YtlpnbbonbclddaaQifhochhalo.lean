/- The abstract machine: what its values and heaps say of the model's; how that stands while memory is made and written. -/
import Derived.Test.YtlpnbbonbclddaaQlkkeiognca
import Derived.Laws.Cells
import Derived.Deep.MidRow
import Derived.Laws.AppendOwn
namespace Go.Proofs.Ytlpnbbonbclddaa.A
open Go Go.RowKit
set_option linter.unusedVariables false
set_option linter.unusedSimpArgs false
abbrev Names := Nat → Option (Nat × Nat)
abbrev noNames : Names := fun _ => none
mutual
/-- An abstract value stands for a value. -/
inductive RV : Names → World → AV → Value → Prop
  | undef {ρ : Names} {W : World} : RV ρ W .undef Go.undef
  | bool {ρ : Names} {W : World} (b : Bool) : RV ρ W (.bool b) (.bool b)
  | int {ρ : Names} {W : World} (k : IntKind) (n : Int) : RV ρ W (.int k n) (.int k n)
  | str {ρ : Names} {W : World} (s : ByteArray) : RV ρ W (.str s) (.string s)
  | anys {ρ : Names} {W : World} (s : ByteArray) : RV ρ W .anys (.string s)
  | nilp {ρ : Names} {W : World} : RV ρ W .nilp (.pointer none)
  | nilsl {ρ : Names} {W : World} : RV ρ W .nilsl (.slice none 0 0)
  | nilmap {ρ : Names} {W : World} : RV ρ W .nilmap (.map none)
  | nilf {ρ : Names} {W : World} : RV ρ W .nilf .nilFunc
  | nili {ρ : Names} {W : World} : RV ρ W .nili .nilIface
  | ptr {ρ : Names} {W : World} {n b o : Nat} (i s j : Nat) (h : ρ n = some (b, o)) : RV ρ W (.ptr n i s j) (.pointer (some ⟨b, o + (i * s + j), none⟩))
  | cp {ρ : Names} {W : World} {b o : Nat} {l : List AV} {L : List Value} (j : Nat) (hb : b < W.heap.size) (hl : RL noNames W l L) (hc : ∀ (x : Nat) (v : Value), L[x]? = some v → W.cell? ⟨b, o + x, none⟩ = some v) :
      RV ρ W (.cp l j) (.pointer (some ⟨b, o + j, none⟩))
  | sl {ρ : Names} {W : World} {n b o : Nat} (i s len cap off : Nat) (h : ρ n = some (b, o)) (hl : len ≤ cap) (ho : len = 0 ∨ off = o + i * s) : RV ρ W (.sl n i s len) (.slice (some ⟨b, off, none⟩) len cap)
  | csl {ρ : Names} {W : World} {b o : Nat} (s len cap : Nat) (c : Nat → Nat → AV) (V : Nat → Nat → Value) (hb : b < W.heap.size) (hl : len ≤ cap)
      (hc : ∀ i j, i < len → j < s → W.cell? ⟨b, o + (i * s + j), none⟩ = some (V i j)) (hr : ∀ i j, i < len → j < s → RV noNames W (c i j) (V i j)) :
      RV ρ W (.csl s len c) (.slice (some ⟨b, o, none⟩) len cap)
  | gs {ρ : Names} {W : World} {n b cap : Nat} (s len : Nat) (h : ρ n = some (b, cap)) (hl : len ≤ cap) : RV ρ W (.gs n s len) (.slice (some ⟨b, 0, none⟩) len cap)
  | gp {ρ : Names} {W : World} {n b cap : Nat} (i s j : Nat) (h : ρ n = some (b, cap)) : RV ρ W (.gp n i s j) (.pointer (some ⟨b, i * s + j, none⟩))
  | mp {ρ : Names} {W : World} {n b o : Nat} (h : ρ n = some (b, o)) : RV ρ W (.mp n) (.map (some b))
  | nu {ρ : Names} {W : World} {b cap : Nat} {l : List AV} {L : List Value} (e s len : Nat) (hb : b < W.heap.size) (hc : cap ≤ maxLen) (hl : len ≤ cap) (hW : W.heap[b]? = some (.cells L.toArray e (0, 0))) (hs : L.length = cap * s) (hlen : l.length = len * s) (h : RL noNames W l (L.take l.length)) :
      RV ρ W (.nu e s len l) (.slice (some ⟨b, 0, none⟩) len cap)
  | yl {ρ : Names} {W : World} {n b o : Nat} (h : ρ n = some (b, o)) : RV ρ W (.yl n) (.func (.yield b) #[] #[])
  | fn {ρ : Names} {W : World} (f : Fn) {a b : List AV} {A B : List Value} (ha : RL ρ W a A) (hb : RL ρ W b B) : RV ρ W (.fn f a b) (.func f A.toArray B.toArray)
  | ifc {ρ : Names} {W : World} (t : TypeId) {v : AV} {V : Value} (h : RV ρ W v V) : RV ρ W (.ifc t v) (.iface t V)
  | agg {ρ : Names} {W : World} {l : List AV} {L : List Value} (h : RL ρ W l L) : RV ρ W (.agg l) (.agg L.toArray)
  | tup {ρ : Names} {W : World} {l : List AV} {L : List Value} (h : RL ρ W l L) : RV ρ W (.tup l) (.tuple L.toArray)
inductive RL : Names → World → List AV → List Value → Prop
  | nil {ρ : Names} {W : World} : RL ρ W [] []
  | cons {ρ : Names} {W : World} {v : AV} {V : Value} {l : List AV} {L : List Value} (h : RV ρ W v V) (t : RL ρ W l L) : RL ρ W (v :: l) (V :: L)
end
def Ext (ρ ρ' : Names) : Prop := ∀ n p, ρ n = some p → ρ' n = some p
theorem Ext.refl (ρ : Names) : Ext ρ ρ := fun _ _ h => h
theorem Ext.trans {a b c : Names} (h : Ext a b) (k : Ext b c) : Ext a c := fun n p x => k n p (h n p x)
/-- The base world may grow, what it held stays. -/
def Keeps (W W' : World) : Prop := W.heap.size ≤ W'.heap.size ∧ ∀ b, b < W.heap.size → W'.heap[b]? = W.heap[b]?
theorem Keeps.refl (W : World) : Keeps W W := ⟨Nat.le_refl _, fun _ _ => rfl⟩
theorem Keeps.cell {W W' : World} (h : Keeps W W') {b o : Nat} (hb : b < W.heap.size) : W'.cell? ⟨b, o, none⟩ = W.cell? ⟨b, o, none⟩ :=
  World.cell?_of_block (w := W) (h.2 b hb)
theorem Keeps.of_below {W w : World} (h : Below W.heap.size W w) : Keeps W w := ⟨h.size, h.block⟩
mutual
theorem RV.move_ : ∀ {ρ : Names} {W : World} {v : AV} {V : Value}, RV ρ W v V → ∀ {ρ' : Names} {W' : World}, Ext ρ ρ' → Keeps W W' → RV ρ' W' v V
  | _, _, _, _, .undef, _, _, _, _ => .undef
  | _, _, _, _, .bool b, _, _, _, _ => .bool b
  | _, _, _, _, .int k n, _, _, _, _ => .int k n
  | _, _, _, _, .str s, _, _, _, _ => .str s
  | _, _, _, _, .anys s, _, _, _, _ => .anys s
  | _, _, _, _, .nilp, _, _, _, _ => .nilp
  | _, _, _, _, .nilsl, _, _, _, _ => .nilsl
  | _, _, _, _, .nilmap, _, _, _, _ => .nilmap
  | _, _, _, _, .nilf, _, _, _, _ => .nilf
  | _, _, _, _, .nili, _, _, _, _ => .nili
  | _, _, _, _, .ptr i s j h, _, _, he, hk => .ptr i s j (he _ _ h)
  | _, _, _, _, .cp j hb hl hc, _, _, he, hk => .cp j (Nat.lt_of_lt_of_le hb hk.1) (RL.move_ hl (Ext.refl _) hk) (fun x v h => (hk.cell hb).trans (hc x v h))
  | _, _, _, _, .sl i s len cap off h hl ho, _, _, he, hk => .sl i s len cap off (he _ _ h) hl ho
  | _, _, _, _, .csl s len cap c V hb hl hc hr, _, _, he, hk => .csl s len cap c V (Nat.lt_of_lt_of_le hb hk.1) hl (fun i j hi hj => (hk.cell hb).trans (hc i j hi hj)) (fun i j hi hj => RV.move_ (hr i j hi hj) (Ext.refl _) hk)
  | _, _, _, _, .gs s len h hl, _, _, he, hk => .gs s len (he _ _ h) hl
  | _, _, _, _, .gp i s j h, _, _, he, hk => .gp i s j (he _ _ h)
  | _, _, _, _, .mp h, _, _, he, hk => .mp (he _ _ h)
  | _, _, _, _, .yl h, _, _, he, hk => .yl (he _ _ h)
  | _, _, _, _, .nu e s len hb hc hl hW hs hlen h, _, _, he, hk => .nu e s len (Nat.lt_of_lt_of_le hb hk.1) hc hl ((hk.2 _ hb).trans hW) hs hlen (RL.move_ h (Ext.refl _) hk)
  | _, _, _, _, .fn f ha hb, _, _, he, hk => .fn f (RL.move_ ha he hk) (RL.move_ hb he hk)
  | _, _, _, _, .ifc t h, _, _, he, hk => .ifc t (RV.move_ h he hk)
  | _, _, _, _, .agg h, _, _, he, hk => .agg (RL.move_ h he hk)
  | _, _, _, _, .tup h, _, _, he, hk => .tup (RL.move_ h he hk)
theorem RL.move_ : ∀ {ρ : Names} {W : World} {l : List AV} {L : List Value}, RL ρ W l L → ∀ {ρ' : Names} {W' : World}, Ext ρ ρ' → Keeps W W' → RL ρ' W' l L
  | _, _, _, _, .nil, _, _, _, _ => .nil
  | _, _, _, _, .cons h t, _, _, he, hk => .cons (RV.move_ h he hk) (RL.move_ t he hk)
end
theorem RV.move {ρ ρ' : Names} {W W' : World} (he : Ext ρ ρ') (hk : Keeps W W') {v : AV} {V : Value} (h : RV ρ W v V) : RV ρ' W' v V := h.move_ he hk
theorem RL.move {ρ ρ' : Names} {W W' : World} (he : Ext ρ ρ') (hk : Keeps W W') {l : List AV} {L : List Value} (h : RL ρ W l L) : RL ρ' W' l L := h.move_ he hk
theorem Ext.none (ρ : Names) : Ext noNames ρ := fun _ _ h => by cases h
theorem RV.ext {ρ ρ' : Names} {W : World} (he : Ext ρ ρ') {v : AV} {V : Value} (h : RV ρ W v V) : RV ρ' W v V := h.move he (Keeps.refl W)
theorem RL.ext {ρ ρ' : Names} {W : World} (he : Ext ρ ρ') {v : List AV} {V : List Value} (h : RL ρ W v V) : RL ρ' W v V := h.move he (Keeps.refl W)
theorem RL.length {ρ : Names} {W : World} : ∀ {l : List AV} {L : List Value}, RL ρ W l L → l.length = L.length
  | _, _, .nil => rfl
  | _, _, .cons _ t => by simp [RL.length t]
theorem RL.get {ρ : Names} {W : World} : ∀ {l : List AV} {L : List Value}, RL ρ W l L → ∀ (i : Nat) (v : AV), l[i]? = some v → ∃ V, L[i]? = some V ∧ RV ρ W v V
  | _, _, .nil, _, _, h => by simp at h
  | _, _, .cons h t, 0, v, e => by simp at e; subst e; exact ⟨_, rfl, h⟩
  | _, _, .cons h t, i + 1, v, e => by simp at e; simpa using RL.get t i v e
theorem RL.append {ρ : Names} {W : World} : ∀ {l : List AV} {L : List Value} {m : List AV} {M : List Value}, RL ρ W l L → RL ρ W m M → RL ρ W (l ++ m) (L ++ M)
  | _, _, _, _, .nil, k => k
  | _, _, _, _, .cons h t, k => .cons h (RL.append t k)
theorem RL.drop {ρ : Names} {W : World} : ∀ (n : Nat) {l : List AV} {L : List Value}, RL ρ W l L → RL ρ W (l.drop n) (L.drop n)
  | 0, _, _, h => h
  | n + 1, _, _, .nil => .nil
  | n + 1, _, _, .cons _ t => RL.drop n t
theorem RL.take {ρ : Names} {W : World} : ∀ (n : Nat) {l : List AV} {L : List Value}, RL ρ W l L → RL ρ W (l.take n) (L.take n)
  | 0, _, _, h => .nil
  | n + 1, _, _, .nil => .nil
  | n + 1, _, _, .cons h t => .cons h (RL.take n t)
theorem RL.set {ρ : Names} {W : World} {v : AV} {V : Value} (hv : RV ρ W v V) : ∀ (n : Nat) {l : List AV} {L : List Value}, RL ρ W l L → RL ρ W (l.set n v) (L.set n V)
  | _, _, _, .nil => .nil
  | 0, _, _, .cons _ t => .cons hv t
  | n + 1, _, _, .cons h t => .cons h (RL.set hv n t)
theorem RL.map {ρ : Names} {W : World} {α : Type} (f : α → AV) (g : α → Value) : ∀ (l : List α), (∀ x ∈ l, RV ρ W (f x) (g x)) → RL ρ W (l.map f) (l.map g)
  | [], _ => .nil
  | x :: l, h => .cons (h x (by simp)) (RL.map f g l fun y hy => h y (by simp [hy]))
def setAtV : List Value → Nat → List Value → List Value
  | l, _, [] => l
  | l, j, v :: vs => setAtV (l.set j v) (j + 1) vs
theorem RL.setAt {ρ : Names} {W : World} : ∀ {m : List AV} {M : List Value}, RL ρ W m M → ∀ (j : Nat) {l : List AV} {L : List Value}, RL ρ W l L → RL ρ W (setAt l j m) (setAtV L j M)
  | _, _, .nil, _, _, _, h => h
  | _, _, .cons hv t, j, _, _, h => RL.setAt t (j + 1) (RL.set hv j h)
theorem RV.cells {ρ : Names} {W : World} {v : AV} {V : Value} (h : RV ρ W v V) : RL ρ W v.cells V.cells.toList := by
  cases h
  case agg h => simpa [AV.cells, Value.cells] using h
  all_goals (simp only [AV.cells, Value.cells]; exact .cons (by constructor <;> assumption) .nil)
theorem RV.one {ρ : Names} {W : World} {v : AV} {V : Value} (h : RV ρ W v V) (h1 : v.one = true) : V.oneCell' = true := by
  cases h <;> simp_all [AV.one, Value.oneCell']
theorem RL.one {ρ : Names} {W : World} : ∀ {l : List AV} {L : List Value}, RL ρ W l L → l.all AV.one = true → ∀ V ∈ L, V.oneCell' = true
  | _, _, .nil, _, _, h => by simp at h
  | _, _, .cons h t, ha, V, hm => by
    simp only [List.all_cons, Bool.and_eq_true] at ha
    rcases List.mem_cons.1 hm with rfl | hm
    · exact h.one ha.1
    · exact RL.one t ha.2 V hm
theorem mapM_cons_some {α β : Type} {f : α → Option β} {a : α} {l : List α} {r : List β} (h : (a :: l).mapM f = some r) : ∃ b bs, f a = some b ∧ l.mapM f = some bs ∧ r = b :: bs := by
  simp only [List.mapM_cons, Option.bind_eq_bind, Option.bind_eq_some_iff, Option.pure_def, Option.some.injEq] at h
  obtain ⟨b, hb, bs, hbs, rfl⟩ := h
  exact ⟨b, bs, hb, hbs, rfl⟩
theorem RL.mapM_of {ρ : Names} {W : World} {f : Value → Option AV} (hf : ∀ V v, f V = some v → RV ρ W v V) : ∀ (L : List Value) (l : List AV), L.mapM f = some l → RL ρ W l L
  | [], l, h => by simp at h; subst h; exact .nil
  | V :: L, l, h => by
    obtain ⟨b, bs, h1, h2, rfl⟩ := mapM_cons_some h
    exact .cons (hf _ _ h1) (RL.mapM_of hf L bs h2)
theorem ofV_ok (ρ : Names) (W : World) : ∀ (n : Nat) (V : Value) (v : AV), ofV n V = some v → RV ρ W v V := by
  intro n
  induction n with
  | zero =>
    intro V v h
    unfold ofV at h
    split at h <;> simp at h
    case h_9 heq => cases heq
    case h_10 heq => cases heq
    all_goals (subst h; constructor)
  | succ n ih =>
    intro V v h
    cases V <;> try simp only [ofV] at h
    case bool => simp at h; subst h; constructor
    case int => simp at h; subst h; constructor
    case string => simp at h; subst h; constructor
    case nilFunc => simp at h; subst h; constructor
    case nilIface => simp at h; subst h; constructor
    case pointer a => cases a <;> simp [ofV] at h; subst h; constructor
    case map a => cases a <;> simp [ofV] at h; subst h; constructor
    case slice a l c =>
      cases a <;> cases l <;> cases c <;> simp [ofV] at h
      subst h; constructor
    case iface t u =>
      simp only [Option.map_eq_some_iff] at h
      obtain ⟨a, ha, rfl⟩ := h
      exact .ifc _ (ih _ _ ha)
    case agg cs =>
      simp only [Option.map_eq_some_iff] at h
      obtain ⟨a, ha, rfl⟩ := h
      have := RL.mapM_of (ρ := ρ) (W := W) ih _ _ ha
      simpa using RV.agg this
    all_goals simp at h
/-- Temporaries, as far as they are told. -/
structure TR (ρ : Names) (W : World) (t : List (Option AV)) (a : Array Value) : Prop where
  len : t.length = a.size
  get : ∀ (i : Nat) (v : AV), t[i]? = some (some v) → ∃ V, a[i]? = some V ∧ RV ρ W v V
theorem TR.ext {ρ ρ' : Names} {W : World} {t : List (Option AV)} {a : Array Value} (h : TR ρ W t a) (he : Ext ρ ρ') : TR ρ' W t a :=
  ⟨h.len, fun i v hv => let ⟨V, h1, h2⟩ := h.get i v hv; ⟨V, h1, h2.ext he⟩⟩
/-- A map's entries. -/
inductive RE (ρ : Names) (W : World) : List (AV × AV) → List MapEntry → Prop
  | nil : RE ρ W [] []
  | cons {k v : AV} {e : MapEntry} {l : List (AV × AV)} {L : List MapEntry} (hk : RV ρ W k e.key) (hv : RV ρ W v e.val) (t : RE ρ W l L) : RE ρ W ((k, v) :: l) (e :: L)
theorem RE.ext {ρ ρ' : Names} {W : World} (he : Ext ρ ρ') : ∀ {l : List (AV × AV)} {L : List MapEntry}, RE ρ W l L → RE ρ' W l L
  | _, _, .nil => .nil
  | _, _, .cons hk hv t => .cons (hk.ext he) (hv.ext he) (RE.ext he t)
/-- What an object's abstract content says of its block. -/
def Holds (ρ : Names) (W : World) (w : World) (b o : Nat) : Ob → Prop
  | .cells l => W.heap.size ≤ b ∧ o = 0 ∧ ∃ L t, w.heap[b]? = some (.cells (List.toArray L) t (0, 0)) ∧ RL ρ W l L
  | .row s len c => ∃ V : Nat → Nat → Value, (∀ i j, i < len → j < s → w.cell? ⟨b, o + (i * s + j), none⟩ = some (V i j)) ∧ (∀ i j, i < len → j < s → RV noNames W (c i j) (V i j))
  | .own z e s l => W.heap.size ≤ b ∧ o ≤ maxLen ∧ ∃ L fz, w.heap[b]? = some (.cells (List.toArray L) e fz) ∧ L.length = o * s ∧ (z = true → fz = (0, 0)) ∧ (∀ x, x < L.length → (decide (fz.1 ≤ x) && decide (x < fz.2)) = false) ∧ l.length ≤ L.length ∧ RL ρ W l (L.take l.length)
  | .mapo l c => W.heap.size ≤ b ∧ ∃ L, w.heap[b]? = some (.map (List.toArray L) c) ∧ RE ρ W l L
  | .siter s p => W.heap.size ≤ b ∧ o = 0 ∧ w.heap[b]? = some (.stringIter s p)
  | .loop s pe t ps sg bo => W.heap.size ≤ b ∧ ∃ r : Loop, w.heap[b]? = some (.loop r) ∧ r.state = s ∧ r.pending = pe ∧ r.params.toList = ps ∧ r.assign = sg ∧ r.body = bo ∧ TR ρ W t r.tmps
  | .dfr => W.heap.size ≤ b ∧ o = 0 ∧ w.heap[b]? = some (.deferred (some []))
  | .dead => True
structure Rel (ρ : Names) (W : World) (h : Heap) (w : World) : Prop where
  bel : Below W.heap.size W w
  dom : ∀ n p, ρ n = some p → (∃ x, h[n]? = some (some x)) ∧ p.1 < w.heap.size
  ob : ∀ n x, h[n]? = some (some x) → ∃ b o, ρ n = some (b, o) ∧ Holds ρ W w b o x
  sep : ∀ n x b o, h[n]? = some (some x) → x.excl = true → ρ n = some (b, o) → ∀ m p y, ρ m = some p → p.1 = b → h[m]? = some (some y) → y ≠ .dead → m = n
theorem Rel.start (W : World) : Rel (fun _ => none) W [] W := ⟨Below.refl _ _, by simp, by simp, by simp⟩
theorem Holds.block {ρ : Names} {W w w' : World} {b o : Nat} {x : Ob} (h : Holds ρ W w b o x) (hb : w'.heap[b]? = w.heap[b]?) : Holds ρ W w' b o x := by
  cases x with
  | cells l => obtain ⟨h1, h2, L, t, h3, h4⟩ := h; exact ⟨h1, h2, L, t, hb.trans h3, h4⟩
  | row s len c => obtain ⟨V, h1, h2⟩ := h; exact ⟨V, fun i j hi hj => (World.cell?_of_block (a := ⟨b, _, none⟩) (w := w) hb).trans (h1 i j hi hj), h2⟩
  | own z e s l => obtain ⟨h1, h2, L, fz, h3, h4⟩ := h; exact ⟨h1, h2, L, fz, hb.trans h3, h4⟩
  | mapo l c => obtain ⟨h1, L, h3, h4⟩ := h; exact ⟨h1, L, hb.trans h3, h4⟩
  | siter s p => obtain ⟨h1, h2, h3⟩ := h; exact ⟨h1, h2, hb.trans h3⟩
  | loop s pe t ps sg bo => obtain ⟨h1, r, h3, h4⟩ := h; exact ⟨h1, r, hb.trans h3, h4⟩
  | dfr => obtain ⟨h1, h2, h3⟩ := h; exact ⟨h1, h2, hb.trans h3⟩
  | dead => trivial
theorem Holds.ext {ρ ρ' : Names} {W w : World} {b o : Nat} {x : Ob} (he : Ext ρ ρ') (h : Holds ρ W w b o x) : Holds ρ' W w b o x := by
  cases x with
  | cells l => obtain ⟨h1, h2, L, t, h3, h4⟩ := h; exact ⟨h1, h2, L, t, h3, h4.ext he⟩
  | row s len c => exact h
  | own z e s l => obtain ⟨h1, h2, L, fz, h3, h4, h5, h6, h7, h8⟩ := h; exact ⟨h1, h2, L, fz, h3, h4, h5, h6, h7, h8.ext he⟩
  | mapo l c => obtain ⟨h1, L, h3, h4⟩ := h; exact ⟨h1, L, h3, h4.ext he⟩
  | siter s p => exact h
  | loop s pe t ps sg bo => obtain ⟨h1, r, h3, h4, h5, h6, h7, h8, h9⟩ := h; exact ⟨h1, r, h3, h4, h5, h6, h7, h8, h9.ext he⟩
  | dfr => exact h
  | dead => trivial
/-- A living object's block is below what lies there now; that of one of its own lies beyond the call's beginning. -/
theorem Holds.base {ρ : Names} {W w : World} {b o : Nat} {x : Ob} (h : Holds ρ W w b o x) (hx : x.excl = true) : W.heap.size ≤ b := by
  cases x <;> simp [Ob.excl] at hx <;> exact h.1
/-- A step that leaves every block that is there. -/
theorem Rel.below {ρ : Names} {W w w' : World} {h : Heap} (r : Rel ρ W h w) (hb : Below w.heap.size w w') : Rel ρ W h w' := by
  refine ⟨r.bel.trans (hb.mono r.bel.size), fun n p hp => ⟨(r.dom n p hp).1, Nat.lt_of_lt_of_le (r.dom n p hp).2 hb.size⟩, fun n x hx => ?_, r.sep⟩
  obtain ⟨b, o, h1, h2⟩ := r.ob n x hx
  exact ⟨b, o, h1, h2.block (hb.block b (r.dom n _ h1).2)⟩
theorem Rel.drew {ρ : Names} {W w : World} {h : Heap} (r : Rel ρ W h w) : Rel ρ W h { w with drawn := w.drawn + 1 } :=
  r.below ((Below.refl _ _).drew)
/-- Room for names that are still to come. -/
theorem Rel.room {ρ : Names} {W w : World} {h : Heap} (r : Rel ρ W h w) (k : Nat) : Rel ρ W (h ++ List.replicate k none) w := by
  have hx : ∀ n x, (h ++ List.replicate k none)[n]? = some (some x) → h[n]? = some (some x) := fun n x hx => by
    rw [List.getElem?_append] at hx
    split at hx
    · exact hx
    · simp [List.getElem?_replicate] at hx
  refine ⟨r.bel, fun n p hp => ?_, fun n x h' => r.ob n x (hx n x h'), fun n x b o h' he hp m p y hm hb hy => r.sep n x b o (hx n _ h') he hp m p y hm hb (hx m _ hy)⟩
  obtain ⟨⟨x, h1⟩, h2⟩ := r.dom n p hp
  refine ⟨⟨x, ?_⟩, h2⟩
  rw [List.getElem?_append, if_pos (by rcases Nat.lt_or_ge n h.length with q | q; exact q; simp [List.getElem?_eq_none q] at h1)]
  exact h1
/-- A name that is free: the next one, or one that was kept. -/
def Fresh (h : Heap) (nm : Nat) : Prop := nm = h.length ∨ h[nm]? = some none
theorem effH_alloc_get {h : Heap} {nm : Nat} (hf : Fresh h nm) (x : Ob) (n : Nat) : (effH h nm (.alloc x))[n]? = if n = nm then some (some x) else h[n]? := by
  simp only [effH]
  rcases hf with rfl | hf
  · rw [if_neg (by omega)]
    by_cases hn : n = h.length
    · subst hn; simp
    · rw [if_neg hn, List.getElem?_append]
      split
      · rfl
      · rw [List.getElem?_eq_none (l := h) (by omega), List.getElem?_eq_none (by simp; omega)]
  · have hl : nm < h.length := by rcases Nat.lt_or_ge nm h.length with q | q; exact q; simp [List.getElem?_eq_none q] at hf
    rw [if_pos hl, List.getElem?_set]
    by_cases hn : nm = n
    · subst hn; simp [hl]
    · simp [hn, Ne.symm hn]
theorem Rel.free_none {ρ : Names} {W w : World} {h : Heap} (r : Rel ρ W h w) {nm : Nat} (hf : Fresh h nm) : ρ nm = none := by
  cases hq : ρ nm with
  | none => rfl
  | some p =>
    obtain ⟨⟨x, h1⟩, _⟩ := r.dom nm p hq
    rcases hf with rfl | hf
    · simp at h1
    · rw [hf] at h1; simp at h1
def Names.with (ρ : Names) (nm b o : Nat) : Names := fun n => if n = nm then some (b, o) else ρ n
theorem Names.with_ext {ρ : Names} {nm b o : Nat} (h : ρ nm = none) : Ext ρ (ρ.with nm b o) := fun n p hp => by
  unfold Names.with
  by_cases hn : n = nm
  · subst hn; rw [h] at hp; cases hp
  · rw [if_neg hn]; exact hp
/-- A new name for a block whose other names are all dead: what lay there stays. -/
theorem Rel.name {ρ : Names} {W w : World} {h : Heap} (r : Rel ρ W h w) {nm : Nat} (hf : Fresh h nm) {b o : Nat} {x : Ob} (hb : b < w.heap.size) (hh : Holds (ρ.with nm b o) W w b o x) (hs : ∀ m p y, ρ m = some p → p.1 = b → h[m]? = some (some y) → y = .dead) :
    Rel (ρ.with nm b o) W (effH h nm (.alloc x)) w := by
  have hn := r.free_none hf
  have he : Ext ρ (ρ.with nm b o) := Names.with_ext hn
  have hnm : (ρ.with nm b o) nm = some (b, o) := by simp [Names.with]
  refine ⟨r.bel, fun n p hp => ?_, fun n x' hx => ?_, fun n x' b' o' hx he' hp m p y hm hpb hy hyd => ?_⟩
  · unfold Names.with at hp
    by_cases hq : n = nm
    · subst hq; rw [if_pos rfl] at hp; cases hp
      exact ⟨⟨_, by rw [effH_alloc_get hf, if_pos rfl]⟩, hb⟩
    · rw [if_neg hq] at hp
      obtain ⟨⟨x, h1⟩, h2⟩ := r.dom n p hp
      exact ⟨⟨x, by rw [effH_alloc_get hf, if_neg hq]; exact h1⟩, h2⟩
  · rw [effH_alloc_get hf] at hx
    by_cases hq : n = nm
    · subst hq; rw [if_pos rfl] at hx; cases hx
      exact ⟨_, _, hnm, hh⟩
    · rw [if_neg hq] at hx
      obtain ⟨b2, o2, h1, h2⟩ := r.ob n x' hx
      exact ⟨b2, o2, he _ _ h1, h2.ext he⟩
  · rw [effH_alloc_get hf] at hx hy
    unfold Names.with at hp hm
    by_cases hq : n = nm
    · subst hq; rw [if_pos rfl] at hp; cases hp
      by_cases hz : m = n
      · exact hz
      · rw [if_neg hz] at hm hy
        exact (hyd (hs m p y hm hpb hy)).elim
    · rw [if_neg hq] at hx hp
      by_cases hz : m = nm
      · rw [if_pos hz] at hm; cases hm
        have := hs n _ x' hp hpb.symm hx
        subst this; simp [Ob.excl] at he'
      · rw [if_neg hz] at hm hy; exact r.sep n x' b' o' hx he' hp m p y hm hpb hy hyd
/-- The world turns at one block, which has no living name, and beyond what lies there. -/
theorem Rel.grow {ρ : Names} {W w w' : World} {h : Heap} (r : Rel ρ W h w) {row : Option Nat} (hg : w.grownBy w' row) (hW : ∀ k, row = some k → W.heap.size ≤ k) (hs : ∀ m p y, ρ m = some p → row = some p.1 → h[m]? = some (some y) → y = .dead) : Rel ρ W h w' := by
  refine ⟨r.bel.trans ⟨hg.os, hg.tape, hg.output, hg.size, fun k hk => hg.block k (Nat.lt_of_lt_of_le hk r.bel.size) (fun e => by have := hW k e.symm; omega)⟩, fun n p hp => ⟨(r.dom n p hp).1, Nat.lt_of_lt_of_le (r.dom n p hp).2 hg.size⟩, fun n x hx => ?_, r.sep⟩
  obtain ⟨b, o, h1, h2⟩ := r.ob n x hx
  refine ⟨b, o, h1, ?_⟩
  by_cases hd : row = some b
  · rw [hs n _ x h1 hd hx]; trivial
  · exact h2.block (hg.block b (r.dom n _ h1).2 (fun e => hd e.symm))
/-- A new object of cells. -/
theorem Rel.alloc {ρ : Names} {W w : World} {h : Heap} (r : Rel ρ W h w) {nm : Nat} (hf : Fresh h nm) {l : List AV} {L : List Value} (hl : RL ρ W l L) (t : TypeId) :
    Rel (ρ.with nm w.heap.size 0) W (effH h nm (.alloc (.cells l))) (w.alloc (.cells L.toArray t)) := by
  have hn := r.free_none hf
  have r' : Rel ρ W h (w.alloc (.cells L.toArray t)) := r.below ((Below.refl _ _).alloc (Nat.le_refl _) _)
  refine r'.name hf (by simp) ⟨r.bel.size, rfl, L, t, by unfold World.alloc; rw [Array.getElem?_push]; simp, hl.ext (Names.with_ext hn)⟩ fun m p y hm hp _ => ?_
  have := (r.dom m p hm).2
  omega
/-- An object of its own turns; its block alone. -/
theorem Rel.put {ρ : Names} {W w w' : World} {h : Heap} (r : Rel ρ W h w) {n b o : Nat} {x x' : Ob} (hn : h[n]? = some (some x)) (hx : x.excl = true) (hp : ρ n = some (b, o))
    (ho : ∀ k, k ≠ b → w'.heap[k]? = w.heap[k]?) (hs : w'.heap.size = w.heap.size) (h1 : w'.os = w.os) (h2 : w'.tape = w.tape) (h3 : w'.output = w.output) (hh : Holds ρ W w' b o x') : Rel ρ W (h.set n (some x')) w' := by
  have hlen : n < h.length := by rcases Nat.lt_or_ge n h.length with q | q; exact q; simp [List.getElem?_eq_none q] at hn
  have hg : ∀ m, (h.set n (some x'))[m]? = if m = n then some (some x') else h[m]? := fun m => by
    simp only [List.getElem?_set]
    by_cases hq : n = m
    · subst hq; simp [hlen]
    · simp [hq, Ne.symm hq]
  obtain ⟨b', o', e1, e2⟩ := r.ob n _ hn
  rw [hp] at e1; cases e1
  have hW : W.heap.size ≤ b := e2.base hx
  have hxd : x ≠ .dead := fun e => by subst e; simp [Ob.excl] at hx
  refine ⟨r.bel.trans ⟨h1, h2, h3, by omega, fun k hk => ho k (by omega)⟩, fun m p hm => ?_, fun m y hy => ?_, fun m y b2 o2 hy hye hm m' p' y' hm' hpb hy' hyd => ?_⟩
  · obtain ⟨⟨x, h1⟩, h2⟩ := r.dom m p hm
    by_cases hq : m = n
    · exact ⟨⟨_, by rw [hg, if_pos hq]⟩, by omega⟩
    · exact ⟨⟨x, by rw [hg, if_neg hq]; exact h1⟩, by omega⟩
  · rw [hg] at hy
    by_cases hq : m = n
    · subst hq; rw [if_pos rfl] at hy; cases hy
      exact ⟨b, o, hp, hh⟩
    · rw [if_neg hq] at hy
      obtain ⟨b2, o2, g1, g2⟩ := r.ob m y hy
      refine ⟨b2, o2, g1, ?_⟩
      by_cases hd : y = .dead
      · subst hd; trivial
      · exact g2.block (ho b2 fun hbb => hq (r.sep n x b o hn hx hp m _ y g1 hbb hy hd))
  · rw [hg] at hy hy'
    by_cases hq : m = n
    · subst hq
      rw [hp] at hm; cases hm
      by_cases hq' : m' = m
      · exact hq'
      · rw [if_neg hq'] at hy'
        exact r.sep m x b o hn hx hp m' p' y' hm' hpb hy' hyd
    · rw [if_neg hq] at hy
      by_cases hq' : m' = n
      · subst hq'
        exact r.sep m y b2 o2 hy hye hm m' p' x hm' hpb hn hxd
      · rw [if_neg hq'] at hy'
        exact r.sep m y b2 o2 hy hye hm m' p' y' hm' hpb hy' hyd
/-- An object that is given up: its block has no living name then. -/
theorem Rel.kill {ρ : Names} {W w : World} {h : Heap} (r : Rel ρ W h w) {n b o : Nat} {x : Ob} (hn : h[n]? = some (some x)) (hx : x.excl = true) (hp : ρ n = some (b, o)) :
    Rel ρ W (h.set n (some .dead)) w ∧ ∀ m p y, ρ m = some p → p.1 = b → (h.set n (some .dead))[m]? = some (some y) → y = .dead := by
  refine ⟨r.put hn hx hp (fun _ _ => rfl) rfl rfl rfl rfl trivial, fun m p y hm hpb hy => ?_⟩
  rw [List.getElem?_set] at hy
  split at hy
  · rename_i hq; subst hq
    split at hy
    · simp at hy; exact hy.symm
    · cases hy
  · rename_i hq
    by_cases hd : y = .dead
    · exact hd
    · exact (hq (r.sep n x b o hn hx hp m p y hm hpb hy hd).symm).elim
/-- A store into an object of cells. -/
theorem Rel.store {ρ : Names} {W w w' : World} {h : Heap} (r : Rel ρ W h w) {n b : Nat} {l l' : List AV} {L' : List Value} {t : TypeId} (hn : h[n]? = some (some (.cells l))) (hp : ρ n = some (b, 0))
    (hw : w'.heap[b]? = some (.cells L'.toArray t (0, 0))) (ho : ∀ k, k ≠ b → w'.heap[k]? = w.heap[k]?) (hs : w'.heap.size = w.heap.size) (h1 : w'.os = w.os) (h2 : w'.tape = w.tape) (h3 : w'.output = w.output)
    (hl : RL ρ W l' L') : Rel ρ W (effH h 0 (.set n (.cells l'))) w' := by
  obtain ⟨b', o', e1, e2⟩ := r.ob n _ hn
  rw [hp] at e1; cases e1
  exact r.put hn rfl hp ho hs h1 h2 h3 ⟨e2.1, rfl, L', t, hw, hl⟩
end Go.Proofs.Ytlpnbbonbclddaa.A

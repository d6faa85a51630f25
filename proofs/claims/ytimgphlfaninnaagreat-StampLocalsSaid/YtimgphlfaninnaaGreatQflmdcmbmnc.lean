import Derived.Test.YtimgphlfaninnaaGreatQnamifcknpa
import Derived.Test.YtimgphlfaninnaaGreatQdpeieginel
import Derived.Test.YtimgphlfaninnaaGreatQnhkcikcnlk
import Derived.Test.YtimgphlfaninnaaGreatQfgfpjmalgi
import Derived.Test.YtimgphlfaninnaaGreatQdljlakeelm
import Derived.Test.YtimgphlfaninnaaGreatQmkgdpkcjjp
import Derived.Test.YtimgphlfaninnaaGreatQogiocepdie
import Derived.Test.YtimgphlfaninnaaGreatQdpedgcpcdo
namespace Go.Proofs.YtimgphlfaninnaaGreat.P
open Go.RowKit Go.Proofs.YtimgphlfaninnaaGreat.Ft Go.Proofs.YtimgphlfaninnaaGreat.Zn
set_option linter.unusedVariables false
set_option linter.unusedSimpArgs false
open A
abbrev ChF := Option (Nat × (Nat → Nat → AV))
def chT (a b p o o9 o10 : Option AV) : List (Option AV) := none :: a :: b :: p :: none :: none :: none :: none :: o :: o9 :: o10 :: none :: none :: none :: n10 (n10 (n10 (n10 (n10 (n10 (n10 (n10 (n10 (n10 (n10 (n10 [])))))))))))
def chA (a b : Int) (o o9 o10 : Option AV) : List (Option AV) := chT (some (.int .i64 a)) (some (.int .i64 b)) (some (.ptr 0 0 0 0)) o o9 o10
def chO : ChF → AV
 | none => .nilsl
 | some (n, _) => .gs 1 1 n
def chR : ChF → Heap
 | none => []
 | some (n, c) => [some (.vec 2 1 n c)]
noncomputable def chH1 (z : Zt) (a b k : Int) (f : ChF) : St := ⟨chA a b (some (chO f)) (some (.int .i64 k)) none, some (.cells (avZ z)) :: chR f, []⟩
noncomputable def chX (z : Zt) (a b : Int) (f : ChF) : St := ⟨chA a b (some (chO f)) none none, some (.cells (avZ z)) :: chR f, []⟩
noncomputable def chH2 (z : Zt) (a b y : Int) (f : ChF) : St := ⟨chA a b (some (chO f)) none (some (.int .i64 y)), some (.cells (avZ z)) :: chR f, []⟩
noncomputable def chY (z : Zt) (f : ChF) : St := ⟨chT none none none (some (chO f)) none none, some (.cells (avZ z)) :: chR f, []⟩
noncomputable def chH3 (z : Zt) (a b y : Int) (n : Nat) (c : Nat → Nat → AV) : St := ⟨chA a b (some (.gs 2 1 n)) none (some (.int .i64 y)), [some (.cells (avZ z)), some .dead, some (.vec 2 1 n c)], []⟩
noncomputable def chZ (z : Zt) (n : Nat) (c : Nat → Nat → AV) : St := ⟨chT none none none (some (.gs 2 1 n)) none none, [some (.cells (avZ z)), some .dead, some (.vec 2 1 n c)], []⟩
def chK : List Bool := ((((List.replicate 134 false).set 1 true).set 2 true).set 3 true).set 8 true
def chCS1 : CS := { m := 1, keep := chK.set 9 true, roots := [8] }
def chCSX : CS := { m := 1, keep := chK, roots := [8] }
def chCS2 : CS := { m := 1, keep := chK.set 10 true, roots := [8] }
def chCSY : CS := { m := 1, keep := (List.replicate 134 false).set 8 true, roots := [8] }
def chCS3 : CS := { m := 2, keep := chK.set 10 true, roots := [8], mv := [1] }
def chCSZ : CS := { m := 2, keep := (List.replicate 134 false).set 8 true, roots := [8], mv := [1] }
def chOf (st : St) : Nat × (Nat → Nat → AV) := match st.h with
 | _ :: some (.vec _ _ n c) :: _ => (n, c)
 | _ => (0, fun _ _ => .undef)
def chPush (f : ChF) (w : Int) (K : ChF → Prop) : Prop := match f with
 | none => K (some (1, fun _ _ => .int .i64 w))
 | some (n, c) => brc (Nat.beq n n && roomB (n + 1) 8) (K (some (n + 1, fun i _ => aite (decide (i < n)) (c i 0) (.int .i64 w)))) False
def chVC1 (z : Zt) (a b k : Int) (f : ChF) (R : Option St → Prop) (Q : Ex → Option St → Prop) : Prop :=
 brc (decide (k < z.n)) (brc (decide (0 ≤ k) && decide (k < z.n)) (brc (decide (z.ta (Int.toNat k) > a)) (brc (decide (0 ≤ k) && decide (k < z.n)) (brc (decide (z.ta (Int.toNat k) ≤ b)) (brc (decide (0 ≤ k) && decide (k < z.n)) (chPush f (z.ta (Int.toNat k)) fun f' => R (some (chH1 z a b (IntKind.wrap .i64 (k + 1)) f'))) False) (R (some (chH1 z a b (IntKind.wrap .i64 (k + 1)) f)))) False) (R (some (chH1 z a b (IntKind.wrap .i64 (k + 1)) f)))) False) (Q (.exit 0) (some (chX z a b f)))
def chIn (z : Zt) (a b m : Int) (X Y : Prop) : Prop := brc (decide (m > a)) (brc (decide (m ≤ b)) (brc (decide (m ≥ z.F.fr)) X Y) Y) Y
def chTwo (z : Zt) (a b p q : Int) (f : ChF) (R : ChF → Prop) : Prop := match f with
 | none => chIn z a b p (chIn z a b q (R (some (2, listC 1 [.int .i64 p, .int .i64 q]))) (R (some (1, fun _ _ => .int .i64 p)))) (chIn z a b q (R (some (1, fun _ _ => .int .i64 q))) (R none))
 | some f => chIn z a b p (chPush (some f) p fun g => chIn z a b q (chPush g q R) (R g)) (chIn z a b q (chPush (some f) q R) (R (some f)))
def chVC2 (z : Zt) (a b k : Int) (f : ChF) (R : ChF → Prop) (Q : Prop) : Prop :=
 brc (decide (-9223372036854775808 ≤ b ∧ b ≤ 9223372036854775807)) (∀ m0 : Int, m0 = yAt b → brc (decide (k ≤ IntKind.wrap .i64 (m0 + 1))) (brc (decide (FtOk z.F ∧ -4718 < k ∧ k < 294282))
  (∀ m1 : Int, m1 = 0 → ∀ m2 : Int, m2 = (tr z.F true k).t → ∀ m3 : Int, m3 = (tr z.F true k).off → ∀ m4 : Bool, m4 = (tr z.F true k).dst → ∀ m5 : Int, m5 = (tr z.F false k).t → ∀ m6 : Int, m6 = (tr z.F false k).off → ∀ m7 : Bool, m7 = (tr z.F false k).dst → chTwo z a b m2 m5 f R) False) Q) False
def chGet (o : ChF) (K : Nat → (Nat → Nat → AV) → Prop) : Prop := match o with
 | some (n, c) => K n c
 | none => False
set_option maxRecDepth 100000 in
theorem ch_round1a (z : Zt) (a b k : Int) (R : Option St → Prop) (Q : Ex → Option St → Prop) : aroundN PA Tryz.prog (tab []) noLoops 12 (loopOf Tryz.prog 79 0) (chH1 z a b k none) (fun st => R (canon chCS1 st)) (fun e st => Q e (canon chCSX st)) = chVC1 z a b k none R Q := by kernel_rfl
set_option maxRecDepth 100000 in
theorem ch_round1b (z : Zt) (a b k : Int) (n : Nat) (c : Nat → Nat → AV) (R : Option St → Prop) (Q : Ex → Option St → Prop) : aroundN PA Tryz.prog (tab []) noLoops 12 (loopOf Tryz.prog 79 0) (chH1 z a b k (some (n, c))) (fun st => R (canon chCS1 st)) (fun e st => Q e (canon chCSX st)) = chVC1 z a b k (some (n, c)) R Q := by kernel_rfl
set_option maxRecDepth 100000 in
theorem ch_round2a (z : Zt) (a b k : Int) (R : Option St → Prop) (Q : Ex → Option St → Prop) : aroundN PA Tryz.prog (tab [(63, cyYear), (118, cyRyear)]) noLoops 12 (loopOf Tryz.prog 79 1) (chH2 z a b k none) (fun st => R (canon chCS2 st)) (fun e st => Q e (canon chCSY st)) = chVC2 z a b k none (fun f => R (some (chH2 z a b (IntKind.wrap .i64 (k + 1)) f))) (Q (.exit 2) (some (chY z none))) := by kernel_rfl
set_option maxRecDepth 100000 in
theorem ch_round2b (z : Zt) (a b k : Int) (n : Nat) (c : Nat → Nat → AV) (R : Option St → Prop) (Q : Ex → Option St → Prop) : aroundN PA Tryz.prog (tab [(63, cyYear), (118, cyRyear)]) noLoops 12 (loopOf Tryz.prog 79 1) (chH2 z a b k (some (n, c))) (fun st => R (canon chCS2 st)) (fun e st => Q e (canon chCSY st)) = chVC2 z a b k (some (n, c)) (fun f => R (some (chH2 z a b (IntKind.wrap .i64 (k + 1)) f))) (Q (.exit 2) (some (chY z (some (n, c))))) := by kernel_rfl
set_option maxRecDepth 100000 in
theorem ch_round3 (z : Zt) (a b k : Int) (n : Nat) (c : Nat → Nat → AV) (R : Option St → Prop) (Q : Ex → Option St → Prop) : aroundN PA Tryz.prog (tab [(63, cyYear), (118, cyRyear)]) noLoops 12 (loopOf Tryz.prog 79 1) (chH3 z a b k n c) (fun st => R (canon chCS3 st)) (fun e st => Q e (canon chCSZ st)) = chVC2 z a b k (some (n, c)) (fun f => chGet f fun n c => R (some (chH3 z a b (IntKind.wrap .i64 (k + 1)) n c))) (Q (.exit 2) (some (chZ z n c))) := by kernel_rfl
end Go.Proofs.YtimgphlfaninnaaGreat.P
namespace Go.Proofs.YtimgphlfaninnaaGreat.P
open Go.RowKit Go.Proofs.YtimgphlfaninnaaGreat.Civ Go.Proofs.YtimgphlfaninnaaGreat.Ft Go.Proofs.YtimgphlfaninnaaGreat.Zn
set_option linter.unusedVariables false
set_option linter.unusedSimpArgs false
open A
def fCur (z : Zt) (a : Int) : Int := if z.F.fr - 1 > a then z.F.fr - 1 else a
def nR (z : Zt) (a b : Int) : Nat := kz z b z.n - kz z a z.n
noncomputable def nF (z : Zt) (a b : Int) : Nat := if z.F.z = true then (ix z.F b - ix z.F (fCur z a)).toNat else 0
noncomputable def chC (z : Zt) (a b : Int) (j : Nat) : Int := if j < nR z a b then z.ta (kz z a z.n + j) else (sI z.F (ix z.F (fCur z a) + 1 + ((j - nR z a b : Nat) : Int))).t
noncomputable def chN (z : Zt) (a b : Int) : Nat := nR z a b + nF z a b
def ChIs (z : Zt) (a b : Int) : ChF → Nat → Prop
 | none, m => m = 0
 | some (n, c), m => n = m ∧ 0 < m ∧ ∀ i, i < m → c i 0 = .int .i64 (chC z a b i)
theorem chPush_ok {z : Zt} {a b : Int} {f : ChF} {m : Nat} {w : Int} (h : ChIs z a b f m) (hw : w = chC z a b m) (hm : m ≤ 10000) {K : ChF → Prop} (hK : ∀ f', ChIs z a b f' (m + 1) → K f') : chPush f w K := by
 subst hw
 cases f with
 | none =>
  have h : m = 0 := h
  subst h
  exact hK _ ⟨rfl, by omega, fun i hi => by rw [show i = 0 by omega]⟩
 | some p =>
  obtain ⟨n, c⟩ := p
  obtain ⟨rfl, h0, hc⟩ := h
  unfold chPush
  refine brcT ?_ (hK _ ⟨rfl, by omega, fun i hi => ?_⟩)
  · rw [show Nat.beq n n = true from Nat.beq_refl n]
    unfold roomB
    rw [Nat.ble_eq_true_of_le (show n + 1 ≤ maxLen by unfold maxLen; omega), Nat.ble_eq_true_of_le (show (n + 1) * 8 ≤ 140737488355328 by omega)]
    rfl
  · show aite (decide (i < n)) (c i 0) _ = _
    rcases Nat.lt_or_ge i n with q | q
    · rw [decide_eq_true q, aite_t]
      exact hc i q
    · rw [decide_eq_false (by omega), aite_f, show i = n by omega]
def cnt1 (z : Zt) (a b : Int) (k : Nat) : Nat := min k (kz z b z.n) - kz z a z.n
noncomputable def chHx1 (z : Zt) (a b : Int) (x : Nat × ChF) : St := chH1 z a b (x.1 : Int) x.2
def chMu1 (z : Zt) (x : Nat × ChF) : Nat := z.n - x.1
noncomputable def chG1 (z : Zt) (a b : Int) (x : Nat × ChF) (Q : Ex → St → Prop) : Prop :=
 (ZtOk z ∧ a ≤ b ∧ x.1 ≤ z.n ∧ ChIs z a b x.2 (cnt1 z a b x.1)) ∧
 ((ChIs z a b none (nR z a b) → Q (.exit 0) (chX z a b none)) ∧ ∀ n c, ChIs z a b (some (n, c)) (nR z a b) → Q (.exit 0) (chX z a b (some (n, c))))
theorem ch_vc1 {z : Zt} {a b : Int} {x : Nat × ChF} {Q : Ex → St → Prop} (hG : chG1 z a b x Q) : chVC1 z a b x.1 x.2 (again (chHx1 z a b) (chMu1 z) (chG1 z a b) x Q) (left Q) := by
 obtain ⟨k, f⟩ := x
 obtain ⟨⟨hz, hab, hk, hf⟩, q1, q2⟩ := hG
 simp only at hk hf
 have hn := hz.2.2.1
 have ka := kz_le z a z.n
 have kb := kz_le z b z.n
 have km := kz_mono z hab z.n
 have iffa : k < z.n → (k < kz z a z.n ↔ z.ta k ≤ a) := kz_iff hz.rows a z.n k (Nat.le_refl _)
 have iffb : k < z.n → (k < kz z b z.n ↔ z.ta k ≤ b) := kz_iff hz.rows b z.n k (Nat.le_refl _)
 unfold chVC1
 simp only
 rw [show Int.toNat (k : Int) = k by omega]
 have nx : ∀ f', k < z.n → ChIs z a b f' (cnt1 z a b (k + 1)) → again (chHx1 z a b) (chMu1 z) (chG1 z a b) (k, f) Q (some (chH1 z a b (IntKind.wrap .i64 ((k : Int) + 1)) f')) := fun f' h1 h2 => by
  refine ⟨(k + 1, f'), by unfold chMu1; simp only; omega, ⟨⟨hz, hab, h1, h2⟩, q1, q2⟩, ?_⟩
  rw [bL (by omega)]; rfl
 refine kA (fun c1 => ?_) fun c1 => ?_
 · have c1 : k < z.n := by have := of_decide_eq_true c1; omega
   have ib : (decide (0 ≤ (k : Int)) && decide ((k : Int) < z.n)) = true := by simp; omega
   have same : ¬ (kz z a z.n ≤ k ∧ k < kz z b z.n) → ChIs z a b f (cnt1 z a b (k + 1)) := fun q => by
    have e : cnt1 z a b (k + 1) = cnt1 z a b k := by unfold cnt1; omega
    rw [e]; exact hf
   refine brcT ib (kA (fun c2 => brcT ib (kA (fun c3 => brcT ib ?_) fun c3 => nx _ c1 (same fun q => ?_))) fun c2 => nx _ c1 (same fun q => ?_))
   · have c2 := of_decide_eq_true c2
     have c3 := of_decide_eq_true c3
     have h1 : kz z a z.n ≤ k := by have := iffa c1; omega
     have h2 : k < kz z b z.n := (iffb c1).2 c3
     have e : cnt1 z a b (k + 1) = cnt1 z a b k + 1 := by unfold cnt1; omega
     refine chPush_ok hf ?_ (by unfold cnt1; omega) fun f' h => nx f' c1 (e ▸ h)
     unfold chC
     rw [if_pos (by unfold cnt1 nR; omega), show kz z a z.n + cnt1 z a b k = k by unfold cnt1; omega]
   · have c3 := of_decide_eq_false c3
     exact c3 ((iffb c1).1 q.2)
   · have c2 := of_decide_eq_false c2
     have := (iffa c1).2 (by omega)
     omega
 · have e : k = z.n := by have := of_decide_eq_false c1; omega
   have e2 : cnt1 z a b k = nR z a b := by unfold cnt1 nR; omega
   rw [e2] at hf
   cases f with
   | none => exact ⟨_, rfl, q1 hf⟩
   | some p => obtain ⟨n, c⟩ := p; exact ⟨_, rfl, q2 n c hf⟩
structure ChC (z : Zt) (a b y : Int) : Prop where
 ok : ZtOk z
 bd : bdZ z.F = true
 ft : z.F.z = true
 ab : a ≤ b
 aska : Asked a
 askb : Asked b
 near : b ≤ a + 4194304
 lo : yAt a - 1 ≤ y
 hi : y ≤ yAt b + 2
theorem ChC.foot {z : Zt} {a b y : Int} (h : ChC z a b y) : FtOk z.F := (h.ok.foot h.ft).1.1
theorem yAt_mono {a b : Int} (ha : Asked a) (hb : Asked b) (h : a ≤ b) : yAt a ≤ yAt b := by
 obtain ⟨a0, a1, a2⟩ := yAt_in (u := a) (by have := ha.1; omega) (by have := ha.2; omega)
 obtain ⟨b0, b1, b2⟩ := yAt_in (u := b) (by have := hb.1; omega) (by have := hb.2; omega)
 rw [a0, b0]
 exact yOf_mono (by unfold dOf; omega)
theorem ix_near {F : Ft} (h : FtOk F) {u : Int} (hu : Asked u) : 2 * yAt u - 3 ≤ ix F u ∧ ix F u ≤ 2 * yAt u + 3 := by
 obtain ⟨a0, a1, a2⟩ := yAt_in (u := u) (by have := hu.1; omega) (by have := hu.2; omega)
 rw [a0]
 exact ix_bd h u
theorem ix_in {F : Ft} (h : FtOk F) (i u : Int) : (sI F i).t ≤ u ↔ i ≤ ix F u := by
 obtain ⟨a1, a2⟩ := ix_spec h u
 constructor
 · intro q
   rcases Int.lt_or_le (ix F u) i with g | g
   · have := sI_le h (i := ix F u + 1) (j := i) (by omega); omega
   · exact g
 · intro q
   have := sI_le h q
   omega
theorem in_iff {z : Zt} {a b : Int} (h : FtOk z.F) (i : Int) : ((sI z.F i).t > a ∧ (sI z.F i).t ≤ b ∧ (sI z.F i).t ≥ z.F.fr) ↔ (ix z.F (fCur z a) < i ∧ i ≤ ix z.F b) := by
 have h1 := ix_in h i (fCur z a)
 have h2 := ix_in h i b
 have e : (sI z.F i).t ≤ fCur z a ↔ ¬ ((sI z.F i).t > a ∧ (sI z.F i).t ≥ z.F.fr) := by
  unfold fCur
  split <;> omega
 rw [← h2]
 have : ix z.F (fCur z a) < i ↔ ¬ (sI z.F i).t ≤ fCur z a := by rw [h1]; omega
 rw [this, e]
 constructor
 · intro q; exact ⟨fun k => k ⟨q.1, q.2.2⟩, q.2.1⟩
 · intro q
   have : (sI z.F i).t > a ∧ (sI z.F i).t ≥ z.F.fr := Classical.byContradiction q.1
   exact ⟨this.1, q.2, this.2⟩
theorem chIn_ok {z : Zt} {a b : Int} (h : FtOk z.F) (i : Int) {X Y : Prop} (hX : ix z.F (fCur z a) < i → i ≤ ix z.F b → X) (hY : ¬ (ix z.F (fCur z a) < i ∧ i ≤ ix z.F b) → Y) : chIn z a b (sI z.F i).t X Y := by
 have k := in_iff (z := z) (a := a) (b := b) h i
 unfold chIn
 refine kA (fun c1 => kA (fun c2 => kA (fun c3 => ?_) fun c3 => ?_) fun c2 => ?_) fun c1 => ?_
 · have := k.1 ⟨of_decide_eq_true c1, of_decide_eq_true c2, of_decide_eq_true c3⟩
   exact hX this.1 this.2
 · exact hY fun q => of_decide_eq_false c3 (k.2 q).2.2
 · exact hY fun q => of_decide_eq_false c2 (k.2 q).2.1
 · exact hY fun q => of_decide_eq_false c1 (k.2 q).1
noncomputable def cntI (z : Zt) (a b i : Int) : Nat := nR z a b + (min i (ix z.F b + 1) - (ix z.F (fCur z a) + 1)).toNat
theorem cntI_in {z : Zt} {a b i : Int} (h1 : ix z.F (fCur z a) < i) (h2 : i ≤ ix z.F b) : cntI z a b (i + 1) = cntI z a b i + 1 ∧ chC z a b (cntI z a b i) = (sI z.F i).t := by
 refine ⟨by unfold cntI; omega, ?_⟩
 unfold chC cntI
 rw [if_neg (by omega)]
 congr 2
 omega
theorem cntI_out {z : Zt} {a b i : Int} (h : ¬ (ix z.F (fCur z a) < i ∧ i ≤ ix z.F b)) : cntI z a b (i + 1) = cntI z a b i := by unfold cntI; omega
theorem fCur_ge (z : Zt) (a : Int) : a ≤ fCur z a := by unfold fCur; split <;> omega
theorem ChC.cnt {z : Zt} {a b y : Int} (h : ChC z a b y) (i : Int) : cntI z a b i ≤ 9000 := by
 have hn := h.ok.2.2.1
 have ka := kz_le z a z.n
 have kb := kz_le z b z.n
 have h1 := ix_mono h.foot (fCur_ge z a)
 have h2 := (ix_near h.foot h.aska).1
 have h3 := (ix_near h.foot h.askb).2
 have h4 : yAt b ≤ yAt a + 100 := by
  obtain ⟨a0, a1, a2⟩ := yAt_in (u := a) (by have := h.aska.1; omega) (by have := h.aska.2; omega)
  obtain ⟨b0, b1, b2⟩ := yAt_in (u := b) (by have := h.askb.1; omega) (by have := h.askb.2; omega)
  have ha := yOf_spec (dOf a)
  have hb := yOf_spec (dOf b)
  have hnear := h.near
  have hd : dOf b ≤ dOf a + 50 := by unfold dOf; omega
  rcases Int.lt_or_le (yAt a + 100) (yAt b) with g | g
  · have := dby_far (yOf (dOf a) + 1) (yOf (dOf b)) (by omega)
    omega
  · exact g
 unfold cntI nR
 omega
theorem chTwo_ok {z : Zt} {a b y : Int} (h : ChC z a b y) {f : ChF} (hf : ChIs z a b f (cntI z a b (2 * y))) {R : ChF → Prop} (hR : ∀ f', ChIs z a b f' (cntI z a b (2 * (y + 1))) → R f') : chTwo z a b (tr z.F true y).t (tr z.F false y).t f R := by
 have hF := h.foot
 rw [← sI_even, ← sI_odd]
 have e2 : 2 * (y + 1) = 2 * y + 1 + 1 := by omega
 rw [e2] at hR
 have c0 := h.cnt (2 * y)
 have c1 := h.cnt (2 * y + 1)
 cases f with
 | none =>
  have hf : cntI z a b (2 * y) = 0 := hf
  have last : ChIs z a b none (cntI z a b (2 * y + 1)) → chIn z a b (sI z.F (2 * y + 1)).t (R (some (1, fun _ _ => .int .i64 (sI z.F (2 * y + 1)).t))) (R none) := fun g => by
   have g : cntI z a b (2 * y + 1) = 0 := g
   refine chIn_ok hF _ (fun k1 k2 => hR _ ?_) fun k => hR _ ?_
   · obtain ⟨e, g2⟩ := cntI_in k1 k2
     rw [e, g]
     rw [g] at g2
     exact ⟨rfl, by omega, fun i hi => by rw [show i = 0 by omega, g2]⟩
   · rw [cntI_out k]; exact g
  refine chIn_ok hF _ (fun k1 k2 => ?_) fun k => last ?_
  · obtain ⟨e, g⟩ := cntI_in k1 k2
    rw [hf] at e g
    refine chIn_ok hF _ (fun l1 l2 => hR _ ?_) fun l => hR _ ?_
    · obtain ⟨e3, g3⟩ := cntI_in l1 l2
      rw [e] at g3
      rw [e3, e]
      refine ⟨rfl, by omega, fun i hi => ?_⟩
      match i, hi with
      | 0, _ => rw [g]; rfl
      | 1, _ => rw [g3]; rfl
    · rw [cntI_out l, e]
      exact ⟨rfl, by omega, fun i hi => by rw [show i = 0 by omega, g]⟩
  · rw [cntI_out k]; exact hf
 | some p =>
  have last : ∀ g, ChIs z a b g (cntI z a b (2 * y + 1)) → chIn z a b (sI z.F (2 * y + 1)).t (chPush g (sI z.F (2 * y + 1)).t R) (R g) := fun g hg => by
   refine chIn_ok hF _ (fun k1 k2 => ?_) fun k => hR _ ?_
   · obtain ⟨e, g2⟩ := cntI_in k1 k2
     exact chPush_ok hg g2.symm (by omega) fun f' hf' => hR _ (e ▸ hf')
   · rw [cntI_out k]; exact hg
  refine chIn_ok hF _ (fun k1 k2 => ?_) fun k => last _ ?_
  · obtain ⟨e, g⟩ := cntI_in k1 k2
    exact chPush_ok hf g.symm (by omega) fun f' hf' => last _ (e ▸ hf')
  · rw [cntI_out k]; exact hf
theorem ch_vc2 {z : Zt} {a b y : Int} (h : ChC z a b y) {f : ChF} (hf : ChIs z a b f (cntI z a b (2 * y))) {R : ChF → Prop} {E : Prop} (hR : ∀ f', ChC z a b (y + 1) → ChIs z a b f' (cntI z a b (2 * (y + 1))) → R f') (hE : y = yAt b + 2 → E) : chVC2 z a b y f R E := by
 have hb := asked_bd h.askb
 have ha := h.aska
 have hb2 := h.askb
 have lo := h.lo
 have hi := h.hi
 unfold Asked at ha hb2
 unfold chVC2
 refine brcT (decide_eq_true ⟨by omega, by omega⟩) ?_
 rintro _ rfl
 rw [bL (by omega)]
 refine kA (fun c => ?_) fun c => hE ?_
 · have c := of_decide_eq_true c
   refine brcT (decide_eq_true ⟨h.foot, by omega, by omega⟩) ?_
   rintro _ rfl _ rfl _ rfl _ rfl _ rfl _ rfl _ rfl
   exact chTwo_ok h hf fun f' hf' => hR f' { h with lo := by omega, hi := by omega } hf'
 · have c := of_decide_eq_false c
   omega
noncomputable def chHx2 (z : Zt) (a b : Int) (x : Int × ChF) : St := chH2 z a b x.1 x.2
noncomputable def chMu2 {α : Type} (b : Int) (x : Int × α) : Nat := (yAt b + 2 - x.1).toNat
noncomputable def chG2 (z : Zt) (a b : Int) (x : Int × ChF) (Q : Ex → St → Prop) : Prop :=
 (ChC z a b x.1 ∧ ChIs z a b x.2 (cntI z a b (2 * x.1))) ∧
 ((ChIs z a b none (chN z a b) → Q (.exit 2) (chY z none)) ∧ ∀ n c, ChIs z a b (some (n, c)) (chN z a b) → Q (.exit 2) (chY z (some (n, c))))
noncomputable def chHx3 (z : Zt) (a b : Int) (x : Int × (Nat × (Nat → Nat → AV))) : St := chH3 z a b x.1 x.2.1 x.2.2
noncomputable def chG3 (z : Zt) (a b : Int) (x : Int × (Nat × (Nat → Nat → AV))) (Q : Ex → St → Prop) : Prop :=
 (ChC z a b x.1 ∧ ChIs z a b (some x.2) (cntI z a b (2 * x.1))) ∧
 ∀ n c, ChIs z a b (some (n, c)) (chN z a b) → Q (.exit 2) (chZ z n c)
theorem cnt_end {z : Zt} {a b : Int} (h : ChC z a b (yAt b + 2)) : cntI z a b (2 * (yAt b + 2)) = chN z a b := by
 have h1 := (ix_near h.foot h.askb).2
 unfold cntI chN nF
 rw [if_pos h.ft]
 omega
theorem cnt_start {z : Zt} {a b : Int} (h : ChC z a b (yAt a - 1)) : cntI z a b (2 * (yAt a - 1)) = nR z a b := by
 have h1 := ix_mono h.foot (fCur_ge z a)
 have h2 := (ix_near h.foot h.aska).1
 unfold cntI
 omega
theorem ch_nx {z : Zt} {a b y : Int} (h : ChC z a b (y + 1)) : IntKind.wrap .i64 (y + 1) = y + 1 := by
 have ha := h.aska
 have hb := h.askb
 have lo := h.lo
 have hi := h.hi
 unfold Asked at ha hb
 exact bL (by omega)
theorem ch_vcx2 {z : Zt} {a b : Int} {x : Int × ChF} {Q : Ex → St → Prop} (hG : chG2 z a b x Q) : chVC2 z a b x.1 x.2 (fun f => again (chHx2 z a b) (chMu2 b) (chG2 z a b) x Q (some (chH2 z a b (IntKind.wrap .i64 (x.1 + 1)) f))) (left Q (.exit 2) (some (chY z x.2))) := by
 obtain ⟨y, f⟩ := x
 obtain ⟨⟨h, hf⟩, q1, q2⟩ := hG
 simp only at h hf ⊢
 refine ch_vc2 h hf (fun f' h' hf' => ⟨(y + 1, f'), ?_, ⟨⟨h', hf'⟩, q1, q2⟩, ?_⟩) fun e => ?_
 · have := h'.hi
   unfold chMu2; simp only; omega
 · rw [ch_nx h']; rfl
 · subst e
   rw [cnt_end h] at hf
   cases f with
   | none => exact ⟨_, rfl, q1 hf⟩
   | some p => obtain ⟨n, c⟩ := p; exact ⟨_, rfl, q2 n c hf⟩
theorem ch_vcx3 {z : Zt} {a b : Int} {x : Int × (Nat × (Nat → Nat → AV))} {Q : Ex → St → Prop} (hG : chG3 z a b x Q) : chVC2 z a b x.1 (some (x.2.1, x.2.2)) (fun f => chGet f fun n c => again (chHx3 z a b) (chMu2 b) (chG3 z a b) x Q (some (chH3 z a b (IntKind.wrap .i64 (x.1 + 1)) n c))) (left Q (.exit 2) (some (chZ z x.2.1 x.2.2))) := by
 obtain ⟨y, n, c⟩ := x
 obtain ⟨⟨h, hf⟩, q2⟩ := hG
 simp only at h hf ⊢
 refine ch_vc2 h hf (fun f' h' hf' => ?_) fun e => ?_
 · cases f' with
   | none =>
    have hf' : cntI z a b (2 * (y + 1)) = 0 := hf'
    have : cntI z a b (2 * y) ≤ cntI z a b (2 * (y + 1)) := by unfold cntI; omega
    have := hf.2.1
    omega
   | some p =>
    obtain ⟨n', c'⟩ := p
    refine ⟨(y + 1, (n', c')), ?_, ⟨⟨h', hf'⟩, q2⟩, ?_⟩
    · have := h'.hi
      unfold chMu2; simp only; omega
    · rw [ch_nx h']; rfl
 · subst e
   rw [cnt_end h] at hf
   exact ⟨_, rfl, q2 n c hf⟩
set_option maxRecDepth 100000 in
theorem ch_noloops : Code.loops (loopOf Tryz.prog 79 0) = [] := by kernel_rfl
set_option maxRecDepth 100000 in
theorem loops_ch : loopsOf Tryz.prog 79 = [loopOf Tryz.prog 79 0, loopOf Tryz.prog 79 1] := by kernel_rfl
set_option maxRecDepth 100000 in
theorem first_ch1 : Code.first (loopOf Tryz.prog 79 0) = 8 := by kernel_rfl
set_option maxRecDepth 100000 in
theorem first_ch2 : Code.first (loopOf Tryz.prog 79 1) = 15 := by kernel_rfl
attribute [local irreducible] aroundN
theorem no_lc {P : Program} {b : Code} : ∀ c ∈ Code.loops b, ∀ lc, (noLoops : LTab Prop) (Code.first c) = some lc → LcOk P c lc := fun c _ lc h => by cases h
theorem ch_hround1 (z : Zt) (a b : Int) (x : Nat × ChF) (Q : Ex → St → Prop) (hG : chG1 z a b x Q) : aroundN PA Tryz.prog (tab []) noLoops 12 (loopOf Tryz.prog 79 0) (chHx1 z a b x) (fun st' => again (chHx1 z a b) (chMu1 z) (chG1 z a b) x Q (canon chCS1 st')) (fun e st' => left Q e (canon chCSX st')) := by
 have hq := ch_vc1 hG
 obtain ⟨k, f⟩ := x
 cases f with
 | none => exact Eq.mpr (ch_round1a z a b (k : Int) (again (chHx1 z a b) (chMu1 z) (chG1 z a b) (k, none) Q) (left Q)) hq
 | some p => obtain ⟨n, c⟩ := p; exact Eq.mpr (ch_round1b z a b (k : Int) n c (again (chHx1 z a b) (chMu1 z) (chG1 z a b) (k, some (n, c)) Q) (left Q)) hq
theorem ch_hround2 (z : Zt) (a b : Int) (x : Int × ChF) (Q : Ex → St → Prop) (hG : chG2 z a b x Q) : aroundN PA Tryz.prog (tab [(63, cyYear), (118, cyRyear)]) noLoops 12 (loopOf Tryz.prog 79 1) (chHx2 z a b x) (fun st' => again (chHx2 z a b) (chMu2 b) (chG2 z a b) x Q (canon chCS2 st')) (fun e st' => left Q e (canon chCSY st')) := by
 have hq := ch_vcx2 hG
 obtain ⟨k, f⟩ := x
 cases f with
 | none => exact Eq.mpr (ch_round2a z a b k (again (chHx2 z a b) (chMu2 b) (chG2 z a b) (k, none) Q) (left Q)) hq
 | some p => obtain ⟨n, c⟩ := p; exact Eq.mpr (ch_round2b z a b k n c (again (chHx2 z a b) (chMu2 b) (chG2 z a b) (k, some (n, c)) Q) (left Q)) hq
theorem ch_hround3 (z : Zt) (a b : Int) (x : Int × (Nat × (Nat → Nat → AV))) (Q : Ex → St → Prop) (hG : chG3 z a b x Q) : aroundN PA Tryz.prog (tab [(63, cyYear), (118, cyRyear)]) noLoops 12 (loopOf Tryz.prog 79 1) (chHx3 z a b x) (fun st' => again (chHx3 z a b) (chMu2 b) (chG3 z a b) x Q (canon chCS3 st')) (fun e st' => left Q e (canon chCSZ st')) := by
 have hq := ch_vcx3 hG
 obtain ⟨k, n, c⟩ := x
 exact Eq.mpr (ch_round3 z a b k n c (again (chHx3 z a b) (chMu2 b) (chG3 z a b) (k, (n, c)) Q) (left Q)) hq
theorem ch_lc1 (z : Zt) (a b : Int) (x : Nat × ChF) : LcOk Tryz.prog (loopOf Tryz.prog 79 0) (lcOf chCS1 (chHx1 z a b) (chG1 z a b) x) :=
 lc_ok (T := tab []) mixed kN (LT := noLoops) (n := 12) (noLoops_in ch_noloops) (c := chCS1) (cX := chCSX) rfl (ch_hround1 z a b) x
theorem chT_ok : TabOk Tryz.prog (tab [(63, cyYear), (118, cyRyear)]) := kB cyYearR_ok (kB cyRyear_ok kN)
theorem ch_lc2 (z : Zt) (a b : Int) (x : Int × ChF) : LcOk Tryz.prog (loopOf Tryz.prog 79 1) (lcOf chCS2 (chHx2 z a b) (chG2 z a b) x) :=
 lc_ok (T := tab [(63, cyYear), (118, cyRyear)]) mixed chT_ok (LT := noLoops) (n := 12) no_lc (c := chCS2) (cX := chCSY) rfl (ch_hround2 z a b) x
theorem ch_lc3 (z : Zt) (a b : Int) (x : Int × (Nat × (Nat → Nat → AV))) : LcOk Tryz.prog (loopOf Tryz.prog 79 1) (lcOf chCS3 (chHx3 z a b) (chG3 z a b) x) :=
 lc_ok (T := tab [(63, cyYear), (118, cyRyear)]) mixed chT_ok (LT := noLoops) (n := 12) no_lc (c := chCS3) (cX := chCSZ) rfl (ch_hround3 z a b) x
def kOf (i : Nat) (st : St) : Int := match (st.t[i]?).join with
 | some (.int _ n) => n
 | _ => 0
noncomputable def lcCh (z : Zt) (a b : Int) : St → (Ex → St → Prop) → Prop := fun st Q => brc (Nat.beq st.h.length 1) (lcOf chCS2 (chHx2 z a b) (chG2 z a b) (kOf 10 st, none) st Q) (lcOf chCS3 (chHx3 z a b) (chG3 z a b) (kOf 10 st, chOf st) st Q)
theorem lcCh_ok (z : Zt) (a b : Int) : LcOk Tryz.prog (loopOf Tryz.prog 79 1) (lcCh z a b) := fun st Q ρ W w p h hs r n => by
 unfold lcCh at h
 cases hb : Nat.beq st.h.length 1 with
 | true => rw [hb] at h; exact ch_lc2 z a b (kOf 10 st, none) st Q ρ W w p h hs r n
 | false => rw [hb] at h; exact ch_lc3 z a b (kOf 10 st, chOf st) st Q ρ W w p h hs r n
noncomputable def chLT (z : Zt) (a b : Int) : LTab Prop := fun k => if k = 8 then some (lcOf chCS1 (chHx1 z a b) (chG1 z a b) (0, none)) else if k = 15 then some (lcCh z a b) else none
theorem chLT_ok (z : Zt) (a b : Int) : LtOk Tryz.prog 79 (chLT z a b) := lt_two loops_ch first_ch1 first_ch2 (by omega) (ch_lc1 z a b (0, none)) (lcCh_ok z a b)
def SHOWc1 (z : Zt) (a b : Int) (X : Prop) (B : Nat → (Nat → Nat → AV) → Prop) : Prop :=
 isH (some (chH1 z a b 0 none)) (chHx1 z a b (0, none)) ∧
 ((ZtOk z ∧ a ≤ b ∧ 0 ≤ z.n ∧ ChIs z a b none (cnt1 z a b 0)) ∧ ((ChIs z a b none (nR z a b) → X) ∧ ∀ n c, ChIs z a b (some (n, c)) (nR z a b) → B n c))
def SHOWc2 (z : Zt) (a b y : Int) (X : Prop) (B : Nat → (Nat → Nat → AV) → Prop) : Prop :=
 isH (some (chH2 z a b y none)) (chHx2 z a b (y, none)) ∧
 ((ChC z a b y ∧ ChIs z a b none (cntI z a b (2 * y))) ∧ ((ChIs z a b none (chN z a b) → X) ∧ ∀ n c, ChIs z a b (some (n, c)) (chN z a b) → B n c))
def SHOWc3 (z : Zt) (a b y : Int) (p : Nat × (Nat → Nat → AV)) (B : Nat → (Nat → Nat → AV) → Prop) : Prop :=
 isH (some (chH3 z a b y p.1 p.2)) (chHx3 z a b (y, p)) ∧
 ((ChC z a b y ∧ ChIs z a b (some p) (cntI z a b (2 * y))) ∧ ∀ n c, ChIs z a b (some (n, c)) (chN z a b) → B n c)
set_option maxRecDepth 100000 in
theorem rchg_vc (z : Zt) (a b : Int) (K : AV → Prop) : AFL (tab [(25, zyRight), (63, cyYear)]) (chLT z a b) 12 79 [.agg (avZ z), .int .i64 a, .int .i64 b] K =
 (brc (tyR (Zt.n z) (znRow z) && bdZ (Zt.F z)) (∀ (m0 : Bool), m0 = decide (ZtOk z) → brc (!m0) (K (AV.tup [AV.nilsl, AV.int IntKind.i64 1])) (brc (decide (-9223372036854775808 ≤ a ∧ a ≤ 9223372036854775807)) (∀ (m1 : Int), m1 = yAt a → brc (decide (m1 ≥ -4714)) (brc (!decide (m1 ≤ 294278)) (K (AV.tup [AV.nilsl, AV.int IntKind.i64 10])) (brc (decide (-9223372036854775808 ≤ b ∧ b ≤ 9223372036854775807)) (∀ (m2 : Int), m2 = yAt b → brc (decide (m2 ≥ -4714)) (brc (!decide (m2 ≤ 294278)) (K (AV.tup [AV.nilsl, AV.int IntKind.i64 10])) (brc (decide (b > a)) (brc (decide (IntKind.wrap IntKind.i64 (b - a) > 4194304)) (K (AV.tup [AV.nilsl, AV.int IntKind.i64 10])) (SHOWc1 z a b (brc (!Ft.z (Zt.F z)) (K (AV.tup [AV.nilsl, AV.int IntKind.i64 0])) (brc (decide (-9223372036854775808 ≤ a ∧ a ≤ 9223372036854775807)) (∀ (m3 : Int), m3 = yAt a → SHOWc2 z a b (IntKind.wrap IntKind.i64 (m3 - 1)) (K (AV.tup [AV.nilsl, AV.int IntKind.i64 0])) fun n c => brc (Nat.ble n n && true) (K (AV.tup [AV.nv 1 n c, AV.int IntKind.i64 0])) False) False)) fun n c => brc (!Ft.z (Zt.F z)) (brc (Nat.ble n n && true) (K (AV.tup [AV.nv 1 n c, AV.int IntKind.i64 0])) False) (brc (decide (-9223372036854775808 ≤ a ∧ a ≤ 9223372036854775807)) (∀ (m3 : Int), m3 = yAt a → SHOWc3 z a b (IntKind.wrap IntKind.i64 (m3 - 1)) (n, c) fun n c => brc (Nat.ble n n && true) (K (AV.tup [AV.nv 1 n c, AV.int IntKind.i64 0])) False) False))) (SHOWc1 z a b (brc (!Ft.z (Zt.F z)) (K (AV.tup [AV.nilsl, AV.int IntKind.i64 0])) (brc (decide (-9223372036854775808 ≤ a ∧ a ≤ 9223372036854775807)) (∀ (m3 : Int), m3 = yAt a → SHOWc2 z a b (IntKind.wrap IntKind.i64 (m3 - 1)) (K (AV.tup [AV.nilsl, AV.int IntKind.i64 0])) fun n c => brc (Nat.ble n n && true) (K (AV.tup [AV.nv 1 n c, AV.int IntKind.i64 0])) False) False)) fun n c => brc (!Ft.z (Zt.F z)) (brc (Nat.ble n n && true) (K (AV.tup [AV.nv 1 n c, AV.int IntKind.i64 0])) False) (brc (decide (-9223372036854775808 ≤ a ∧ a ≤ 9223372036854775807)) (∀ (m3 : Int), m3 = yAt a → SHOWc3 z a b (IntKind.wrap IntKind.i64 (m3 - 1)) (n, c) fun n c => brc (Nat.ble n n && true) (K (AV.tup [AV.nv 1 n c, AV.int IntKind.i64 0])) False) False)))) (K (AV.tup [AV.nilsl, AV.int IntKind.i64 10]))) False)) (K (AV.tup [AV.nilsl, AV.int IntKind.i64 10]))) False)) False) := by kernel_rfl
end Go.Proofs.YtimgphlfaninnaaGreat.P
namespace Go.Proofs.YtimgphlfaninnaaGreat.A
open Go Go.RowKit
set_option linter.unusedVariables false
set_option linter.unusedSimpArgs false
def HEq1 (x y : Option (Option Ob)) : Prop := x = y ∨ ∃ e s len c c', x = some (some (.vec e s len c)) ∧ y = some (some (.vec e s len c')) ∧ ∀ i j, i < len → j < s → c i j = c' i j
def HpEq (h h' : Heap) : Prop := ∀ n : Nat, HEq1 h[n]? h'[n]?
theorem HpEq.of {h h' : Heap} (he : HpEq h h') {n : Nat} {y : Ob} (hy : h'[n]? = some (some y)) : ∃ x, h[n]? = some (some x) ∧ x.void = y.void ∧ x.excl = y.excl ∧ (y ≠ .dead → x ≠ .dead) ∧ ∀ {ρ : Names} {W w : World} {b o : Nat}, Holds ρ W w b o x → Holds ρ W w b o y := by
 rcases he n with e | ⟨e, s, len, c, c', e1, e2, e3⟩
 · exact ⟨y, e.trans hy, rfl, rfl, id, id⟩
 · rw [e2] at hy
   simp only [Option.some.injEq] at hy
   subst hy
   refine ⟨_, e1, rfl, rfl, fun _ k => (by cases k), fun {ρ W w b o} h => ?_⟩
   obtain ⟨h1, h2, L, h3, h4, h5, h6⟩ := h
   exact ⟨h1, h2, L, h3, h4, h5, fun i j hi hj => by rw [← e3 i j hi hj]; exact h6 i j hi hj⟩
theorem HpEq.from {h h' : Heap} (he : HpEq h h') {n : Nat} {x : Ob} (hx : h[n]? = some (some x)) : ∃ y, h'[n]? = some (some y) := by
 rcases he n with e | ⟨e, s, len, c, c', e1, e2, e3⟩
 · exact ⟨x, e.symm.trans hx⟩
 · exact ⟨_, e2⟩
theorem Rel.hpEq {ρ : Names} {W w : World} {h h' : Heap} (r : Rel ρ W h w) (he : HpEq h h') : Rel ρ W h' w := by
 refine ⟨r.bel, fun n p hp => ?_, fun n y hy => ?_, fun n y b o hy hex hp m p z hm hpb hz hd => ?_⟩
 · obtain ⟨⟨x, hx⟩, h2⟩ := r.dom n p hp
   exact ⟨he.from hx, h2⟩
 · obtain ⟨x, h1, h2, h3, h4, h5⟩ := he.of hy
   rcases r.obs n x h1 with q | ⟨b, o, q1, q2⟩
   · exact .inl (h2 ▸ q)
   · exact .inr ⟨b, o, q1, h5 q2⟩
 · obtain ⟨x, h1, h2, h3, h4, h5⟩ := he.of hy
   obtain ⟨x', k1, k2, k3, k4, k5⟩ := he.of hz
   exact r.sep n x b o h1 (h3 ▸ hex) hp m p x' hm hpb k1 (k4 hd)
def lcOfE {ι : Type} (c : CS) (H : ι → St) (G : ι → (Ex → St → Prop) → Prop) (x : ι) : St → (Ex → St → Prop) → Prop := fun st Q => brc (Nat.beq st.h.length c.m) ((∃ s, canon c st = some s ∧ s.t = (H x).t ∧ s.d = (H x).d ∧ HpEq s.h (H x).h) ∧ G x Q) False
theorem lcOfE_ok {P : Program} {b : Code} {ι : Type} {c : CS} {H : ι → St} {G : ι → (Ex → St → Prop) → Prop} {x : ι} (h : LcOk P b (lcOf c H G x)) (h1 : canon c (H x) = some (H x)) (h2 : (H x).h.length = c.m) : LcOk P b (lcOfE c H G x) := by
 intro st Q ρ W w a hlc hs r n bf k cs hro hb hroom
 obtain ⟨g1, ⟨s, g2, g3, g4, g5⟩, g6⟩ := brc_false.1 hlc
 have g1 := Nat.eq_of_beq_eq_true g1
 have hs2 := canonS_ok g2 hs
 have hs3 : RelS (rnm ρ c.m (sig c st)) W (H x) a w := ⟨g3 ▸ hs2.t, hs2.h.hpEq g5, g4 ▸ hs2.d⟩
 have hl : lcOf c H G x (H x) Q := brc_false.2 ⟨by rw [h2]; exact Nat.beq_refl _, h1, g6⟩
 obtain ⟨e, a', w', ⟨e', st', ρ', q1, q2, q3, q4⟩, harr⟩ := h (H x) Q _ W w a hl hs3 r n bf k cs hro hb hroom
 refine ⟨e, a', w', ⟨e', st', ρ', q1, fun q p hq => q2 q p ?_, q3, q4⟩, harr⟩
 obtain ⟨⟨y, hy⟩, _⟩ := hs.h.dom q p hq
 have := (List.getElem?_eq_some_iff.1 hy).1
 rw [rnm_low _ q (by omega)]
 exact hq
end Go.Proofs.YtimgphlfaninnaaGreat.A
namespace Go.Proofs.YtimgphlfaninnaaGreat.P
open Go.RowKit Go.Proofs.YtimgphlfaninnaaGreat.Civ Go.Proofs.YtimgphlfaninnaaGreat.Ft Go.Proofs.YtimgphlfaninnaaGreat.Zn
set_option linter.unusedVariables false
set_option linter.unusedSimpArgs false
open A
noncomputable def csChg : Con
 | [.agg l, .int .i64 a, .int .i64 b] => match rdZ l with
  | some (p, z) => some (p && decide (ZtOk z ∧ Asked a ∧ Asked b ∧ a ≤ b ∧ b ≤ a + 4194304), .tup [.nv 1 (chN z a b) (cI (chC z a b)), .int .i64 0])
  | none => none
 | _ => none
theorem le_tup2 {x x' y : AV} (h : ∀ (W : World) (n0 : Nat) (V : Value), RV noNames W x V → Fr n0 3 x V → RV noNames W x' V ∧ Fr n0 3 x' V) : AVLe (.tup [x, y]) (.tup [x', y]) := by
 intro W n0 V hv hF
 cases hv with | tup hl =>
 cases hl with | cons h1 hl =>
 cases hl with | cons h2 hl =>
 cases hl
 rename_i V1 V2
 have hF : ∀ (i : Nat) (v : AV) (V : Value), [x, y][i]? = some v → ([V1, V2] : List Value).toArray[i]? = some V → Fr n0 3 v V := hF
 have a := h W n0 _ h1 (hF 0 _ _ rfl rfl)
 refine ⟨.tup (.cons a.1 (.cons h2 .nil)), ?_⟩
 show ∀ (i : Nat) (v : AV) (V : Value), [x', y][i]? = some v → ([V1, V2] : List Value).toArray[i]? = some V → Fr n0 3 v V
 intro i v V e1 e2
 match i with
 | 0 => simp at e1 e2; subst e1 e2; exact a.2
 | 1 => simp at e1 e2; subst e1 e2; exact hF 1 _ _ rfl rfl
 | i + 2 => simp at e1
theorem res_nil {n : Nat} {g : Nat → Int} (h : n = 0) : Res (.tup [.nv 1 n (cI g), .int .i64 0]) (.tup [.nilsl, .int .i64 0]) := by
 subst h
 refine ⟨rfl, le_tup2 fun W n0 V hv hF => ?_⟩
 cases hv
 exact ⟨.nv0 _ _, trivial⟩
theorem res_nv {n : Nat} {g : Nat → Int} {c : Nat → Nat → AV} (h : ∀ i, i < n → c i 0 = .int .i64 (g i)) : Res (.tup [.nv 1 n (cI g), .int .i64 0]) (.tup [.nv 1 n c, .int .i64 0]) := by
 refine ⟨rfl, le_tup2 fun W n0 V hv hF => ?_⟩
 cases hv with
 | nv0 => exact ⟨.nv0 _ _, trivial⟩
 | nv s len cap c V hb hl hc hr hf =>
  refine ⟨.nv 1 n cap (cI g) V hb hl hc (fun i j hi hj => ?_) fun i j hi hj => rfl, hF⟩
  have k := hr i j hi hj
  rw [show j = 0 by omega] at k ⊢
  rw [h i hi] at k
  exact k
theorem res_f {z : Zt} {a b : Int} {n : Nat} {c : Nat → Nat → AV} (h : ChIs z a b (some (n, c)) (chN z a b)) : brc (Nat.ble n n && true) (Res (.tup [.nv 1 (chN z a b) (cI (chC z a b)), .int .i64 0]) (.tup [.nv 1 n c, .int .i64 0])) False := by
 obtain ⟨rfl, _, h3⟩ := h
 exact brcT (by rw [Nat.ble_eq_true_of_le (Nat.le_refl _)]; rfl) (res_nv h3)
theorem rchg_ok {z : Zt} {a b : Int} (hbd : bdZ z.F = true) (hz : ZtOk z) (ha : Asked a) (hb : Asked b) (hab : a ≤ b) (hn : b ≤ a + 4194304) : AFL (tab [(25, zyRight), (63, cyYear)]) (chLT z a b) 12 79 [.agg (avZ z), .int .i64 a, .int .i64 b] (Res (.tup [.nv 1 (chN z a b) (cI (chC z a b)), .int .i64 0])) := by
 have a1 := asked_bd ha
 have b1 := asked_bd hb
 have a2 := ha
 have b2 := hb
 unfold Asked at a2 b2
 rw [rchg_vc]
 refine brcT (tyZ z hbd) ?_
 rintro _ rfl
 refine brcF (by simp [hz]) (brcT (decide_eq_true ⟨by omega, by omega⟩) ?_)
 rintro _ rfl
 refine brcT (decide_eq_true a2.1) (brcF (by simp; exact a2.2) (brcT (decide_eq_true ⟨by omega, by omega⟩) ?_))
 rintro _ rfl
 refine brcT (decide_eq_true b2.1) (brcF (by simp; exact b2.2) ?_)
 have w1 : IntKind.wrap .i64 (yAt a - 1) = yAt a - 1 := bL (by omega)
 have tyb : decide (-9223372036854775808 ≤ a ∧ a ≤ 9223372036854775807) = true := decide_eq_true ⟨by omega, by omega⟩
 have no : z.F.z = false → nR z a b = chN z a b := fun q => by unfold chN nF; rw [if_neg (by rw [q]; decide)]; rfl
 have ym := yAt_mono ha hb hab
 have cc : z.F.z = true → ChC z a b (yAt a - 1) := fun q => ⟨hz, hbd, q, hab, ha, hb, hn, Int.le_refl _, by omega⟩
 have m1 : SHOWc1 z a b (brc (!z.F.z) (Res (.tup [.nv 1 (chN z a b) (cI (chC z a b)), .int .i64 0]) (.tup [.nilsl, .int .i64 0])) (brc (decide (-9223372036854775808 ≤ a ∧ a ≤ 9223372036854775807)) (∀ m3 : Int, m3 = yAt a → SHOWc2 z a b (IntKind.wrap .i64 (m3 - 1)) (Res (.tup [.nv 1 (chN z a b) (cI (chC z a b)), .int .i64 0]) (.tup [.nilsl, .int .i64 0])) fun n c => brc (Nat.ble n n && true) (Res (.tup [.nv 1 (chN z a b) (cI (chC z a b)), .int .i64 0]) (.tup [.nv 1 n c, .int .i64 0])) False) False))
  (fun n c => brc (!z.F.z) (brc (Nat.ble n n && true) (Res (.tup [.nv 1 (chN z a b) (cI (chC z a b)), .int .i64 0]) (.tup [.nv 1 n c, .int .i64 0])) False) (brc (decide (-9223372036854775808 ≤ a ∧ a ≤ 9223372036854775807)) (∀ m3 : Int, m3 = yAt a → SHOWc3 z a b (IntKind.wrap .i64 (m3 - 1)) (n, c) fun n c => brc (Nat.ble n n && true) (Res (.tup [.nv 1 (chN z a b) (cI (chC z a b)), .int .i64 0]) (.tup [.nv 1 n c, .int .i64 0])) False) False)) := by
  refine ⟨rfl, ⟨hz, hab, Nat.zero_le _, ?_⟩, fun h => kA (fun q => ?_) fun q => brcT tyb ?_, fun n c h => kA (fun q => ?_) fun q => brcT tyb ?_⟩
  · show cnt1 z a b 0 = 0
    unfold cnt1; omega
  · have q : z.F.z = false := by simpa using q
    have h : nR z a b = 0 := h
    exact res_nil (by rw [← no q]; exact h)
  · have q : z.F.z = true := by simpa using q
    rintro _ rfl
    rw [w1]
    exact ⟨rfl, ⟨cc q, by rw [cnt_start (cc q)]; exact h⟩, fun h => res_nil h, fun n c h => res_f h⟩
  · have q : z.F.z = false := by simpa using q
    rw [no q] at h
    exact res_f h
  · have q : z.F.z = true := by simpa using q
    rintro _ rfl
    rw [w1]
    exact ⟨rfl, ⟨cc q, by rw [cnt_start (cc q)]; exact h⟩, fun n c h => res_f h⟩
 refine kA (fun q => brcF ?_ m1) fun q => m1
 have q := of_decide_eq_true q
 rw [bL (by omega)]
 exact decide_eq_false (by omega)
theorem csChg_ok : COk Tryz.prog 79 csChg := afl_con (kB rzRight_ok (kB cyYearR_ok kN)) (by kernel_rfl) fun args p v hc hp => by
 unfold csChg at hc
 split at hc
 case h_2 => cases hc
 split at hc
 case h_2 => cases hc
 rename_i a b _ q z hl
 simp only [Option.some.injEq, Prod.mk.injEq] at hc
 obtain ⟨rfl, rfl⟩ := hc
 rw [Bool.and_eq_true] at hp
 obtain ⟨rfl, hq⟩ := hp
 obtain ⟨k1, k2⟩ := rdZ_move hl
 obtain ⟨h1, h2, h3, h4, h5⟩ := of_decide_eq_true hq
 exact ⟨_, _, _, fun w A hA => rl_1 (fun V h => k2 h) hA, chLT_ok z a b, rchg_ok k1 h1 h2 h3 h4 h5⟩
end Go.Proofs.YtimgphlfaninnaaGreat.P
namespace Go.Proofs.YtimgphlfaninnaaGreat.P
open Go.RowKit Go.Proofs.YtimgphlfaninnaaGreat.Civ Go.Proofs.YtimgphlfaninnaaGreat.Ft Go.Proofs.YtimgphlfaninnaaGreat.Zn
set_option linter.unusedVariables false
set_option linter.unusedSimpArgs false
open A
def riT (u p e c many first below behind i : Option AV) : List (Option AV) := none :: u :: p :: none :: none :: none :: none :: none :: e :: c :: none :: none :: many :: first :: below :: none :: none :: behind :: i :: none :: n10 (n10 (n10 (n10 (n10 (n10 (n10 (n10 (n10 (n10 (n10 (n10 (none :: none :: none :: []))))))))))))
noncomputable def riHp (z : Zt) (m n : Nat) (d : Nat → Nat → AV) (c : Nat → Int) (o : Tr) : Heap := [some (.cells (avZ z)), some .dead, some (.row 1 m d), some (.vec 2 1 n (cI c)), some (.cells (avT o))]
noncomputable def riH (z : Zt) (u e : Int) (m n : Nat) (d : Nat → Nat → AV) (c : Nat → Int) (o : Tr) (many first below behind i : Int) : St := ⟨riT (some (.int .i64 u)) (some (.ptr 0 0 0 0)) (some (.int .i64 e)) (some (.gs 3 1 n)) (some (.int .i64 many)) (some (.int .i64 first)) (some (.int .i64 below)) (some (.int .i64 behind)) (some (.int .i64 i)), riHp z m n d c o, []⟩
noncomputable def riX (z : Zt) (u : Int) (m n : Nat) (d : Nat → Nat → AV) (c : Nat → Int) (o : Tr) (many first behind : Int) : St := ⟨riT (some (.int .i64 u)) none none none (some (.int .i64 many)) (some (.int .i64 first)) none (some (.int .i64 behind)) none, riHp z m n d c o, []⟩
def riK : List Bool := ((((List.replicate 143 false).set 1 true).set 12 true).set 13 true).set 17 true
def riCS : CS := { m := 5, keep := ((((riK.set 2 true).set 8 true).set 9 true).set 14 true).set 18 true }
def riCSX : CS := { m := 5, keep := riK }
def ix1 (i : Int) (n : Nat) (X : Prop) : Prop := brc (decide (0 ≤ i) && decide (i < n)) (brc (decide (Int.toNat i < n)) X False) False
def riTl2 (n : Nat) (c : Nat → Int) (i : Int) (off mny fst below behind last : Int) (K : Int → Int → Int → Int → Prop) : Prop :=
 ix1 i n (brc (decide (last ≥ c (Int.toNat i))) (brc (decide (last ≥ below)) (K mny fst last off) (K mny fst below behind)) (K mny fst below behind))
def riTl (u : Int) (n : Nat) (c : Nat → Int) (i hi off mny fst below behind : Int) (K : Int → Int → Int → Int → Prop) : Prop :=
 brc (decide (IntKind.wrap .i64 (IntKind.wrap .i64 (u - off) - 1) > hi)) (riTl2 n c i off mny fst below behind hi K) (riTl2 n c i off mny fst below behind (IntKind.wrap .i64 (IntKind.wrap .i64 (u - off) - 1)) K)
def riBody (z : Zt) (u : Int) (n : Nat) (c : Nat → Int) (i hi many first below behind : Int) (K : Int → Int → Int → Int → Prop) : Prop :=
 ix1 i n (brc (tyR z.n (znRow z) && bdZ z.F && decide (-9223372036854775808 ≤ c (Int.toNat i) ∧ c (Int.toNat i) ≤ 9223372036854775807))
  (∀ m0 : Int, m0 = (atE z (c (Int.toNat i))).t → ∀ m1 : Int, m1 = (atE z (c (Int.toNat i))).off → ∀ m2 : Bool, m2 = (atE z (c (Int.toNat i))).dst → ∀ m3 : Int, m3 = zErr z (c (Int.toNat i)) →
   ix1 i n (brc (decide (IntKind.wrap .i64 (u - m1) ≥ c (Int.toNat i))) (brc (decide (IntKind.wrap .i64 (u - m1) ≤ hi))
    (brc (many == 0) (riTl u n c i hi m1 (IntKind.wrap .i64 (many + 1)) (IntKind.wrap .i64 (u - m1)) below behind K) (riTl u n c i hi m1 (IntKind.wrap .i64 (many + 1)) first below behind K))
    (riTl u n c i hi m1 many first below behind K)) (riTl u n c i hi m1 many first below behind K))) False)
def riVC (z : Zt) (u e : Int) (n : Nat) (c : Nat → Int) (many first below behind i : Int) (K : Int → Int → Int → Int → Prop) (E : Prop) : Prop :=
 brc (decide (i < n)) (brc (decide (IntKind.wrap .i64 (i + 1) < n)) (ix1 (IntKind.wrap .i64 (i + 1)) n (riBody z u n c i (IntKind.wrap .i64 (c (Int.toNat (IntKind.wrap .i64 (i + 1))) - 1)) many first below behind K)) (riBody z u n c i e many first below behind K)) E
set_option maxRecDepth 100000 in
theorem ri_round (z : Zt) (u e : Int) (m n : Nat) (d : Nat → Nat → AV) (c : Nat → Int) (o : Tr) (many first below behind i : Int) (R : Option St → Prop) (Q : Ex → Option St → Prop) : aroundN PA Tryz.prog (tab [(32, zyAt)]) noLoops 12 (loopOf Tryz.prog 38 0) (riH z u e m n d c o many first below behind i) (fun st => R (canon riCS st)) (fun e st => Q e (canon riCSX st)) =
 riVC z u e n c many first below behind i (fun mny fst bel beh => R (some (riH z u e m n d c o mny fst bel beh (IntKind.wrap .i64 (i + 1))))) (Q (.exit 0) (some (riX z u m n d c o many first behind))) := by kernel_rfl
set_option maxRecDepth 100000 in
theorem ri_noloops : Code.loops (loopOf Tryz.prog 38 0) = [] := by kernel_rfl
set_option maxRecDepth 100000 in
theorem loops_ri : loopsOf Tryz.prog 38 = [loopOf Tryz.prog 38 0] := by kernel_rfl
set_option maxRecDepth 100000 in
theorem ri_canon (z : Zt) (u e : Int) (m n : Nat) (d : Nat → Nat → AV) (c : Nat → Int) (o : Tr) (many first below behind i : Int) : canon riCS (riH z u e m n d c o many first below behind i) = some (riH z u e m n d c o many first below behind i) := by kernel_rfl
noncomputable def riC (z : Zt) (a b : Int) : Nat → Int
 | 0 => a
 | j + 1 => chC z a b j
def riNx (n : Nat) (c : Nat → Int) (e : Int) (i : Nat) : Int := if i + 1 < n then c (i + 1) else e + 1
noncomputable def riS (z : Zt) (u : Int) (n : Nat) (c : Nat → Int) (e L : Int) : Nat → Ac
 | 0 => ⟨c 0, 0, 0, L, none⟩
 | i + 1 => acS z u (riNx n c e i) (riS z u n c e L i)
def fstF : Option (Nat × (Nat → Int)) → Int
 | none => 0
 | some (_, g) => g 0
structure RiC (z : Zt) (u a b : Int) (n : Nat) (c : Nat → Int) : Prop where
 ok : ZtOk z
 bd : bdZ z.F = true
 ea : a = u - 57600
 eb : b = u + 57600
 ask : Asked u
 aska : Asked a
 askb : Asked b
 pos : 0 < n
 c0 : c 0 = a
 up : ∀ i, i + 1 < n → c i < c (i + 1) ∧ c (i + 1) ≤ b
theorem RiC.at {z : Zt} {u a b : Int} {n : Nat} {c : Nat → Int} (h : RiC z u a b n c) {L : Int} (hL : -57600 ≤ L ∧ L ≤ 57600) : ∀ i, i < n → InC z u a b (riS z u n c b L i) ∧ (riS z u n c b L i).fr = c i
 | 0, _ => by
  refine ⟨⟨h.ok, h.bd, h.ea, h.eb, h.ask, h.aska, h.askb, ?_, ?_, ?_, hL, fun n g e => ?_⟩, rfl⟩
  · show a ≤ c 0; rw [h.c0]; exact Int.le_refl _
  · show c 0 ≤ b
    have h1 := h.ea
    have h2 := h.eb
    rw [h.c0]; omega
  · show ((0 : Nat) : Int) ≤ c 0 - a
    rw [h.c0]; omega
  · cases e
 | i + 1, hi => by
  obtain ⟨h1, h2⟩ := h.at hL i (by omega)
  obtain ⟨h3, h4⟩ := h.up i hi
  have e : riNx n c b i = c (i + 1) := by unfold riNx; rw [if_pos hi]
  show InC z u a b (acS z u (riNx n c b i) (riS z u n c b L i)) ∧ riNx n c b i = c (i + 1)
  rw [e]
  exact ⟨in_next h1 (by omega) h4, rfl⟩
theorem ix1_ok {i n : Nat} {X : Prop} (h : i < n) (hX : X) : ix1 (i : Int) n X := by
 unfold ix1
 refine brcT (by simp; omega) (brcT ?_ hX)
 rw [show Int.toNat (i : Int) = i by omega]
 exact decide_eq_true h
theorem ri_body {z : Zt} {u a b : Int} {s : Ac} (h : InC z u a b s) {i n : Nat} {c : Nat → Int} (hi : i < n) (hc : c i = s.fr) {t hi' : Int} (ht : hi' = t - 1) (hlt : s.fr < t) (htb : t ≤ b + 1) {below : Int} (hb : a ≤ below ∧ below ≤ s.fr) {K : Int → Int → Int → Int → Prop}
 (hK : ∀ bel, a ≤ bel → bel ≤ t → K (cntF (acS z u t s).f) (fstF (acS z u t s).f) bel (acS z u t s).l2) : riBody z u n c i hi' (cntF s.f) (fstF s.f) below s.l2 K := by
 subst ht
 have h1 := h.bdf
 have h2 := h.bdu
 have h3 := h.off
 have hcn := h.cnt
 have hea := h.ea
 have heb := h.eb
 have hlo := h.lo
 have hhi := h.hi
 have ez : zErr z s.fr = 0 := by unfold zErr; rw [if_pos h.ok, if_pos h.askf]
 have eo : (atE z s.fr).off = (atZ z s.fr).off := by unfold atE; simp only; rw [if_pos ez]
 have ti : Int.toNat (i : Int) = i := by omega
 unfold riBody
 rw [ti, hc]
 refine ix1_ok hi (brcT ?_ ?_)
 · rw [tyZ z h.bd, decide_eq_true (show -9223372036854775808 ≤ s.fr ∧ s.fr ≤ 9223372036854775807 by omega)]; rfl
 rintro _ rfl _ rfl _ rfl _ rfl
 rw [eo]
 generalize ho : (atZ z s.fr).off = off at *
 have w1 : IntKind.wrap .i64 (u - off) = u - off := bL (by omega)
 rw [w1]
 have tail : ∀ mny fst, mny = (cntF (acS z u t s).f : Int) → fst = fstF (acS z u t s).f → riTl u n c i (t - 1) off mny fst below s.l2 K := by
  rintro _ _ rfl rfl
  unfold riTl
  rw [w1, show IntKind.wrap .i64 (u - off - 1) = u - off - 1 from bL (by omega)]
  refine kA (fun q => ?_) fun q => ?_
  · have q := of_decide_eq_true q
    unfold riTl2
    rw [ti, hc]
    refine ix1_ok hi (brcT (decide_eq_true (by omega)) (brcT (decide_eq_true (by omega)) ?_))
    have e : (acS z u t s).l2 = off := by simp only [acS]; rw [ho, if_pos (by omega)]
    have := hK (t - 1) (by omega) (by omega)
    rw [e] at this
    exact this
  · have q := of_decide_eq_false q
    unfold riTl2
    rw [ti, hc]
    refine ix1_ok hi (kA (fun r => brcT ?_ ?_) fun r => ?_)
    · have r := of_decide_eq_true r
      exact decide_eq_true (by omega)
    · have r := of_decide_eq_true r
      have e : (acS z u t s).l2 = off := by simp only [acS]; rw [ho, if_pos (by omega)]
      have := hK (u - off - 1) (by omega) (by omega)
      rw [e] at this
      exact this
    · have r := of_decide_eq_false r
      have e : (acS z u t s).l2 = s.l2 := by simp only [acS]; rw [ho, if_neg (by omega)]
      have := hK below hb.1 (by omega)
      rw [e] at this
      exact this
 have same : ¬ (s.fr ≤ u - off ∧ u - off ≤ t - 1) → riTl u n c i (t - 1) off (cntF s.f) (fstF s.f) below s.l2 K := fun q => by
  have e : (acS z u t s).f = s.f := by simp only [acS]; rw [ho, if_neg q]
  exact tail _ _ (by rw [e]) (by rw [e])
 refine ix1_ok hi (kA (fun q => kA (fun r => ?_) fun r => same fun k => of_decide_eq_false r k.2) fun q => same fun k => of_decide_eq_false q k.1)
 have q := of_decide_eq_true q
 have r := of_decide_eq_true r
 have e : (acS z u t s).f = acPush s.f (u - off) := by simp only [acS]; rw [ho, if_pos ⟨q, r⟩]
 have em : IntKind.wrap .i64 ((cntF s.f : Int) + 1) = (cntF (acS z u t s).f : Int) := by
  rw [e, cnt_push, bL (by omega)]; omega
 rw [em]
 refine kA (fun k => tail _ _ rfl ?_) fun k => tail _ _ rfl ?_
 · rw [e]
   cases hf : s.f with
   | none => rfl
   | some p =>
    obtain ⟨m, g⟩ := p
    have := h.pos m g hf
    rw [hf] at k
    have k : (m : Int) = 0 := by simpa [cntF] using k
    omega
 · rw [e]
   cases hf : s.f with
   | none => rw [hf] at k; simp [cntF] at k
   | some p =>
    obtain ⟨m, g⟩ := p
    have := h.pos m g hf
    show g 0 = if decide (0 < m) = true then g 0 else u - off
    rw [if_pos (decide_eq_true this)]
theorem riS_L {z : Zt} {u a b : Int} {n : Nat} {c : Nat → Int} (h : RiC z u a b n c) {L : Int} (hL : -57600 ≤ L ∧ L ≤ 57600) : ∀ i, i ≤ n → (riS z u n c b L i).fr = (riS z u n c b 0 i).fr ∧ (riS z u n c b L i).f = (riS z u n c b 0 i).f ∧ (0 < i → (riS z u n c b 0 i).f = none → (riS z u n c b L i).l2 = (riS z u n c b 0 i).l2)
 | 0, _ => ⟨rfl, rfl, fun q => by omega⟩
 | i + 1, hi => by
  obtain ⟨h1, h2, h3⟩ := riS_L h hL i (by omega)
  have hin := h.at (L := 0) (by omega) i (by omega)
  refine ⟨rfl, ?_, fun _ hn => ?_⟩
  · show (acS z u (riNx n c b i) (riS z u n c b L i)).f = (acS z u (riNx n c b i) (riS z u n c b 0 i)).f
    simp only [acS]
    rw [h1, h2]
  · have hn : (acS z u (riNx n c b i) (riS z u n c b 0 i)).f = none := hn
    show (acS z u (riNx n c b i) (riS z u n c b L i)).l2 = (acS z u (riNx n c b i) (riS z u n c b 0 i)).l2
    simp only [acS] at hn ⊢
    rw [h1]
    split at hn
    · rename_i q
      unfold acPush at hn
      split at hn <;> cases hn
    · rename_i q
      by_cases k : (riS z u n c b 0 i).fr < u - (atZ z (riS z u n c b 0 i).fr).off
      · rw [if_pos k, if_pos k]
      · rw [if_neg k, if_neg k]
        by_cases i0 : 0 < i
        · exact h3 i0 hn
        · exfalso
          have i0 : i = 0 := by omega
          subst i0
          have ho := hin.1.off
          have e0 : (riS z u n c b 0 0).fr = a := h.c0
          rw [e0] at k q ho
          have ea := h.ea
          have eb := h.eb
          have hx : a < riNx n c b 0 := by
           unfold riNx
           split
           · rename_i g; have := (h.up 0 g).1; rw [h.c0] at this; exact this
           · omega
          exact q ⟨by omega, by omega⟩
theorem acR_riS {z : Zt} {u b L : Int} {n : Nat} {c : Nat → Int} : ∀ (m k j : Nat), (∀ i, i < m → j + i + 1 < n ∧ c (j + i + 1) = z.ta (k + i)) → acR z u m k (riS z u n c b L j) = riS z u n c b L (j + m)
 | 0, _, _, _ => rfl
 | m + 1, k, j, h => by
  obtain ⟨h1, h2⟩ := h 0 (by omega)
  have e : riNx n c b j = z.ta k := by unfold riNx; rw [if_pos h1]; exact h2
  have ih := acR_riS (z := z) (u := u) (b := b) (L := L) (n := n) (c := c) m (k + 1) (j + 1) fun i hi => by
   have := h (i + 1) (by omega)
   rw [show j + 1 + i + 1 = j + (i + 1) + 1 by omega, show k + 1 + i = k + (i + 1) by omega]
   exact this
  show acR z u m (k + 1) (acS z u (z.ta k) (riS z u n c b L j)) = _
  rw [← e, show j + (m + 1) = j + 1 + m by omega]
  exact ih
theorem acF_riS {z : Zt} {u b L : Int} {n : Nat} {c : Nat → Int} : ∀ (m : Nat) (k : Int) (j : Nat), (∀ i : Nat, i < m → j + i + 1 < n ∧ c (j + i + 1) = (sI z.F (k + 1 + i)).t) → acF z u m k (riS z u n c b L j) = riS z u n c b L (j + m)
 | 0, _, _, _ => rfl
 | m + 1, k, j, h => by
  obtain ⟨h1, h2⟩ := h 0 (by omega)
  have e : riNx n c b j = (sI z.F (k + 1)).t := by
   unfold riNx; rw [if_pos h1]
   have h2 : c (j + 1) = (sI z.F (k + 1 + ((0 : Nat) : Int))).t := h2
   rw [h2]; simp
  have ih := acF_riS (z := z) (u := u) (b := b) (L := L) (n := n) (c := c) m (k + 1) (j + 1) fun i hi => by
   have := h (i + 1) (by omega)
   rw [show j + 1 + i + 1 = j + (i + 1) + 1 by omega, show k + 1 + 1 + (i : Int) = k + 1 + ((i + 1 : Nat) : Int) by omega]
   exact this
  show acF z u m (k + 1) (acS z u (sI z.F (k + 1)).t (riS z u n c b L j)) = _
  rw [← e, show j + (m + 1) = j + 1 + m by omega]
  exact ih
end Go.Proofs.YtimgphlfaninnaaGreat.P
namespace Go.Proofs.YtimgphlfaninnaaGreat.P
open Go.RowKit Go.Proofs.YtimgphlfaninnaaGreat.Ft Go.Proofs.YtimgphlfaninnaaGreat.Zn
set_option linter.unusedVariables false
set_option linter.unusedSimpArgs false
open A
def raKeep : List Bool := (((((List.replicate 57 false).set 1 true).set 2 true).set 4 true).set 6 true).set 7 true
def raKeepX : List Bool := ((List.replicate 57 false).set 4 true).set 6 true
def raCS : CS := { m := 3, keep := raKeep }
def raCX : CS := { m := 3, keep := raKeepX }
def raHead' (z : Zt) (u i : Int) (x : Tr) : St := ⟨(((((List.replicate 57 none).set 1 (some (.int .i64 u))).set 2 (some (.ptr 0 0 0 0))).set 4 (some (.ptr 1 0 0 0))).set 6 (some (.ptr 2 0 0 0))).set 7 (some (.int .i64 i)), raH z x, []⟩
def raHead (z : Zt) (u : Int) (i : Nat) : St := raHead' z u i (rowTr z i)
set_option maxRecDepth 100000 in
theorem ra_round (z : Zt) (u i : Int) (x : Tr) (R : Option St → Prop) (Q : Ex → Option St → Prop) : aroundN PA Tryz.prog (tab []) noLoops 6 (loopOf Tryz.prog 32 0) (raHead' z u i x) (fun st => R (canon raCS st)) (fun e st => Q e (canon raCX st)) =
 brc (decide (i < z.n)) (brc (decide (0 ≤ i) && decide (i < z.n)) (brc (decide (z.ta (Int.toNat i) ≤ u)) (brc (decide (0 ≤ i) && decide (i < z.n)) (R (some (raHead' z u (IntKind.wrap .i64 (i + 1)) ⟨z.ta (Int.toNat i), z.tf (Int.toNat i), z.td (Int.toNat i), z.tb (Int.toNat i)⟩))) False) (Q (.exit 0) (some (raEnd z x)))) False) (Q (.exit 0) (some (raEnd z x))) := by kernel_rfl
def raG (z : Zt) (u : Int) (i : Nat) (Q : Ex → St → Prop) : Prop := (i ≤ kz z u z.n ∧ z.n ≤ 8192 ∧ RowsOk z 0) ∧ Q (.exit 0) (raEnd z (rowTr z (kz z u z.n)))
set_option maxRecDepth 100000 in
theorem ra_noloops : Code.loops (loopOf Tryz.prog 32 0) = [] := by kernel_rfl
set_option maxRecDepth 100000 in
theorem loops_ra : loopsOf Tryz.prog 32 = [loopOf Tryz.prog 32 0] := by kernel_rfl
attribute [local irreducible] aroundN
theorem ra_hround (z : Zt) (u : Int) (i : Nat) (Q : Ex → St → Prop) (hG : raG z u i Q) : aroundN PA Tryz.prog (tab []) noLoops 6 (loopOf Tryz.prog 32 0) (raHead z u i) (fun st' => again (raHead z u) (znMu z) (raG z u) i Q (canon raCS st')) (fun e st' => left Q e (canon raCX st')) := by
 have hv := ra_round z u i (rowTr z i) (again (raHead z u) (znMu z) (raG z u) i Q) (left Q)
 refine Eq.mpr hv ?_
 obtain ⟨⟨h1, h2, h3⟩, hq⟩ := hG
 have hle := kz_le z u z.n
 rw [Int.toNat_natCast]
 have stop : i = kz z u z.n → left Q (.exit 0) (some (raEnd z (rowTr z i))) := fun e => ⟨_, rfl, by rw [e]; exact hq⟩
 refine kA (fun a => ?_) fun a => stop (by have := of_decide_eq_false a; omega)
 have a : i < z.n := by have := of_decide_eq_true a; omega
 have iff := kz_iff h3 u z.n i (Nat.le_refl _) a
 refine brcT (by simp; omega) (kA (fun b => brcT (by simp; omega) ?_) fun b => stop ?_)
 · have := iff.2 (of_decide_eq_true b)
   refine ⟨i + 1, by unfold znMu; omega, ⟨⟨by omega, h2, h3⟩, hq⟩, ?_⟩
   rw [bL (by omega)]; rfl
 · have b := of_decide_eq_false b
   have : ¬ i < kz z u z.n := fun q => b (iff.1 q)
   omega
theorem ra_lc (z : Zt) (u : Int) (i : Nat) : LcOk Tryz.prog (loopOf Tryz.prog 32 0) (lcOf raCS (raHead z u) (raG z u) i) :=
 lc_ok (T := tab []) mixed kN (LT := noLoops) (n := 6) (noLoops_in ra_noloops) (c := raCS) (cX := raCX) rfl (ra_hround z u) i
def SHOWrat (z : Zt) (u : Int) (P : Prop) : Prop := isH (some (raHead z u 0)) (raHead z u 0) ∧ ((0 ≤ kz z u z.n ∧ z.n ≤ 8192 ∧ RowsOk z 0) ∧ P)
set_option maxRecDepth 100000 in
theorem rat_vc (z : Zt) (u : Int) (K : AV → Prop) : AFL (tab [(25, zyRight), (63, cyYear), (64, cyStand 0)]) (fun k => if k = 10 then some (lcOf raCS (raHead z u) (raG z u) 0) else none) 6 32 [.agg (avZ z), .int .i64 u] K =
 (brc (tyR (Zt.n z) (znRow z) && bdZ (Zt.F z)) (∀ (m0 : Bool), m0 = decide (ZtOk z) → brc (!m0) (K (AV.tup [AV.agg [AV.int IntKind.i64 0, AV.int IntKind.i64 0, AV.bool false, AV.str (ByteArray.mk #[])], AV.int IntKind.i64 1])) (brc (decide (-9223372036854775808 ≤ u ∧ u ≤ 9223372036854775807)) (∀ (m1 : Int), m1 = yAt u → brc (decide (m1 ≥ -4714)) (brc (!decide (m1 ≤ 294278)) (K (AV.tup [AV.agg [AV.int IntKind.i64 0, AV.int IntKind.i64 0, AV.bool false, AV.str (ByteArray.mk #[])], AV.int IntKind.i64 10])) (brc (Ft.z (Zt.F z)) (brc (decide (u ≥ Ft.fr (Zt.F z))) (brc (decide (-9223372036854775808 ≤ u ∧ u ≤ 9223372036854775807 ∧ -9223372036854775808 ≤ Hf.m (Ft.a (Zt.F z)) ∧ Hf.m (Ft.a (Zt.F z)) ≤ 9223372036854775807 ∧ -9223372036854775808 ≤ Hf.m (Ft.b (Zt.F z)) ∧ Hf.m (Ft.b (Zt.F z)) ≤ 9223372036854775807)) (∀ (m2 : Int), m2 = Tr.t (tZ (Zt.F z) u (ix (Zt.F z) u + 0)) → ∀ (m3 : Int), m3 = Tr.off (tZ (Zt.F z) u (ix (Zt.F z) u + 0)) → ∀ (m4 : Bool), m4 = Tr.dst (tZ (Zt.F z) u (ix (Zt.F z) u + 0)) → ∀ (m5 : Int), m5 = err2 (Zt.F z) u → K (AV.tup [AV.agg [AV.int IntKind.i64 m2, AV.int IntKind.i64 m3, AV.bool m4, AV.str (Tr.ab (tZ (Zt.F z) u (ix (Zt.F z) u + 0)))], AV.int IntKind.i64 m5])) False) (SHOWrat z u (K (AV.tup [AV.agg [AV.int IntKind.i64 (Tr.t (rowTr z (kz z u (Zt.n z)))), AV.int IntKind.i64 (Tr.off (rowTr z (kz z u (Zt.n z)))), AV.bool (Tr.dst (rowTr z (kz z u (Zt.n z)))), AV.str (Tr.ab (rowTr z (kz z u (Zt.n z))))], AV.int IntKind.i64 0])))) (SHOWrat z u (K (AV.tup [AV.agg [AV.int IntKind.i64 (Tr.t (rowTr z (kz z u (Zt.n z)))), AV.int IntKind.i64 (Tr.off (rowTr z (kz z u (Zt.n z)))), AV.bool (Tr.dst (rowTr z (kz z u (Zt.n z)))), AV.str (Tr.ab (rowTr z (kz z u (Zt.n z))))], AV.int IntKind.i64 0]))))) (K (AV.tup [AV.agg [AV.int IntKind.i64 0, AV.int IntKind.i64 0, AV.bool false, AV.str (ByteArray.mk #[])], AV.int IntKind.i64 10]))) False)) False) := by kernel_rfl
theorem rat_ok {z : Zt} {u : Int} (hb : bdZ z.F = true) (h1 : -9223372036854775808 ≤ u) (h2 : u ≤ 9223372036854775807) : AFL (tab [(25, zyRight), (63, cyYear), (64, cyStand 0)]) (fun k => if k = 10 then some (lcOf raCS (raHead z u) (raG z u) 0) else none) 6 32 [.agg (avZ z), .int .i64 u] (Res (.tup [.agg (avT (atE z u)), .int .i64 (zErr z u)])) := by
 rw [rat_vc]
 have no : ∀ e : Int, zErr z u = e → e ≠ 0 → Res (.tup [.agg (avT (atE z u)), .int .i64 (zErr z u)]) (AV.tup [AV.agg [AV.int IntKind.i64 0, AV.int IntKind.i64 0, AV.bool false, AV.str (ByteArray.mk #[])], AV.int IntKind.i64 e]) := fun e he h => by
  rw [atE_no (by rw [he]; exact h), he]; exact jF rfl
 refine brcT (tyZ z hb) ?_
 rintro _ rfl
 refine kA (fun a => ?_) fun a => ?_
 · exact no 1 (by unfold zErr; rw [if_neg (by simpa using a)]) (by omega)
 have hz : ZtOk z := by simpa using a
 refine brcT (decide_eq_true ⟨h1, h2⟩) ?_
 rintro _ rfl
 have far : ¬ Asked u → Res (.tup [.agg (avT (atE z u)), .int .i64 (zErr z u)]) (AV.tup [AV.agg [AV.int IntKind.i64 0, AV.int IntKind.i64 0, AV.bool false, AV.str (ByteArray.mk #[])], AV.int IntKind.i64 10]) := fun h => no 10 (by unfold zErr; rw [if_pos hz, if_neg h]) (by omega)
 refine kA (fun b => ?_) fun b => far fun q => of_decide_eq_false b q.1
 refine kA (fun c => far fun q => by simp at c; have := q.2; omega) fun c => ?_
 have hk : Asked u := ⟨of_decide_eq_true b, by simpa using c⟩
 rw [atE_ok hz hk, zErr_ok hz hk]
 have rows : ¬ (z.F.z = true ∧ z.F.fr ≤ u) → SHOWrat z u (Res (.tup [.agg (avT (atZ z u)), .int .i64 0]) (AV.tup [AV.agg [AV.int IntKind.i64 (Tr.t (rowTr z (kz z u (Zt.n z)))), AV.int IntKind.i64 (Tr.off (rowTr z (kz z u (Zt.n z)))), AV.bool (Tr.dst (rowTr z (kz z u (Zt.n z)))), AV.str (Tr.ab (rowTr z (kz z u (Zt.n z))))], AV.int IntKind.i64 0])) := fun hf => by
  refine ⟨isH_rfl _, ⟨Nat.zero_le _, hz.2.2.1, hz.rows⟩, ?_⟩
  have e0 : atZ z u = rowTr z (kz z u z.n) := by unfold atZ; rw [if_neg hf]
  rw [e0]
  exact jF rfl
 refine kA (fun d => ?_) fun d => rows fun q => by rw [q.1] at d; cases d
 refine kA (fun e => ?_) fun e => rows fun q => of_decide_eq_false e q.2
 refine brcT (dec6 hb h1 h2) ?_
 rintro _ rfl _ rfl _ rfl _ rfl
 have e := of_decide_eq_true e
 have hk2 : AskOk z.F u := ⟨(hz.foot d).1.1, hk.1, hk.2⟩
 have e0 : atZ z u = tZ z.F u (ix z.F u + 0) := by
  unfold atZ tZ; rw [if_pos ⟨d, e⟩]; simp only [if_pos hk2]; rw [Int.add_zero]
 rw [e0, err_zero.2 hk2]
 exact jF rfl
theorem rzAt_ok : COk Tryz.prog 32 zyAt := afl_con (kB rzRight_ok (kB cyYearR_ok (kB cyAtR_ok kN))) (by kernel_rfl) fun args p v hc hp => by
 unfold zyAt at hc
 split at hc
 case h_2 => cases hc
 split at hc
 case h_2 => cases hc
 rename_i u _ q z hl
 simp only [Option.some.injEq, Prod.mk.injEq] at hc
 obtain ⟨rfl, rfl⟩ := hc
 rw [Bool.and_eq_true] at hp
 obtain ⟨rfl, hq⟩ := hp
 obtain ⟨h3, h4⟩ := of_decide_eq_true hq
 obtain ⟨k1, k2⟩ := rdZ_move hl
 exact ⟨_, _, _, fun w A hA => rl_1 (fun V h => k2 h) hA, lt_of loops_ra (ra_lc z u 0), rat_ok k1 h3 h4⟩
end Go.Proofs.YtimgphlfaninnaaGreat.P
namespace Go.Proofs.YtimgphlfaninnaaGreat.P
open Go.RowKit Go.Proofs.YtimgphlfaninnaaGreat.Civ Go.Proofs.YtimgphlfaninnaaGreat.Ft Go.Proofs.YtimgphlfaninnaaGreat.Zn
set_option linter.unusedVariables false
set_option linter.unusedSimpArgs false
open A
theorem chC_in {z : Zt} {a b : Int} (hz : ZtOk z) (ha : Asked a) (hb : Asked b) {j : Nat} (hj : j < chN z a b) : a < chC z a b j ∧ chC z a b j ≤ b ∧ (nR z a b ≤ j → z.F.z = true ∧ z.F.fr ≤ chC z a b j) := by
 have kb := kz_le z b z.n
 unfold chN at hj
 unfold chC
 split
 · rename_i h
   have h' := h
   unfold nR at h'
   have h1 := kz_iff hz.rows a z.n (kz z a z.n + j) (Nat.le_refl _) (by omega)
   have h2 := kz_iff hz.rows b z.n (kz z a z.n + j) (Nat.le_refl _) (by omega)
   refine ⟨?_, h2.1 (by omega), fun q => by omega⟩
   have : ¬ z.ta (kz z a z.n + j) ≤ a := fun q => by have := h1.2 q; omega
   omega
 · rename_i h
   by_cases hf : z.F.z = true
   · have hF := (hz.foot hf).1.1
     have e : nF z a b = (ix z.F b - ix z.F (fCur z a)).toNat := by unfold nF; rw [if_pos hf]
     have := (in_iff (z := z) (a := a) (b := b) hF (ix z.F (fCur z a) + 1 + ((j - nR z a b : Nat) : Int))).2 ⟨by omega, by omega⟩
     exact ⟨this.1, this.2.1, fun _ => ⟨hf, this.2.2⟩⟩
   · have e : nF z a b = 0 := by unfold nF; rw [if_neg hf]
     omega
theorem chC_up {z : Zt} {a b : Int} (hz : ZtOk z) (ha : Asked a) (hb : Asked b) {j : Nat} (hj : j + 1 < chN z a b) : chC z a b j < chC z a b (j + 1) := by
 have kb := kz_le z b z.n
 obtain ⟨h1, h2, h3⟩ := chC_in hz ha hb hj
 by_cases c1 : j + 1 < nR z a b
 · unfold chC
   rw [if_pos (by omega), if_pos c1]
   unfold nR at c1
   exact rows_lt' hz.rows (by omega) (by omega)
 · obtain ⟨hf, h4⟩ := h3 (by omega)
   by_cases c2 : j < nR z a b
   · have e : chC z a b j = z.ta (kz z a z.n + j) := by unfold chC; rw [if_pos c2]
     rw [e]
     unfold nR at c2
     have := row_foot hz hf (k := kz z a z.n + j) (by omega)
     omega
   · unfold chC
     rw [if_neg c2, if_neg c1]
     exact sI_lt (hz.foot hf).1.1 (by omega)
theorem riC_ok {z : Zt} {u a b : Int} (hz : ZtOk z) (hbd : bdZ z.F = true) (hu : Asked u) (ha : Asked a) (hb : Asked b) (ea : a = u - 57600) (eb : b = u + 57600) : RiC z u a b (1 + chN z a b) (riC z a b) := by
 refine ⟨hz, hbd, ea, eb, hu, ha, hb, by omega, rfl, fun i hi => ?_⟩
 cases i with
 | zero =>
  have := chC_in hz ha hb (j := 0) (by omega)
  exact ⟨this.1, this.2.1⟩
 | succ j =>
  have := chC_in hz ha hb (j := j + 1) (by omega)
  exact ⟨chC_up hz ha hb (by omega), this.2.1⟩
theorem end_riS {z : Zt} {u a b : Int} (h : CanIn z u) (ea : a = u - 57600) (eb : b = u + 57600) : sEnd z u = riS z u (1 + chN z a b) (riC z a b) b 0 (chN z a b) := by
 obtain ⟨hz, hu, ha, hb⟩ := h.zt
 obtain ⟨w1, w2, _⟩ := h.start
 subst ea eb
 have kb := kz_le z (u + 57600) z.n
 have e1 : s1Of z u = riS z u (1 + chN z (u - 57600) (u + 57600)) (riC z (u - 57600) (u + 57600)) (u + 57600) 0 (0 + nR z (u - 57600) (u + 57600)) := by
  unfold s1Of fin1
  rw [w1, w2]
  refine acR_riS (z := z) (n := 1 + chN z (u - 57600) (u + 57600)) (c := riC z (u - 57600) (u + 57600)) _ _ 0 fun i hi => ?_
  have hi : i < nR z (u - 57600) (u + 57600) := hi
  refine ⟨by unfold chN; omega, ?_⟩
  rw [show 0 + i + 1 = i + 1 by omega]
  show chC z (u - 57600) (u + 57600) i = _
  unfold chC
  rw [if_pos hi]
 rw [Nat.zero_add] at e1
 unfold sEnd
 split
 · rename_i hf
   have hF := (hz.foot hf).1.1
   have ec : curOf z u = fCur z (u - 57600) := by
    have hk := (hz.foot hf).1
    have := asked_bd (u := z.F.fr) ⟨hk.2.1, hk.2.2⟩
    unfold curOf fCur
    rw [w1, bL (show -9223372036854775808 ≤ z.F.fr - 1 ∧ z.F.fr - 1 ≤ 9223372036854775807 by omega)]
   have en : nF z (u - 57600) (u + 57600) = (ix z.F (u + 57600) - ix z.F (fCur z (u - 57600))).toNat := by unfold nF; rw [if_pos hf]
   unfold s2Of fin2
   rw [w2, ec, e1, ← en]
   refine acF_riS (z := z) (n := 1 + chN z (u - 57600) (u + 57600)) (c := riC z (u - 57600) (u + 57600)) _ _ _ fun i hi => ?_
   refine ⟨by unfold chN; omega, ?_⟩
   show chC z (u - 57600) (u + 57600) (nR z (u - 57600) (u + 57600) + i) = _
   unfold chC
   rw [if_neg (by omega), show nR z (u - 57600) (u + 57600) + i - nR z (u - 57600) (u + 57600) = i by omega]
 · rename_i hf
   have en : chN z (u - 57600) (u + 57600) = nR z (u - 57600) (u + 57600) := by unfold chN nF; rw [if_neg hf]; rfl
   rw [e1, en]
theorem inst_riS {z : Zt} {u a b L : Int} (h : CanIn z u) (ea : a = u - 57600) (eb : b = u + 57600) (hL : -57600 ≤ L ∧ L ≤ 57600) : instE z u = instF u (riS z u (1 + chN z a b) (riC z a b) b L (1 + chN z a b)) := by
 obtain ⟨hz, hu, ha, hb⟩ := h.zt
 have hc := riC_ok hz h.bd hu (ea ▸ ha) (eb ▸ hb) ea eb
 obtain ⟨_, h2, h3⟩ := riS_L hc hL _ (Nat.le_refl _)
 have e0 : instE z u = instF u (riS z u (1 + chN z a b) (riC z a b) b 0 (1 + chN z a b)) := by
  unfold instE
  rw [if_pos h.ok]
  unfold instZ
  rw [end_riS h ea eb, show 1 + chN z a b = chN z a b + 1 by omega]
  show _ = instF u (acS z u (riNx (chN z a b + 1) (riC z a b) b (chN z a b)) _)
  rw [show riNx (chN z a b + 1) (riC z a b) b (chN z a b) = u + 57601 by unfold riNx; rw [if_neg (by omega)]; omega]
 rw [e0]
 unfold instF
 rw [h2]
 cases hf : (riS z u (1 + chN z a b) (riC z a b) b 0 (1 + chN z a b)).f with
 | none => simp only; rw [h3 (by omega) hf]
 | some p => rfl
theorem chN_le {z : Zt} {a b : Int} (hz : ZtOk z) (hbd : bdZ z.F = true) (ha : Asked a) (hb : Asked b) (hab : a ≤ b) (hn : b ≤ a + 4194304) : chN z a b ≤ 9000 := by
 by_cases hf : z.F.z = true
 · have ym := yAt_mono ha hb hab
   have cc : ChC z a b (yAt b + 2) := ⟨hz, hbd, hf, hab, ha, hb, hn, by omega, Int.le_refl _⟩
   rw [← cnt_end cc]
   exact cc.cnt _
 · have h1 := hz.2.2.1
   have kb := kz_le z b z.n
   unfold chN nF nR
   rw [if_neg hf]
   omega
noncomputable def riSt (z : Zt) (u a b : Int) : Nat → Ac := riS z u (1 + chN z a b) (riC z a b) b (atE z a).off
noncomputable def riHx (z : Zt) (u a b : Int) (x : Nat × Int) : St := riH z u b (chN z a b) (1 + chN z a b) (cI (chC z a b)) (riC z a b) (atE z a) (cntF (riSt z u a b x.1).f) (fstF (riSt z u a b x.1).f) x.2 (riSt z u a b x.1).l2 x.1
noncomputable def riMu (z : Zt) (a b : Int) (x : Nat × Int) : Nat := 1 + chN z a b - x.1
noncomputable def riEnd (z : Zt) (u : Int) : Ac := riSt z u (IntKind.wrap .i64 (u - 57600)) (IntKind.wrap .i64 (u + 57600)) (1 + chN z (IntKind.wrap .i64 (u - 57600)) (IntKind.wrap .i64 (u + 57600)))
noncomputable def riMany (z : Zt) (u : Int) : Int := (cntF (riEnd z u).f : Int)
noncomputable def riFirst (z : Zt) (u : Int) : Int := fstF (riEnd z u).f
noncomputable def riBehind (z : Zt) (u : Int) : Int := (riEnd z u).l2
noncomputable def riXe (z : Zt) (u a b : Int) : St := riX z u (chN z a b) (1 + chN z a b) (cI (chC z a b)) (riC z a b) (atE z a) (cntF (riSt z u a b (1 + chN z a b)).f) (fstF (riSt z u a b (1 + chN z a b)).f) (riSt z u a b (1 + chN z a b)).l2
def RiInv (z : Zt) (u a b : Int) (x : Nat × Int) : Prop := RiC z u a b (1 + chN z a b) (riC z a b) ∧ x.1 ≤ 1 + chN z a b ∧ chN z a b ≤ 9000 ∧ a ≤ x.2 ∧ x.2 ≤ (riSt z u a b x.1).fr
noncomputable def riG (z : Zt) (u a b : Int) (x : Nat × Int) (Q : Ex → St → Prop) : Prop := RiInv z u a b x ∧ Q (.exit 0) (riXe z u a b)
theorem at_off {z : Zt} {a : Int} (hz : ZtOk z) (ha : Asked a) : (atE z a).off = (atZ z a).off ∧ -57600 ≤ (atE z a).off ∧ (atE z a).off ≤ 57600 := by
 have ez : zErr z a = 0 := by unfold zErr; rw [if_pos hz, if_pos ha]
 have eo : (atE z a).off = (atZ z a).off := by unfold atE; simp only; rw [if_pos ez]
 have := atZ_off hz a
 rw [eo]
 exact ⟨rfl, this⟩
theorem ri_vc {z : Zt} {u a b : Int} {x : Nat × Int} {Q : Ex → St → Prop} (hG : riG z u a b x Q) : riVC z u b (1 + chN z a b) (riC z a b) (cntF (riSt z u a b x.1).f) (fstF (riSt z u a b x.1).f) x.2 (riSt z u a b x.1).l2 x.1
 (fun mny fst bel beh => again (riHx z u a b) (riMu z a b) (riG z u a b) x Q (some (riH z u b (chN z a b) (1 + chN z a b) (cI (chC z a b)) (riC z a b) (atE z a) mny fst bel beh (IntKind.wrap .i64 ((x.1 : Int) + 1)))))
 (left Q (.exit 0) (some (riX z u (chN z a b) (1 + chN z a b) (cI (chC z a b)) (riC z a b) (atE z a) (cntF (riSt z u a b x.1).f) (fstF (riSt z u a b x.1).f) (riSt z u a b x.1).l2))) := by
 obtain ⟨i, below⟩ := x
 obtain ⟨⟨hc, hi, hn, hb1, hb2⟩, hq⟩ := hG
 simp only at hi hb1 hb2 ⊢
 have w : IntKind.wrap .i64 ((i : Int) + 1) = ((i + 1 : Nat) : Int) := by rw [bL (by omega)]; omega
 unfold riVC
 rw [w]
 refine kA (fun c1 => ?_) fun c1 => ?_
 · have c1 : i < 1 + chN z a b := by have := of_decide_eq_true c1; omega
   obtain ⟨hin, hfr⟩ := hc.at (at_off hc.ok hc.aska).2 i c1
   have hin : InC z u a b (riSt z u a b i) := hin
   have hfr : (riSt z u a b i).fr = riC z a b i := hfr
   have nx : ∀ t, t = riNx (1 + chN z a b) (riC z a b) b i → ∀ bel, a ≤ bel → bel ≤ t → again (riHx z u a b) (riMu z a b) (riG z u a b) (i, below) Q (some (riH z u b (chN z a b) (1 + chN z a b) (cI (chC z a b)) (riC z a b) (atE z a) (cntF (acS z u t (riSt z u a b i)).f) (fstF (acS z u t (riSt z u a b i)).f) bel (acS z u t (riSt z u a b i)).l2 ((i + 1 : Nat) : Int))) := by
    rintro _ rfl bel h1 h2
    exact ⟨(i + 1, bel), by unfold riMu; simp only; omega, ⟨⟨hc, by simp only; omega, hn, h1, h2⟩, hq⟩, rfl⟩
   refine kA (fun c2 => ?_) fun c2 => ?_
   · have c2 : i + 1 < 1 + chN z a b := by have := of_decide_eq_true c2; omega
     have et : riNx (1 + chN z a b) (riC z a b) b i = riC z a b (i + 1) := by unfold riNx; rw [if_pos c2]
     obtain ⟨h1, h2⟩ := hc.up i c2
     refine ix1_ok c2 ?_
     rw [show Int.toNat ((i + 1 : Nat) : Int) = i + 1 by omega]
     have ha := asked_bd hc.aska
     have hbb := asked_bd hc.askb
     have hlo := hin.lo
     refine ri_body hin c1 hfr.symm (t := riC z a b (i + 1)) (bL (by omega)) (by omega) (by omega) ⟨hb1, hb2⟩ fun bel g1 g2 => nx _ et.symm bel g1 g2
   · have c2 : ¬ i + 1 < 1 + chN z a b := by have := of_decide_eq_false c2; omega
     have et : riNx (1 + chN z a b) (riC z a b) b i = b + 1 := by unfold riNx; rw [if_neg c2]
     have hhi := hin.hi
     exact ri_body hin c1 hfr.symm (t := b + 1) (by omega) (by omega) (by omega) ⟨hb1, hb2⟩ fun bel g1 g2 => nx _ et.symm bel g1 g2
 · have e : i = 1 + chN z a b := by have := of_decide_eq_false c1; omega
   subst e
   exact ⟨_, rfl, hq⟩
attribute [local irreducible] aroundN
theorem ri_hround (z : Zt) (u a b : Int) (x : Nat × Int) (Q : Ex → St → Prop) (hG : riG z u a b x Q) : aroundN PA Tryz.prog (tab [(32, zyAt)]) noLoops 12 (loopOf Tryz.prog 38 0) (riHx z u a b x) (fun st' => again (riHx z u a b) (riMu z a b) (riG z u a b) x Q (canon riCS st')) (fun e st' => left Q e (canon riCSX st')) :=
 Eq.mpr (ri_round z u b (chN z a b) (1 + chN z a b) (cI (chC z a b)) (riC z a b) (atE z a) (cntF (riSt z u a b x.1).f) (fstF (riSt z u a b x.1).f) x.2 (riSt z u a b x.1).l2 x.1 (again (riHx z u a b) (riMu z a b) (riG z u a b) x Q) (left Q)) (ri_vc hG)
theorem ri_lc (z : Zt) (u a b : Int) (x : Nat × Int) : LcOk Tryz.prog (loopOf Tryz.prog 38 0) (lcOfE riCS (riHx z u a b) (riG z u a b) x) :=
 lcOfE_ok (lc_ok (T := tab [(32, zyAt)]) mixed (kB rzAt_ok kN) (LT := noLoops) (n := 12) (noLoops_in ri_noloops) (c := riCS) (cX := riCSX) rfl (ri_hround z u a b) x) (ri_canon ..) rfl
noncomputable def riLT (z : Zt) (u : Int) : LTab Prop := fun k => if k = 17 then some (lcOfE riCS (riHx z u (IntKind.wrap .i64 (u - 57600)) (IntKind.wrap .i64 (u + 57600))) (riG z u (IntKind.wrap .i64 (u - 57600)) (IntKind.wrap .i64 (u + 57600))) (0, IntKind.wrap .i64 (u - 57600))) else none
theorem riLT_ok (z : Zt) (u : Int) : LtOk Tryz.prog 38 (riLT z u) := lt_of loops_ri (ri_lc z u _ _ _)
def SHOWi (z : Zt) (u L : Int) (ob : Option Ob) (P : Prop) : Prop :=
 (∃ s, some (⟨riT (some (.int .i64 u)) (some (.ptr 0 0 0 0)) (some (.int .i64 (IntKind.wrap .i64 (u + 57600)))) (some (.gs 3 1 (1 + chN z (IntKind.wrap .i64 (u - 57600)) (IntKind.wrap .i64 (u + 57600))))) (some (.int .i64 0)) (some (.int .i64 0)) (some (.int .i64 (IntKind.wrap .i64 (u - 57600)))) (some (.int .i64 L)) (some (.int .i64 0)),
  [some (.cells (avZ z)), some .dead, some (.row 1 (chN z (IntKind.wrap .i64 (u - 57600)) (IntKind.wrap .i64 (u + 57600))) (cI (chC z (IntKind.wrap .i64 (u - 57600)) (IntKind.wrap .i64 (u + 57600))))), some (.vec 2 1 (1 + chN z (IntKind.wrap .i64 (u - 57600)) (IntKind.wrap .i64 (u + 57600))) (joinC (listC 1 [.int .i64 (IntKind.wrap .i64 (u - 57600))]) 1 (cI (chC z (IntKind.wrap .i64 (u - 57600)) (IntKind.wrap .i64 (u + 57600)))))), ob], []⟩ : St) = some s ∧
  s.t = (riHx z u (IntKind.wrap .i64 (u - 57600)) (IntKind.wrap .i64 (u + 57600)) (0, IntKind.wrap .i64 (u - 57600))).t ∧ s.d = (riHx z u (IntKind.wrap .i64 (u - 57600)) (IntKind.wrap .i64 (u + 57600)) (0, IntKind.wrap .i64 (u - 57600))).d ∧ HpEq s.h (riHx z u (IntKind.wrap .i64 (u - 57600)) (IntKind.wrap .i64 (u + 57600)) (0, IntKind.wrap .i64 (u - 57600))).h) ∧
 (RiInv z u (IntKind.wrap .i64 (u - 57600)) (IntKind.wrap .i64 (u + 57600)) (0, IntKind.wrap .i64 (u - 57600)) ∧ P)
set_option maxRecDepth 100000 in
theorem rins_vc (z : Zt) (u : Int) (K : AV → Prop) : AFL (tab [(25, zyRight), (63, cyYear), (79, csChg), (32, zyAt)]) (riLT z u) 12 38 [.agg (avZ z), .int .i64 u] K =
 (brc (tyR (Zt.n z) (znRow z) && bdZ (Zt.F z)) (∀ (m0 : Bool), m0 = decide (ZtOk z) → brc (!m0) (K (AV.tup [AV.int IntKind.i64 0, AV.int IntKind.i64 0, AV.int IntKind.i64 1])) (brc (decide (-9223372036854775808 ≤ u ∧ u ≤ 9223372036854775807)) (∀ (m1 : Int), m1 = yAt u → brc (decide (m1 ≥ -4714)) (brc (!decide (m1 ≤ 294278)) (K (AV.tup [AV.int IntKind.i64 0, AV.int IntKind.i64 0, AV.int IntKind.i64 10])) (brc (decide (-9223372036854775808 ≤ IntKind.wrap IntKind.i64 (u - 57600) ∧ IntKind.wrap IntKind.i64 (u - 57600) ≤ 9223372036854775807)) (∀ (m2 : Int), m2 = yAt (IntKind.wrap IntKind.i64 (u - 57600)) → brc (decide (m2 ≥ -4714)) (brc (!decide (m2 ≤ 294278)) (K (AV.tup [AV.int IntKind.i64 0, AV.int IntKind.i64 0, AV.int IntKind.i64 10])) (brc (decide (-9223372036854775808 ≤ IntKind.wrap IntKind.i64 (u + 57600) ∧ IntKind.wrap IntKind.i64 (u + 57600) ≤ 9223372036854775807)) (∀ (m3 : Int), m3 = yAt (IntKind.wrap IntKind.i64 (u + 57600)) → brc (decide (m3 ≥ -4714)) (brc (!decide (m3 ≤ 294278)) (K (AV.tup [AV.int IntKind.i64 0, AV.int IntKind.i64 0, AV.int IntKind.i64 10])) (brc (tyR (Zt.n z) (znRow z) && bdZ (Zt.F z) && decide (ZtOk z ∧ Asked (IntKind.wrap IntKind.i64 (u - 57600)) ∧ Asked (IntKind.wrap IntKind.i64 (u + 57600)) ∧ IntKind.wrap IntKind.i64 (u - 57600) ≤ IntKind.wrap IntKind.i64 (u + 57600) ∧ IntKind.wrap IntKind.i64 (u + 57600) ≤ IntKind.wrap IntKind.i64 (u - 57600) + 4194304)) (∀ (m4 : Int), m4 = 0 → brc (Nat.ble (chN z (IntKind.wrap IntKind.i64 (u - 57600)) (IntKind.wrap IntKind.i64 (u + 57600))) (chN z (IntKind.wrap IntKind.i64 (u - 57600)) (IntKind.wrap IntKind.i64 (u + 57600))) && oneC 1 (chN z (IntKind.wrap IntKind.i64 (u - 57600)) (IntKind.wrap IntKind.i64 (u + 57600))) (cI (chC z (IntKind.wrap IntKind.i64 (u - 57600)) (IntKind.wrap IntKind.i64 (u + 57600)))) && roomB (1 + chN z (IntKind.wrap IntKind.i64 (u - 57600)) (IntKind.wrap IntKind.i64 (u + 57600))) 8) (brc (tyR (Zt.n z) (znRow z) && bdZ (Zt.F z) && decide (-9223372036854775808 ≤ IntKind.wrap IntKind.i64 (u - 57600) ∧ IntKind.wrap IntKind.i64 (u - 57600) ≤ 9223372036854775807)) (∀ (m5 : Int), m5 = Tr.t (atE z (IntKind.wrap IntKind.i64 (u - 57600))) → ∀ (m6 : Int), m6 = Tr.off (atE z (IntKind.wrap IntKind.i64 (u - 57600))) → ∀ (m7 : Bool), m7 = Tr.dst (atE z (IntKind.wrap IntKind.i64 (u - 57600))) → ∀ (m8 : Int), m8 = zErr z (IntKind.wrap IntKind.i64 (u - 57600)) → SHOWi z u m6 (some (Ob.cells [AV.int IntKind.i64 m5, AV.int IntKind.i64 m6, AV.bool m7, AV.str (Tr.ab (atE z (IntKind.wrap IntKind.i64 (u - 57600))))])) (brc (riMany z u == 0) (K (AV.tup [AV.int IntKind.i64 (IntKind.wrap IntKind.i64 (u - riBehind z u)), AV.int IntKind.i64 2, AV.int IntKind.i64 0])) (brc (riMany z u == 1) (K (AV.tup [AV.int IntKind.i64 (riFirst z u), AV.int IntKind.i64 0, AV.int IntKind.i64 0])) (K (AV.tup [AV.int IntKind.i64 (riFirst z u), AV.int IntKind.i64 1, AV.int IntKind.i64 0]))))) False) False) False)) (K (AV.tup [AV.int IntKind.i64 0, AV.int IntKind.i64 0, AV.int IntKind.i64 10]))) False)) (K (AV.tup [AV.int IntKind.i64 0, AV.int IntKind.i64 0, AV.int IntKind.i64 10]))) False)) (K (AV.tup [AV.int IntKind.i64 0, AV.int IntKind.i64 0, AV.int IntKind.i64 10]))) False)) False) := by kernel_rfl
theorem joinC_cut {z : Zt} {a b : Int} (i j : Nat) (hi : i < 1 + chN z a b) (hj : j < 1) : joinC (listC 1 [.int .i64 a]) 1 (cI (chC z a b)) i j = cI (riC z a b) i j := by
 rw [show j = 0 by omega]
 cases i with
 | zero => rfl
 | succ k => rfl
theorem oneC_cI (m : Nat) (g : Nat → Int) : oneC 1 m (cI g) = true := @decide_eq_true _ (Classical.propDecidable _) fun i j _ hj => by
 match j, hj with
 | 0, _ => rfl
theorem show_i {z : Zt} {u : Int} (h : CanIn z u) {P : Prop} (hP : P) : SHOWi z u (atE z (IntKind.wrap .i64 (u - 57600))).off (some (.cells (avT (atE z (IntKind.wrap .i64 (u - 57600)))))) P := by
 obtain ⟨hz, hu, ha, hb⟩ := h.zt
 obtain ⟨w1, w2, _⟩ := h.start
 refine ⟨⟨_, rfl, rfl, rfl, fun n => ?_⟩, ⟨?_, by simp only; omega, ?_, Int.le_refl _, Int.le_refl _⟩, hP⟩
 · match n with
   | 0 => exact .inl rfl
   | 1 => exact .inl rfl
   | 2 => exact .inl rfl
   | 3 => exact .inr ⟨_, _, _, _, _, rfl, rfl, fun i j hi hj => joinC_cut i j hi hj⟩
   | 4 => exact .inl rfl
   | k + 5 => exact .inl rfl
 · rw [w1, w2]; exact riC_ok hz h.bd hu ha hb rfl rfl
 · rw [w1, w2]; exact chN_le hz h.bd ha hb (by omega) (by omega)
theorem rins_ok {z : Zt} {u : Int} (hbd : bdZ z.F = true) (h1 : -9223372036854775808 ≤ u) (h2 : u ≤ 9223372036854775807) : AFL (tab [(25, zyRight), (63, cyYear), (79, csChg), (32, zyAt)]) (riLT z u) 12 38 [.agg (avZ z), .int .i64 u] (Res (.tup [.int .i64 (instE z u).1, .int .i64 (instE z u).2, .int .i64 (iErr z u)])) := by
 have no : ∀ e : Int, iErr z u = e → e ≠ 0 → Res (.tup [.int .i64 (instE z u).1, .int .i64 (instE z u).2, .int .i64 (iErr z u)]) (AV.tup [AV.int IntKind.i64 0, AV.int IntKind.i64 0, AV.int IntKind.i64 e]) := fun e he h => by
  have : instE z u = (0, 0) := by unfold instE; rw [if_neg (by rw [he]; exact h)]
  rw [this, he]
  exact jF rfl
 rw [rins_vc]
 refine brcT (tyZ z hbd) ?_
 rintro _ rfl
 refine kA (fun a => ?_) fun a => ?_
 · exact no 1 (by unfold iErr; rw [if_neg (by simpa using a)]) (by omega)
 have hz : ZtOk z := by simpa using a
 have far : ¬ (Asked u ∧ Asked (u - 57600) ∧ Asked (u + 57600)) → Res (.tup [.int .i64 (instE z u).1, .int .i64 (instE z u).2, .int .i64 (iErr z u)]) (AV.tup [AV.int IntKind.i64 0, AV.int IntKind.i64 0, AV.int IntKind.i64 10]) := fun h => no 10 (by unfold iErr; rw [if_pos hz, if_neg h]) (by omega)
 refine brcT (decide_eq_true ⟨h1, h2⟩) ?_
 rintro _ rfl
 refine kA (fun c1 => kA (fun c2 => far fun q => ?_) fun c2 => ?_) fun c1 => far fun q => of_decide_eq_false c1 q.1.1
 · have := q.1.2; simp at c2; omega
 have hu : Asked u := ⟨of_decide_eq_true c1, by simpa using c2⟩
 have hub := asked_bd hu
 have w1 : IntKind.wrap .i64 (u - 57600) = u - 57600 := bL (by omega)
 have w2 : IntKind.wrap .i64 (u + 57600) = u + 57600 := bL (by omega)
 rw [w1, w2]
 refine brcT (decide_eq_true ⟨by omega, by omega⟩) ?_
 rintro _ rfl
 refine kA (fun c3 => kA (fun c4 => far fun q => ?_) fun c4 => ?_) fun c3 => far fun q => of_decide_eq_false c3 q.2.1.1
 · have := q.2.1.2; simp at c4; omega
 have ha : Asked (u - 57600) := ⟨of_decide_eq_true c3, by simpa using c4⟩
 refine brcT (decide_eq_true ⟨by omega, by omega⟩) ?_
 rintro _ rfl
 refine kA (fun c5 => kA (fun c6 => far fun q => ?_) fun c6 => ?_) fun c5 => far fun q => of_decide_eq_false c5 q.2.2.1
 · have := q.2.2.2; simp at c6; omega
 have hb : Asked (u + 57600) := ⟨of_decide_eq_true c5, by simpa using c6⟩
 have hok : iErr z u = 0 := by unfold iErr; rw [if_pos hz, if_pos ⟨hu, ha, hb⟩]
 have can : CanIn z u := ⟨hbd, hok⟩
 have hn := chN_le hz hbd ha hb (by omega) (by omega)
 refine brcT (by rw [tyZ z hbd, decide_eq_true (show ZtOk z ∧ Asked (u - 57600) ∧ Asked (u + 57600) ∧ u - 57600 ≤ u + 57600 ∧ u + 57600 ≤ u - 57600 + 4194304 from ⟨hz, ha, hb, by omega, by omega⟩)]; rfl) ?_
 rintro _ rfl
 refine brcT ?_ (brcT (by rw [tyZ z hbd, decide_eq_true (show -9223372036854775808 ≤ u - 57600 ∧ u - 57600 ≤ 9223372036854775807 by omega)]; rfl) ?_)
 · rw [Nat.ble_eq_true_of_le (Nat.le_refl _), oneC_cI]
   unfold roomB
   rw [Nat.ble_eq_true_of_le (show 1 + chN z (u - 57600) (u + 57600) ≤ maxLen by unfold maxLen; omega), Nat.ble_eq_true_of_le (show (1 + chN z (u - 57600) (u + 57600)) * 8 ≤ 140737488355328 by omega)]
   rfl
 rintro _ rfl _ rfl _ rfl _ rfl
 have ho := (at_off hz ha).2
 have ei := inst_riS can rfl rfl ho
 have hin : -57600 ≤ (riEnd z u).l2 ∧ (riEnd z u).l2 ≤ 57600 ∧ ∀ n g, (riEnd z u).f = some (n, g) → 0 < n := by
  have hc := riC_ok hz hbd hu ha hb rfl rfl
  obtain ⟨g1, _⟩ := hc.at ho (chN z (u - 57600) (u + 57600)) (by omega)
  have e : riEnd z u = acS z u (riNx (1 + chN z (u - 57600) (u + 57600)) (riC z (u - 57600) (u + 57600)) (u + 57600) (chN z (u - 57600) (u + 57600))) (riS z u (1 + chN z (u - 57600) (u + 57600)) (riC z (u - 57600) (u + 57600)) (u + 57600) (atE z (u - 57600)).off (chN z (u - 57600) (u + 57600))) := by
   unfold riEnd riSt
   rw [w1, w2, show 1 + chN z (u - 57600) (u + 57600) = chN z (u - 57600) (u + 57600) + 1 by omega]
   rfl
  rw [e]
  refine ⟨?_, ?_, acS_pos g1.pos⟩
  · have h3 := g1.off
    have h4 := g1.l2
    simp only [acS]
    split <;> omega
  · have h3 := g1.off
    have h4 := g1.l2
    simp only [acS]
    split <;> omega
 have ee : instE z u = instF u (riEnd z u) := by
  rw [ei]
  unfold riEnd riSt
  rw [w1, w2]
 rw [← w1]
 refine show_i can ?_
 rw [hok, ee]
 unfold riMany riFirst riBehind instF
 obtain ⟨l1, l2, l3⟩ := hin
 rw [bL (show -9223372036854775808 ≤ u - (riEnd z u).l2 ∧ u - (riEnd z u).l2 ≤ 9223372036854775807 by omega)]
 cases hf : (riEnd z u).f with
 | none => exact brcT rfl (jF rfl)
 | some p =>
  obtain ⟨n, g⟩ := p
  have hp := l3 n g hf
  have nz : (((cntF (some (n, g)) : Nat) : Int) == 0) = false := by simp [cntF]; omega
  refine brcF nz (kA (fun q => ?_) fun q => ?_)
  · have q : n = 1 := by have : ((n : Nat) : Int) = 1 := by simpa [cntF] using q
                         omega
    simp only
    rw [if_pos q]
    exact jF rfl
  · have q : ¬ n = 1 := fun e => by subst e; simp [cntF] at q
    simp only
    rw [if_neg q]
    exact jF rfl
theorem rzInst_ok : COk Tryz.prog 38 zyInst := afl_con (kB rzRight_ok (kB cyYearR_ok (kB csChg_ok (kB rzAt_ok kN)))) (by kernel_rfl) fun args p v hc hp => by
 unfold zyInst at hc
 split at hc
 case h_2 => cases hc
 split at hc
 case h_2 => cases hc
 rename_i u _ q z hl
 simp only [Option.some.injEq, Prod.mk.injEq] at hc
 obtain ⟨rfl, rfl⟩ := hc
 rw [Bool.and_eq_true] at hp
 obtain ⟨rfl, hq⟩ := hp
 obtain ⟨h3, h4⟩ := of_decide_eq_true hq
 obtain ⟨k1, k2⟩ := rdZ_move hl
 exact ⟨_, _, _, fun w A hA => rl_1 (fun V h => k2 h) hA, riLT_ok z u, rins_ok k1 h3 h4⟩
theorem crRS_ok : COk Tryz.prog 30 csRS := by
 intro args p v hc hp w A hA
 unfold csRS at hc
 split at hc
 case h_2 => cases hc
 rename_i i u
 simp only [Option.some.injEq, Prod.mk.injEq] at hc
 obtain ⟨rfl, rfl⟩ := hc
 obtain rfl : A = [.agg #[.int .i64 i, .int .i64 u]] := by simpa [kF, kL, kM, bG] using hA
 obtain ⟨K, hK⟩ := rdrightS_ev i u (of_decide_eq_true hp)
 exact kH (fn := Tryz.f30) Tryz.func30 (by kernel_rfl) (by kernel_rfl) (bM.calls K _ _ _ w (hK K (Nat.le_refl _))) (fun _ => by simp [kZ]) (fun _ h => by first | exact h | exact h.below)
theorem crDiv_ok : COk Tryz.prog 70 csDiv := by
 intro args p v hc hp w A hA
 unfold csDiv at hc
 split at hc
 case h_2 => cases hc
 rename_i a b
 simp only [Option.some.injEq, Prod.mk.injEq] at hc
 obtain ⟨rfl, rfl⟩ := hc
 rw [Bool.and_eq_true] at hp
 have h1 := of_decide_eq_true hp.2
 obtain rfl : b = 1000000 := by simpa using hp.1
 obtain rfl : A = [.int .i64 a, .int .i64 1000000] := by simpa [kF, kL, kM] using hA
 obtain ⟨K, hK⟩ := rdiv64_ev a 1000000 h1 (by unfold I64; omega) (by omega)
 have hf := hK K (Nat.le_refl _)
 rw [fl_pos (by omega), out_in (ediv_i64 h1 (by omega))] at hf
 exact kH (fn := Tryz.f70) Tryz.func70 (by kernel_rfl) (by kernel_rfl) (jJ.calls K _ _ _ _ w hf) (fun _ => by simp [kF, kL, kM, bJ]) (fun _ h => by first | exact h | exact h.below)
theorem crMod_ok : COk Tryz.prog 71 csMod := by
 intro args p v hc hp w A hA
 unfold csMod at hc
 split at hc
 case h_2 => cases hc
 rename_i a b
 simp only [Option.some.injEq, Prod.mk.injEq] at hc
 obtain ⟨rfl, rfl⟩ := hc
 rw [Bool.and_eq_true] at hp
 have h1 := of_decide_eq_true hp.2
 obtain rfl : b = 1000000 := by simpa using hp.1
 obtain rfl : A = [.int .i64 a, .int .i64 1000000] := by simpa [kF, kL, kM] using hA
 obtain ⟨K, hK⟩ := rmod64_ev a 1000000 h1 (by unfold I64; omega) (by omega)
 have hf := hK K (Nat.le_refl _)
 rw [md_pos (by omega)] at hf
 exact kH (fn := Tryz.f71) Tryz.func71 (by kernel_rfl) (by kernel_rfl) (jC.calls K _ _ _ _ w hf) (fun _ => by simp [kF, kL, kM, bJ]) (fun _ h => by first | exact h | exact h.below)
theorem crMul_ok : COk Tryz.prog 73 csMul := by
 intro args p v hc hp w A hA
 unfold csMul at hc
 split at hc
 case h_2 => cases hc
 rename_i a b
 simp only [Option.some.injEq, Prod.mk.injEq] at hc
 obtain ⟨rfl, rfl⟩ := hc
 obtain ⟨h1, h2⟩ := of_decide_eq_true hp
 obtain rfl : A = [.int .i64 a, .int .i64 b] := by simpa [kF, kL, kM] using hA
 obtain ⟨K, hK⟩ := rmul_ev a b h1 h2
 have hf : computusref01_Mul.f K a b = some ((out (a * b)).1, (out (a * b)).2) := hK K (Nat.le_refl _)
 exact kH (fn := Tryz.f73) Tryz.func73 (by kernel_rfl) (by kernel_rfl) (computusref01_Mul.calls K _ _ _ _ w hf) (fun _ => by simp [kF, kL, kM, bJ]) (fun _ h => by first | exact h | exact h.below)
theorem crAdd_ok : COk Tryz.prog 90 csAdd := by
 intro args p v hc hp w A hA
 unfold csAdd at hc
 split at hc
 case h_2 => cases hc
 rename_i a b
 simp only [Option.some.injEq, Prod.mk.injEq] at hc
 obtain ⟨rfl, rfl⟩ := hc
 obtain ⟨h1, h2⟩ := of_decide_eq_true hp
 obtain rfl : A = [.int .i64 a, .int .i64 b] := by simpa [kF, kL, kM] using hA
 obtain ⟨K, hK⟩ := radd_ev a b h1 h2
 have hf : computusref01_Add.f K a b = some ((out (a + b)).1, (out (a + b)).2) := hK K (Nat.le_refl _)
 exact kH (fn := Tryz.f90) Tryz.func90 (by kernel_rfl) (by kernel_rfl) (computusref01_Add.calls K _ _ _ _ w hf) (fun _ => by simp [kF, kL, kM, bJ]) (fun _ h => by first | exact h | exact h.below)
def tPlus (e w s : Int) (E : Prop) (F : Int → Prop) : Prop := brc (decide (I64 w ∧ I64 s)) (∀ m5 : Int, m5 = (out (w + s)).1 → ∀ m6 : Int, m6 = (out (w + s)).2 → brc (e != 0) E (brc (m6 != 0) E (brc (decide (I64 m5)) (∀ m7 : Bool, m7 = decide (DRS 0 m5) → brc (!m7) E (F m5)) False))) False
theorem tPlus_ok {e w s : Int} (hw : I64 w) (hs : I64 s) {E : Prop} {F : Int → Prop} (h1 : e ≠ 0 → E) (h2 : e = 0 → (onR w s = (0, 0, 10) → E) ∧ (onR w s = (0, w + s, 0) → F (w + s))) : tPlus e w s E F := by
 unfold tPlus
 refine brcT (decide_eq_true ⟨hw, hs⟩) ?_
 rintro _ rfl _ rfl
 refine kA (fun a => h1 (by simpa using a)) fun a => ?_
 obtain ⟨k1, k2⟩ := h2 (by simpa using a)
 by_cases h : I64 (w + s)
 · rw [out_in h]
   refine brcF rfl (brcT (decide_eq_true h) ?_)
   rintro _ rfl
   refine kA (fun a => k1 ?_) fun a => k2 ?_
   · unfold onR; rw [if_neg (fun q => by simp [q.2] at a)]
   · unfold onR; rw [if_pos ⟨h, by simpa using a⟩]
 · rw [out_no h]
   exact brcT rfl (k1 (by unfold onR; rw [if_neg (fun q => h q.1)]))
theorem join_of {x us : Int} (h : I64 ((x - 946684800) * 1000000)) : joinR x us = onR ((x - 946684800) * 1000000) us := by unfold joinR; rw [if_pos h]
theorem drs_low {v : Int} (h : DRS 0 v) : -300000000000000000 ≤ v := by unfold DRS DIn at h; omega
theorem on_join {u x : Int} (hu : I64 u) (hx : -57600 ≤ x ∧ x ≤ 57600) : onR u (x * 1000000) = joinR (secOf u + x) (u % 1000000) := by
 have hv : u + x * 1000000 = (secOf u + x - 946684800) * 1000000 + u % 1000000 := by unfold secOf; omega
 by_cases h : I64 ((secOf u + x - 946684800) * 1000000)
 · rw [join_of h]
   unfold onR
   rw [hv]
 · unfold joinR
   rw [if_neg h]
   unfold onR
   rw [if_neg]
   rintro ⟨k1, k2⟩
   have := drs_low k2
   unfold I64 at *
   omega
set_option maxRecDepth 100000 in
theorem crloc_vc (z : Zt) (i u : Int) (K : AV → Prop) : AFL (tab [(25, zyRight), (30, csRS), (70, csDiv), (71, csMod), (32, zyAt), (73, csMul), (90, csAdd)]) (noLoops) 8 11 [.agg (avZ z), .agg [.int .i64 i, .int .i64 u]] K =
 (brc (tyR (Zt.n z) (znRow z) && bdZ (Zt.F z)) (∀ (m0 : Bool), m0 = decide (ZtOk z) → brc (!m0) (K (AV.tup [AV.agg [AV.int IntKind.i64 0, AV.int IntKind.i64 0], AV.int IntKind.i64 1])) (brc (decide (I64 u)) (∀ (m1 : Bool), m1 = decide (DRS i u) → brc (!m1) (K (AV.tup [AV.agg [AV.int IntKind.i64 0, AV.int IntKind.i64 0], AV.int IntKind.i64 1])) (brc (i != 0) (K (AV.tup [AV.agg [AV.int IntKind.i64 i, AV.int IntKind.i64 u], AV.int IntKind.i64 0])) (brc (decide (I64 u)) (∀ (m2 : Int), m2 = u / 1000000 → ∀ (m3 : Int), m3 = 0 → brc (decide (I64 u)) (∀ (m4 : Int), m4 = u % 1000000 → ∀ (m5 : Int), m5 = 0 → brc (tyR (Zt.n z) (znRow z) && bdZ (Zt.F z) && decide (-9223372036854775808 ≤ IntKind.wrap IntKind.i64 (m2 + 946684800) ∧ IntKind.wrap IntKind.i64 (m2 + 946684800) ≤ 9223372036854775807)) (∀ (m6 : Int), m6 = Tr.t (atE z (IntKind.wrap IntKind.i64 (m2 + 946684800))) → ∀ (m7 : Int), m7 = Tr.off (atE z (IntKind.wrap IntKind.i64 (m2 + 946684800))) → ∀ (m8 : Bool), m8 = Tr.dst (atE z (IntKind.wrap IntKind.i64 (m2 + 946684800))) → ∀ (m9 : Int), m9 = zErr z (IntKind.wrap IntKind.i64 (m2 + 946684800)) → brc (m9 != 0) (K (AV.tup [AV.agg [AV.int IntKind.i64 0, AV.int IntKind.i64 0], AV.int IntKind.i64 m9])) (brc (decide (I64 (IntKind.wrap IntKind.i64 (IntKind.wrap IntKind.i64 (IntKind.wrap IntKind.i64 (m2 + 946684800) + m7) - 946684800)) ∧ I64 1000000)) (∀ (m10 : Int), m10 = Prod.fst (out (IntKind.wrap IntKind.i64 (IntKind.wrap IntKind.i64 (IntKind.wrap IntKind.i64 (m2 + 946684800) + m7) - 946684800) * 1000000)) → ∀ (m11 : Int), m11 = Prod.snd (out (IntKind.wrap IntKind.i64 (IntKind.wrap IntKind.i64 (IntKind.wrap IntKind.i64 (m2 + 946684800) + m7) - 946684800) * 1000000)) → brc (decide (I64 m10 ∧ I64 m4)) (∀ (m12 : Int), m12 = Prod.fst (out (m10 + m4)) → ∀ (m13 : Int), m13 = Prod.snd (out (m10 + m4)) → brc (m11 != 0) (K (AV.tup [AV.agg [AV.int IntKind.i64 0, AV.int IntKind.i64 0], AV.int IntKind.i64 10])) (brc (m13 != 0) (K (AV.tup [AV.agg [AV.int IntKind.i64 0, AV.int IntKind.i64 0], AV.int IntKind.i64 10])) (brc (decide (I64 m12)) (∀ (m14 : Bool), m14 = decide (DRS 0 m12) → brc (!m14) (K (AV.tup [AV.agg [AV.int IntKind.i64 0, AV.int IntKind.i64 0], AV.int IntKind.i64 10])) (K (AV.tup [AV.agg [AV.int IntKind.i64 0, AV.int IntKind.i64 m12], AV.int IntKind.i64 0]))) False))) False) False)) False) False) False))) False)) False) := by kernel_rfl
theorem crloc_ok {z : Zt} {i u : Int} (hb : bdZ z.F = true) (hu : I64 u) : AFL (tab [(25, zyRight), (30, csRS), (70, csDiv), (71, csMod), (32, zyAt), (73, csMul), (90, csAdd)]) noLoops 8 11 [.agg (avZ z), .agg [.int .i64 i, .int .i64 u]] (Res (avS (locR z i u))) := by
 rw [crloc_vc]
 refine brcT (tyZ z hb) ?_
 rintro _ rfl
 refine kA (fun a => ?_) fun a => ?_
 · exact resS (by unfold locR; rw [if_neg (fun q => by simp [q.1] at a)])
 have hz : ZtOk z := by simpa using a
 refine brcT (decide_eq_true hu) ?_
 rintro _ rfl
 refine kA (fun b => ?_) fun b => ?_
 · exact resS (by unfold locR; rw [if_neg (fun q => by simp [q.2] at b)])
 have hd : DRS i u := by simpa using b
 refine kA (fun c => ?_) fun c => ?_
 · exact resS (by unfold locR; rw [if_pos ⟨hz, hd⟩, if_neg (by simpa using c)])
 have hi : i = 0 := by simpa using c
 refine brcT (decide_eq_true hu) ?_
 rintro _ rfl _ rfl
 refine brcT (decide_eq_true hu) ?_
 rintro _ rfl _ rfl
 have hs := sec_bd hu
 rw [show IntKind.wrap .i64 (u / 1000000 + 946684800) = secOf u from bL hs]
 refine brcT (by rw [tyZ z hb, decide_eq_true (show -9223372036854775808 ≤ secOf u ∧ secOf u ≤ 9223372036854775807 from hs)]; rfl) ?_
 rintro _ rfl _ rfl _ rfl _ rfl
 have el : locR z i u = if zErr z (secOf u) = 0 then onR u ((atZ z (secOf u)).off * 1000000) else (0, 0, zErr z (secOf u)) := by unfold locR; rw [if_pos ⟨hz, hd⟩, if_pos hi]
 rw [el]
 refine kA (fun c => ?_) fun c => ?_
 · rw [if_neg (by simpa using c)]
   exact resS rfl
 have c : zErr z (secOf u) = 0 := by simpa using c
 rw [if_pos c]
 have eo : (atE z (secOf u)).off = (atZ z (secOf u)).off := by unfold atE; simp only; rw [if_pos c]
 have ho := atZ_off hz (secOf u)
 have su : secOf u = u / 1000000 + 946684800 := rfl
 rw [eo]
 generalize (atZ z (secOf u)).off = x at *
 have hub := hu
 unfold I64 at hub
 have w1 : IntKind.wrap .i64 (secOf u + x) = secOf u + x := bL (by omega)
 have w2 : IntKind.wrap .i64 (secOf u + x - 946684800) = secOf u + x - 946684800 := bL (by omega)
 rw [w1, w2, on_join hu ho]
 refine brcT (decide_eq_true ⟨by unfold I64; omega, by unfold I64; omega⟩) ?_
 rintro _ rfl _ rfl
 by_cases h : I64 ((secOf u + x - 946684800) * 1000000)
 · rw [out_in h, join_of h]
   exact tPlus_ok h (by unfold I64; omega) (fun k => (k rfl).elim) fun _ => ⟨fun k => resS k, fun k => resS k⟩
 · have ej : joinR (secOf u + x) (u % 1000000) = (0, 0, 10) := by unfold joinR; rw [if_neg h]
   rw [out_no h, ej]
   exact tPlus_ok i64_0 (by unfold I64; omega) (fun _ => resS rfl) fun k => by omega
theorem crLoc_ok : COk Tryz.prog 11 csLoc := afl_con (kB rzRight_ok (kB crRS_ok (kB crDiv_ok (kB crMod_ok (kB rzAt_ok (kB crMul_ok (kB crAdd_ok kN))))))) (by kernel_rfl) fun args p v hc hp => by
 unfold csLoc at hc
 split at hc
 case h_2 => cases hc
 split at hc
 case h_2 => cases hc
 rename_i i u _ q z hl
 simp only [Option.some.injEq, Prod.mk.injEq] at hc
 obtain ⟨rfl, rfl⟩ := hc
 rw [Bool.and_eq_true] at hp
 obtain ⟨rfl, hq⟩ := hp
 obtain ⟨k1, k2⟩ := rdZ_move hl
 exact ⟨_, _, _, fun w A hA => rl_1 (fun V h => k2 h) hA, jM _ _, crloc_ok k1 (of_decide_eq_true hq)⟩
set_option maxRecDepth 100000 in
theorem crins_vc (z : Zt) (i u : Int) (K : AV → Prop) : AFL (tab [(25, zyRight), (30, csRS), (70, csDiv), (71, csMod), (38, zyInst), (73, csMul), (90, csAdd)]) (noLoops) 8 13 [.agg (avZ z), .agg [.int .i64 i, .int .i64 u]] K =
 (brc (tyR (Zt.n z) (znRow z) && bdZ (Zt.F z)) (∀ (m0 : Bool), m0 = decide (ZtOk z) → brc (!m0) (K (AV.tup [AV.agg [AV.int IntKind.i64 0, AV.int IntKind.i64 0], AV.int IntKind.i64 0, AV.int IntKind.i64 1])) (brc (decide (I64 u)) (∀ (m1 : Bool), m1 = decide (DRS i u) → brc (!m1) (K (AV.tup [AV.agg [AV.int IntKind.i64 0, AV.int IntKind.i64 0], AV.int IntKind.i64 0, AV.int IntKind.i64 1])) (brc (i != 0) (K (AV.tup [AV.agg [AV.int IntKind.i64 i, AV.int IntKind.i64 u], AV.int IntKind.i64 0, AV.int IntKind.i64 0])) (brc (decide (I64 u)) (∀ (m2 : Int), m2 = u / 1000000 → ∀ (m3 : Int), m3 = 0 → brc (decide (I64 u)) (∀ (m4 : Int), m4 = u % 1000000 → ∀ (m5 : Int), m5 = 0 → brc (tyR (Zt.n z) (znRow z) && bdZ (Zt.F z) && decide (-9223372036854775808 ≤ IntKind.wrap IntKind.i64 (m2 + 946684800) ∧ IntKind.wrap IntKind.i64 (m2 + 946684800) ≤ 9223372036854775807)) (∀ (m6 : Int), m6 = Prod.fst (instE z (IntKind.wrap IntKind.i64 (m2 + 946684800))) → ∀ (m7 : Int), m7 = Prod.snd (instE z (IntKind.wrap IntKind.i64 (m2 + 946684800))) → ∀ (m8 : Int), m8 = iErr z (IntKind.wrap IntKind.i64 (m2 + 946684800)) → brc (m8 != 0) (K (AV.tup [AV.agg [AV.int IntKind.i64 0, AV.int IntKind.i64 0], AV.int IntKind.i64 0, AV.int IntKind.i64 m8])) (brc (decide (I64 (IntKind.wrap IntKind.i64 (m6 - 946684800)) ∧ I64 1000000)) (∀ (m9 : Int), m9 = Prod.fst (out (IntKind.wrap IntKind.i64 (m6 - 946684800) * 1000000)) → ∀ (m10 : Int), m10 = Prod.snd (out (IntKind.wrap IntKind.i64 (m6 - 946684800) * 1000000)) → brc (decide (I64 m9 ∧ I64 m4)) (∀ (m11 : Int), m11 = Prod.fst (out (m9 + m4)) → ∀ (m12 : Int), m12 = Prod.snd (out (m9 + m4)) → brc (m10 != 0) (K (AV.tup [AV.agg [AV.int IntKind.i64 0, AV.int IntKind.i64 0], AV.int IntKind.i64 0, AV.int IntKind.i64 10])) (brc (m12 != 0) (K (AV.tup [AV.agg [AV.int IntKind.i64 0, AV.int IntKind.i64 0], AV.int IntKind.i64 0, AV.int IntKind.i64 10])) (brc (decide (I64 m11)) (∀ (m13 : Bool), m13 = decide (DRS 0 m11) → brc (!m13) (K (AV.tup [AV.agg [AV.int IntKind.i64 0, AV.int IntKind.i64 0], AV.int IntKind.i64 0, AV.int IntKind.i64 10])) (K (AV.tup [AV.agg [AV.int IntKind.i64 0, AV.int IntKind.i64 m11], AV.int IntKind.i64 m7, AV.int IntKind.i64 0]))) False))) False) False)) False) False) False))) False)) False) := by kernel_rfl
theorem crins_ok {z : Zt} {i u : Int} (hb : bdZ z.F = true) (hu : I64 u) : AFL (tab [(25, zyRight), (30, csRS), (70, csDiv), (71, csMod), (38, zyInst), (73, csMul), (90, csAdd)]) noLoops 8 13 [.agg (avZ z), .agg [.int .i64 i, .int .i64 u]] (Res (.tup [.agg [.int .i64 (insR z i u).1, .int .i64 (insR z i u).2.1], .int .i64 (insR z i u).2.2.1, .int .i64 (insR z i u).2.2.2])) := by
 rw [crins_vc]
 refine brcT (tyZ z hb) ?_
 rintro _ rfl
 refine kA (fun a => ?_) fun a => ?_
 · exact resI4 (by unfold insR; rw [if_neg (fun q => by simp [q.1] at a)])
 have hz : ZtOk z := by simpa using a
 refine brcT (decide_eq_true hu) ?_
 rintro _ rfl
 refine kA (fun b => ?_) fun b => ?_
 · exact resI4 (by unfold insR; rw [if_neg (fun q => by simp [q.2] at b)])
 have hd : DRS i u := by simpa using b
 refine kA (fun c => ?_) fun c => ?_
 · exact resI4 (by unfold insR; rw [if_pos ⟨hz, hd⟩, if_neg (by simpa using c)])
 have hi : i = 0 := by simpa using c
 refine brcT (decide_eq_true hu) ?_
 rintro _ rfl _ rfl
 refine brcT (decide_eq_true hu) ?_
 rintro _ rfl _ rfl
 have hs := sec_bd hu
 rw [show IntKind.wrap .i64 (u / 1000000 + 946684800) = secOf u from bL hs]
 refine brcT (by rw [tyZ z hb, decide_eq_true (show -9223372036854775808 ≤ secOf u ∧ secOf u ≤ 9223372036854775807 from hs)]; rfl) ?_
 rintro _ rfl _ rfl _ rfl
 have el : insR z i u = if iErr z (secOf u) = 0 then insF z (instE z (secOf u)) (u % 1000000) else (0, 0, 0, iErr z (secOf u)) := by unfold insR; rw [if_pos ⟨hz, hd⟩, if_pos hi]
 rw [el]
 refine kA (fun c => ?_) fun c => ?_
 · have c : ¬ iErr z (secOf u) = 0 := by simpa using c
   rw [if_neg c]
   exact resI4 rfl
 have c : iErr z (secOf u) = 0 := by simpa using c
 rw [if_pos c]
 have bd := acS_bd hb c
 have su : secOf u = u / 1000000 + 946684800 := rfl
 have hub := hu
 unfold I64 at hub
 generalize instE z (secOf u) = x at *
 rw [show IntKind.wrap .i64 (x.1 - 946684800) = x.1 - 946684800 from bL (by omega)]
 refine brcT (decide_eq_true ⟨by unfold I64; omega, by unfold I64; omega⟩) ?_
 rintro _ rfl _ rfl
 have bad : joinR x.1 (u % 1000000) = (0, 0, 10) → insF z x (u % 1000000) = (0, 0, 0, 10) := fun k => by unfold insF; rw [k]; rfl
 by_cases h : I64 ((x.1 - 946684800) * 1000000)
 · rw [out_in h]
   have ej := join_of (us := u % 1000000) h
   exact tPlus_ok h (by unfold I64; omega) (fun k => (k rfl).elim) fun _ => ⟨fun k => resI4 (bad (ej.trans k)), fun k => resI4 (by unfold insF; rw [ej, k]; rfl)⟩
 · have ej : joinR x.1 (u % 1000000) = (0, 0, 10) := by unfold joinR; rw [if_neg h]
   rw [out_no h]
   exact tPlus_ok i64_0 (by unfold I64; omega) (fun _ => resI4 (bad ej)) fun k => by omega
theorem crIns_ok : COk Tryz.prog 13 csIns := afl_con (kB rzRight_ok (kB crRS_ok (kB crDiv_ok (kB crMod_ok (kB rzInst_ok (kB crMul_ok (kB crAdd_ok kN))))))) (by kernel_rfl) fun args p v hc hp => by
 unfold csIns at hc
 split at hc
 case h_2 => cases hc
 split at hc
 case h_2 => cases hc
 rename_i i u _ q z hl
 simp only [Option.some.injEq, Prod.mk.injEq] at hc
 obtain ⟨rfl, rfl⟩ := hc
 rw [Bool.and_eq_true] at hp
 obtain ⟨rfl, hq⟩ := hp
 obtain ⟨k1, k2⟩ := rdZ_move hl
 exact ⟨_, _, _, fun w A hA => rl_1 (fun V h => k2 h) hA, jM _ _, crins_ok k1 (of_decide_eq_true hq)⟩
set_option maxRecDepth 100000 in
theorem croff_vc (z : Zt) (i u : Int) (K : AV → Prop) : AFL (tab [(25, zyRight), (30, csRS), (70, csDiv), (71, csMod), (32, zyAt)]) (noLoops) 8 15 [.agg (avZ z), .agg [.int .i64 i, .int .i64 u]] K =
 (brc (tyR (Zt.n z) (znRow z) && bdZ (Zt.F z)) (∀ (m0 : Bool), m0 = decide (ZtOk z) → brc (!m0) (K (AV.tup [AV.agg [AV.int IntKind.i64 0, AV.int IntKind.i64 0, AV.bool false, AV.str (ByteArray.mk #[])], AV.int IntKind.i64 1])) (brc (decide (I64 u)) (∀ (m1 : Bool), m1 = decide (DRS i u) → brc (!m1) (K (AV.tup [AV.agg [AV.int IntKind.i64 0, AV.int IntKind.i64 0, AV.bool false, AV.str (ByteArray.mk #[])], AV.int IntKind.i64 1])) (brc (i != 0) (K (AV.tup [AV.agg [AV.int IntKind.i64 0, AV.int IntKind.i64 0, AV.bool false, AV.str (ByteArray.mk #[])], AV.int IntKind.i64 10])) (brc (decide (I64 u)) (∀ (m2 : Int), m2 = u / 1000000 → ∀ (m3 : Int), m3 = 0 → brc (decide (I64 u)) (∀ (m4 : Int), m4 = u % 1000000 → ∀ (m5 : Int), m5 = 0 → brc (tyR (Zt.n z) (znRow z) && bdZ (Zt.F z) && decide (-9223372036854775808 ≤ IntKind.wrap IntKind.i64 (m2 + 946684800) ∧ IntKind.wrap IntKind.i64 (m2 + 946684800) ≤ 9223372036854775807)) (∀ (m6 : Int), m6 = Tr.t (atE z (IntKind.wrap IntKind.i64 (m2 + 946684800))) → ∀ (m7 : Int), m7 = Tr.off (atE z (IntKind.wrap IntKind.i64 (m2 + 946684800))) → ∀ (m8 : Bool), m8 = Tr.dst (atE z (IntKind.wrap IntKind.i64 (m2 + 946684800))) → ∀ (m9 : Int), m9 = zErr z (IntKind.wrap IntKind.i64 (m2 + 946684800)) → K (AV.tup [AV.agg [AV.int IntKind.i64 m6, AV.int IntKind.i64 m7, AV.bool m8, AV.str (Tr.ab (atE z (IntKind.wrap IntKind.i64 (m2 + 946684800))))], AV.int IntKind.i64 m9])) False) False) False))) False)) False) := by kernel_rfl
theorem croff_ok {z : Zt} {i u : Int} (hb : bdZ z.F = true) (hu : I64 u) : AFL (tab [(25, zyRight), (30, csRS), (70, csDiv), (71, csMod), (32, zyAt)]) noLoops 8 15 [.agg (avZ z), .agg [.int .i64 i, .int .i64 u]] (Res (.tup [.agg (avT (offT z i u)), .int .i64 (offE z i u)])) := by
 have bad : ∀ e : Int, offE z i u = e → e ≠ 0 → Res (.tup [.agg (avT (offT z i u)), .int .i64 (offE z i u)]) (.tup [.agg [.int .i64 0, .int .i64 0, .bool false, .str (ByteArray.mk #[])], .int .i64 e]) := fun e h k => by
  have : offT z i u = ⟨0, 0, false, ⟨#[]⟩⟩ := by unfold offT; rw [if_neg (by rw [h]; exact k)]
  rw [this, h]
  exact jF rfl
 rw [croff_vc]
 refine brcT (tyZ z hb) ?_
 rintro _ rfl
 refine kA (fun a => bad 1 ?_ (by omega)) fun a => ?_
 · unfold offE; rw [if_neg (fun q => by simp [q.1] at a)]
 have hz : ZtOk z := by simpa using a
 refine brcT (decide_eq_true hu) ?_
 rintro _ rfl
 refine kA (fun b => bad 1 ?_ (by omega)) fun b => ?_
 · unfold offE; rw [if_neg (fun q => by simp [q.2] at b)]
 have hd : DRS i u := by simpa using b
 refine kA (fun c => bad 10 ?_ (by omega)) fun c => ?_
 · unfold offE; rw [if_pos ⟨hz, hd⟩, if_neg (by simpa using c)]
 have hi : i = 0 := by simpa using c
 refine brcT (decide_eq_true hu) ?_
 rintro _ rfl _ rfl
 refine brcT (decide_eq_true hu) ?_
 rintro _ rfl _ rfl
 have hs := sec_bd hu
 rw [show IntKind.wrap .i64 (u / 1000000 + 946684800) = secOf u from bL hs]
 refine brcT (by rw [tyZ z hb, decide_eq_true (show -9223372036854775808 ≤ secOf u ∧ secOf u ≤ 9223372036854775807 from hs)]; rfl) ?_
 rintro _ rfl _ rfl _ rfl _ rfl
 have ee : offE z i u = zErr z (secOf u) := by unfold offE; rw [if_pos ⟨hz, hd⟩, if_pos hi]
 by_cases h : zErr z (secOf u) = 0
 · have et : offT z i u = atE z (secOf u) := by
    unfold offT atE
    rw [if_pos (by rw [ee]; exact h), if_pos h, if_pos h, if_pos h, if_pos h]
   rw [ee, et]
   exact jF rfl
 · have et : offT z i u = atE z (secOf u) := by
    unfold offT atE
    rw [if_neg (by rw [ee]; exact h), if_neg h, if_neg h, if_neg h, if_neg h]
   rw [ee, et]
   exact jF rfl
theorem crOff_ok : COk Tryz.prog 15 csOff := afl_con (kB rzRight_ok (kB crRS_ok (kB crDiv_ok (kB crMod_ok (kB rzAt_ok kN))))) (by kernel_rfl) fun args p v hc hp => by
 unfold csOff at hc
 split at hc
 case h_2 => cases hc
 split at hc
 case h_2 => cases hc
 rename_i i u _ q z hl
 simp only [Option.some.injEq, Prod.mk.injEq] at hc
 obtain ⟨rfl, rfl⟩ := hc
 rw [Bool.and_eq_true] at hp
 obtain ⟨rfl, hq⟩ := hp
 obtain ⟨k1, k2⟩ := rdZ_move hl
 exact ⟨_, _, _, fun w A hA => rl_1 (fun V h => k2 h) hA, jM _ _, croff_ok k1 (of_decide_eq_true hq)⟩
end Go.Proofs.YtimgphlfaninnaaGreat.P
namespace Go.Proofs.YtimgphlfaninnaaGreat.P
open Go Go.RowKit Go.Proofs.YtimgphlfaninnaaGreat.Civ Go.Proofs.YtimgphlfaninnaaGreat.Ft Go.Proofs.YtimgphlfaninnaaGreat.Zn
set_option linter.unusedVariables false
set_option linter.unusedSimpArgs false
open A
theorem laT_ok : TabOk Tryz.prog (tab [(28, cyHalf), (10, csLoc), (12, csIns), (14, csOff), (11, csLoc), (13, csIns), (15, csOff), (16, cyKnown)]) := kB cyHalf17_ok (kB csLoc_ok (kB csIns_ok (kB csOff_ok (kB crLoc_ok (kB crIns_ok (kB crOff_ok (kB cyKnown17_ok kN)))))))
set_option maxRecDepth 100000 in
theorem llocals_vc (z : Zt) (i u : Int) (K : AV → Prop) : AFL (tab [(28, cyHalf), (10, csLoc), (12, csIns), (14, csOff), (11, csLoc), (13, csIns), (15, csOff), (16, cyKnown)]) (noLoops) 12 3 [.agg (avZ z), .agg [.int .i64 i, .int .i64 u]] K =
 (brc (oneC 4 (Zt.n z) (znRow z) && roomB (Zt.n z) 40) (gvZ z (fun G0 => brc (Nat.ble (0 + Zt.n z) (Zt.n z) && true && true && (tyR (Zt.n z) (znRow z) && bdZ (Zt.F G0) && decide (I64 u))) (∀ (m14 : Int), m14 = Prod.fst (locR G0 i u) → ∀ (m15 : Int), m15 = Prod.fst (Prod.snd (locR G0 i u)) → ∀ (m16 : Int), m16 = Prod.snd (Prod.snd (locR G0 i u)) → brc (tyR (Zt.n z) (znRow z) && bdZ (Zt.F z) && decide (I64 u)) (∀ (m17 : Int), m17 = Prod.fst (locR z i u) → ∀ (m18 : Int), m18 = Prod.fst (Prod.snd (locR z i u)) → ∀ (m19 : Int), m19 = Prod.snd (Prod.snd (locR z i u)) → brc (Nat.ble (0 + Zt.n z) (Zt.n z) && true && true && (tyR (Zt.n z) (znRow z) && bdZ (Zt.F G0) && decide (I64 u))) (∀ (m20 : Int), m20 = Prod.fst (insR G0 i u) → ∀ (m21 : Int), m21 = Prod.fst (Prod.snd (insR G0 i u)) → ∀ (m22 : Int), m22 = Prod.fst (Prod.snd (Prod.snd (insR G0 i u))) → ∀ (m23 : Int), m23 = Prod.snd (Prod.snd (Prod.snd (insR G0 i u))) → brc (tyR (Zt.n z) (znRow z) && bdZ (Zt.F z) && decide (I64 u)) (∀ (m24 : Int), m24 = Prod.fst (insR z i u) → ∀ (m25 : Int), m25 = Prod.fst (Prod.snd (insR z i u)) → ∀ (m26 : Int), m26 = Prod.fst (Prod.snd (Prod.snd (insR z i u))) → ∀ (m27 : Int), m27 = Prod.snd (Prod.snd (Prod.snd (insR z i u))) → brc (Nat.ble (0 + Zt.n z) (Zt.n z) && true && true && (tyR (Zt.n z) (znRow z) && bdZ (Zt.F G0) && decide (I64 u))) (∀ (m28 : Int), m28 = Tr.t (offT G0 i u) → ∀ (m29 : Int), m29 = Tr.off (offT G0 i u) → ∀ (m30 : Bool), m30 = Tr.dst (offT G0 i u) → ∀ (m31 : Int), m31 = offE G0 i u → brc (tyR (Zt.n z) (znRow z) && bdZ (Zt.F z) && decide (I64 u)) (∀ (m32 : Int), m32 = Tr.t (offT z i u) → ∀ (m33 : Int), m33 = Tr.off (offT z i u) → ∀ (m34 : Bool), m34 = Tr.dst (offT z i u) → ∀ (m35 : Int), m35 = offE z i u → brc (m14 == m17 && (m15 == m18 && true)) (brc (m16 == m19) (brc (m20 == m24 && (m21 == m25 && true)) (brc (m22 == m26) (brc (m23 == m27) (brc (m28 == m32 && (m29 == m33 && (m30 == m34 && (ByteArray.toList (Tr.ab (offT G0 i u)) == ByteArray.toList (Tr.ab (offT z i u)) && true)))) (brc (m31 == m35) (∀ (m36 : Bool), m36 = true → K (AV.bool m36)) (K (AV.bool false))) (K (AV.bool false))) (K (AV.bool false))) (K (AV.bool false))) (K (AV.bool false))) (K (AV.bool false))) (K (AV.bool false))) False) False) False) False) False) False)) False) := by kernel_rfl
theorem llocals_ok {z : Zt} {i u : Int} (hbd : bdZ z.F = true) (hn : roomB z.n 40 = true) (hu : I64 u) : AFL (tab [(28, cyHalf), (10, csLoc), (12, csIns), (14, csOff), (11, csLoc), (13, csIns), (15, csOff), (16, cyKnown)]) noLoops 12 3 [.agg (avZ z), .agg [.int .i64 i, .int .i64 u]] fun u => u = .bool true := by
 rw [llocals_vc]
 have t1 : (Nat.ble (0 + z.n) z.n && true && true && (tyR z.n (znRow z) && bdZ z.F && decide (I64 u))) = true := by rw [room_z, tyZ z hbd, decide_eq_true hu]; rfl
 have t2 : (tyR z.n (znRow z) && bdZ z.F && decide (I64 u)) = true := by rw [tyZ z hbd, decide_eq_true hu]; rfl
 refine brcT (by rw [oneC_row, hn]; rfl) (gvZ_ok (brcT t1 ?_))
 rintro _ rfl _ rfl _ rfl
 refine brcT t2 ?_
 rintro _ rfl _ rfl _ rfl
 refine brcT t1 ?_
 rintro _ rfl _ rfl _ rfl _ rfl
 refine brcT t2 ?_
 rintro _ rfl _ rfl _ rfl _ rfl
 refine brcT t1 ?_
 rintro _ rfl _ rfl _ rfl _ rfl
 refine brcT t2 ?_
 rintro _ rfl _ rfl _ rfl _ rfl
 refine brcT (by simp) (brcT (by simp) (brcT (by simp) (brcT (by simp) (brcT (by simp) (brcT (by simp) (brcT (by simp) ?_))))))
 rintro _ rfl
 rfl
theorem locals_calls {z : Zt} {i u : Int} (hbd : bdZ z.F = true) (hn : roomB z.n 40 = true) (hu : (Lit.int .i64 u).wf = true) {w : World} {A : List Value} (hA : RL noNames w [.agg (avZ z), .agg [.int .i64 i, .int .i64 u]] A) : Calls Tryz.prog 3 A.toArray w fun e w' => e = .returned (.bool true) ∧ Below w.heap.size w w' := afl_calls laT_ok (jM _ _) (llocals_ok hbd hn (i64_wf hu)) hA
end Go.Proofs.YtimgphlfaninnaaGreat.P

import Derived.Test.YtimgphlfaninnaaGreatQdpeieginel
import Derived.Test.YtimgphlfaninnaaGreatQnhkcikcnlk
import Derived.Test.YtimgphlfaninnaaGreatQdljlakeelm
import Derived.Test.YtimgphlfaninnaaGreatQmkgdpkcjjp
import Derived.Test.YtimgphlfaninnaaGreatQfgfpjmalgi
import Derived.Test.YtimgphlfaninnaaGreatQdpedgcpcdo
import Derived.Test.YtimgphlfaninnaaGreatQogiocepdie
import Derived.Lib.SmallJoins
import Derived.SizedLaws
namespace Go.Proofs.YtimgphlfaninnaaGreat.P
open Go.RowKit Go.Proofs.YtimgphlfaninnaaGreat.Ft Go.Proofs.YtimgphlfaninnaaGreat.Zn
set_option linter.unusedVariables false
set_option linter.unusedSimpArgs false
open A
def cntF : Option (Nat × (Nat → Int)) → Nat
 | none => 0
 | some (n, _) => n
theorem cnt_push (f : Option (Nat × (Nat → Int))) (w : Int) : cntF (acPush f w) = cntF f + 1 := by
 cases f with
 | none => rfl
 | some p => obtain ⟨n, g⟩ := p; rfl
structure InC (z : Zt) (u a b : Int) (s : Ac) : Prop where
 ok : ZtOk z
 bd : bdZ z.F = true
 ea : a = u - 57600
 eb : b = u + 57600
 ask : Asked u
 aska : Asked a
 askb : Asked b
 lo : a ≤ s.fr
 hi : s.fr ≤ b
 cnt : (cntF s.f : Int) ≤ s.fr - a
 l2 : -57600 ≤ s.l2 ∧ s.l2 ≤ 57600
 pos : ∀ n g, s.f = some (n, g) → 0 < n
theorem InC.askf {z : Zt} {u a b : Int} {s : Ac} (h : InC z u a b s) : Asked s.fr := asked_mid h.aska h.askb h.lo h.hi
theorem InC.bdf {z : Zt} {u a b : Int} {s : Ac} (h : InC z u a b s) : -300000000000000 ≤ s.fr ∧ s.fr ≤ 10000000000000 := asked_bd h.askf
theorem InC.bdu {z : Zt} {u a b : Int} {s : Ac} (h : InC z u a b s) : -300000000000000 ≤ u ∧ u ≤ 10000000000000 := asked_bd h.ask
theorem InC.off {z : Zt} {u a b : Int} {s : Ac} (h : InC z u a b s) : -57600 ≤ (atZ z s.fr).off ∧ (atZ z s.fr).off ≤ 57600 := atZ_off h.ok _
theorem in_step {z : Zt} {u a b t e : Int} {s : Ac} (h : InC z u a b s) (he : e = t - 1) (ht : s.fr < t) (htb : t ≤ b + 1) {K : Option (Nat × (Nat → Int)) → Int → Int → Int → Prop} (hK : K (acS z u t s).f (acS z u t s).l0 (acS z u t s).l1 (acS z u t s).l2) :
 inStep z u s.fr e s.l0 s.l1 s.l2 s.f K := by
 subst he
 have h1 := h.bdf
 have h2 := h.bdu
 have h3 := h.off
 have hc := h.cnt
 have hb := h.eb
 have ha := h.ea
 have hhi := h.hi
 unfold inStep
 refine brcT (by rw [tyZ z h.bd, decide_eq_true (show ZtOk z ∧ Asked s.fr ∧ -9223372036854775808 ≤ s.fr ∧ s.fr ≤ 9223372036854775807 from ⟨h.ok, h.askf, by omega, by omega⟩)]; rfl) ?_
 rintro _ rfl _ rfl _ rfl
 have ew : IntKind.wrap .i64 (u - (atZ z s.fr).off) = u - (atZ z s.fr).off := bL (by omega)
 rw [ew]
 have less : ∀ f', f' = (acS z u t s).f → inLess u s.fr (t - 1) (atZ z s.fr).off s.l0 s.l1 s.l2 (K f') := fun f' hf => by
  unfold inLess
  rw [ew, hf]
  refine kA (fun q => ?_) fun q => ?_
  · have q := of_decide_eq_true q
    simp only [acS, if_pos q] at hK ⊢
    exact hK
  · have q := of_decide_eq_false q
    simp only [acS, if_neg q] at hK ⊢
    exact hK
 refine kA (fun q => kA (fun r => ?_) fun r => ?_) fun q => ?_
 · have q := of_decide_eq_true q
   have r := of_decide_eq_true r
   have ef : (acS z u t s).f = acPush s.f (u - (atZ z s.fr).off) := by simp only [acS]; rw [if_pos ⟨q, r⟩]
   cases hf : s.f with
   | none => exact less _ (by rw [ef, hf]; rfl)
   | some p =>
    obtain ⟨n, g⟩ := p
    rw [hf] at hc
    have hn : (n : Int) ≤ s.fr - a := hc
    refine brcT ?_ (less _ (by rw [ef, hf]; rfl))
    have r1 : Nat.beq n n = true := by simp
    have r2 : roomB (n + 1) 8 = true := by
     unfold roomB
     rw [Bool.and_eq_true]
     exact ⟨Nat.ble_eq_true_of_le (by unfold maxLen; omega), Nat.ble_eq_true_of_le (by omega)⟩
    rw [r1, r2]; rfl
 · have r := of_decide_eq_false r
   refine less _ ?_
   simp only [acS]
   rw [if_neg (fun x => r x.2)]
 · have q := of_decide_eq_false q
   refine less _ ?_
   simp only [acS]
   rw [if_neg (fun x => q x.1)]
theorem acS_pos {z : Zt} {u t : Int} {s : Ac} (h : ∀ n g, s.f = some (n, g) → 0 < n) : ∀ n g, (acS z u t s).f = some (n, g) → 0 < n := fun n g e => by
 simp only [acS] at e
 split at e
 · unfold acPush at e
   split at e
   · simp only [Option.some.injEq, Prod.mk.injEq] at e; omega
   · simp only [Option.some.injEq, Prod.mk.injEq] at e; omega
 · exact h n g e
theorem in_next {z : Zt} {u a b t : Int} {s : Ac} (h : InC z u a b s) (ht : s.fr < t) (htb : t ≤ b) : InC z u a b (acS z u t s) := by
 have hc := h.cnt
 have hl := h.lo
 refine ⟨h.ok, h.bd, h.ea, h.eb, h.ask, h.aska, h.askb, ?_, htb, ?_, ?_, acS_pos h.pos⟩
 · show a ≤ t; omega
 · show (cntF (acS z u t s).f : Int) ≤ t - a
   simp only [acS]
   split
   · rw [cnt_push]; omega
   · omega
 · have h3 := h.off
   have h4 := h.l2
   simp only [acS]
   split
   · exact h3
   · exact h4
noncomputable def fin1 (z : Zt) (u b : Int) (k : Nat) (s : Ac) : Ac := acR z u (kz z b z.n - k) k s
noncomputable def inHx1 (z : Zt) (u a b : Int) (x : Nat × Ac) : St := inH1 z u a b (x.1 : Int) x.2.fr x.2.l0 x.2.l1 x.2.l2 x.2.f
def inMu1 (z : Zt) (x : Nat × Ac) : Nat := z.n - x.1
noncomputable def inG1 (z : Zt) (u a b : Int) (x : Nat × Ac) (Q : Ex → St → Prop) : Prop :=
 (InC z u a b x.2 ∧ x.1 ≤ kz z b z.n ∧ ∀ j, x.1 ≤ j → j < z.n → x.2.fr < z.ta j) ∧
 (((fin1 z u b x.1 x.2).f = none → Q (.exit 0) (inX z u a b (fin1 z u b x.1 x.2).fr (fin1 z u b x.1 x.2).l0 (fin1 z u b x.1 x.2).l1 (fin1 z u b x.1 x.2).l2 none)) ∧
  ∀ n c, (fin1 z u b x.1 x.2).f = some (n, c) → Q (.exit 0) (inX z u a b (fin1 z u b x.1 x.2).fr (fin1 z u b x.1 x.2).l0 (fin1 z u b x.1 x.2).l1 (fin1 z u b x.1 x.2).l2 (some (n, c))))
theorem in_vc1 {z : Zt} {u a b : Int} {x : Nat × Ac} {Q : Ex → St → Prop} (hG : inG1 z u a b x Q) : inVC1 z u a b (x.1 : Int) x.2.fr x.2.l0 x.2.l1 x.2.l2 x.2.f (again (inHx1 z u a b) (inMu1 z) (inG1 z u a b) x Q) (left Q) := by
 obtain ⟨k, s⟩ := x
 obtain ⟨⟨h, hk, hj⟩, q1, q2⟩ := hG
 simp only at h hk hj q1 q2
 have hle := kz_le z b z.n
 have hn := h.ok.2.2.1
 unfold inVC1
 simp only
 have stop : k = kz z b z.n → left Q (.exit 0) (some (inX z u a b s.fr s.l0 s.l1 s.l2 s.f)) := fun e => by
  have ef : fin1 z u b k s = s := by unfold fin1; rw [e, Nat.sub_self]; rfl
  rw [ef] at q1 q2
  refine ⟨_, rfl, ?_⟩
  cases hf : s.f with
  | none => exact q1 hf
  | some p => obtain ⟨n, c⟩ := p; exact q2 n c hf
 rw [Int.toNat_natCast]
 refine kA (fun c1 => ?_) fun c1 => stop (by have := of_decide_eq_false c1; omega)
 have c1 : k < z.n := by have := of_decide_eq_true c1; omega
 have iff := kz_iff h.ok.rows b z.n k (Nat.le_refl _) c1
 refine brcT (by simp; omega) (kA (fun c2 => brcT (by simp; omega) ?_) fun c2 => stop ?_)
 · have c2 := of_decide_eq_true c2
   have hlt := iff.2 c2
   have hfr := hj k (Nat.le_refl _) c1
   have hro := (h.ok.rows k (by omega) c1).2.1
   refine in_step h (bL (by omega)) hfr (by omega) ?_
   refine ⟨(k + 1, acS z u (z.ta k) s), by unfold inMu1; simp only; omega, ⟨⟨in_next h hfr c2, by simp only; omega, fun j h1 h2 => ?_⟩, ?_⟩, ?_⟩
   · exact rows_lt' h.ok.rows (by simp only at h1; omega) h2
   · have ef : fin1 z u b (k + 1) (acS z u (z.ta k) s) = fin1 z u b k s := by
      unfold fin1
      rw [show kz z b z.n - k = (kz z b z.n - (k + 1)) + 1 by omega]
      rfl
     simp only
     rw [ef]
     exact ⟨q1, q2⟩
   · rw [bL (by omega)]; rfl
 · have c2 := of_decide_eq_false c2
   have : ¬ k < kz z b z.n := fun q => c2 (iff.1 q)
   omega
noncomputable def fin2 (z : Zt) (u b : Int) (k : Int) (s : Ac) : Ac := acF z u (ix z.F b - ix z.F k).toNat (ix z.F k) s
noncomputable def inHx2 (z : Zt) (u a b : Int) (x : Int × Ac) : St := inH2 z u a b x.1 x.2.fr x.2.l0 x.2.l1 x.2.l2 x.2.f
def inMu2 (b : Int) (x : Int × Ac) : Nat := (b - x.1).toNat
noncomputable def inG2 (z : Zt) (u a b : Int) (x : Int × Ac) (Q : Ex → St → Prop) : Prop :=
 (InC z u a b x.2 ∧ z.F.z = true ∧ x.2.fr ≤ x.1) ∧
 (((fin2 z u b x.1 x.2).f = none → Q .ret (inY z u a b (fin2 z u b x.1 x.2).fr (fin2 z u b x.1 x.2).l0 (fin2 z u b x.1 x.2).l1 (fin2 z u b x.1 x.2).l2 none) ∧ Q (.exit 2) (inY z u a b (fin2 z u b x.1 x.2).fr (fin2 z u b x.1 x.2).l0 (fin2 z u b x.1 x.2).l1 (fin2 z u b x.1 x.2).l2 none)) ∧
  ∀ n c, (fin2 z u b x.1 x.2).f = some (n, c) → Q .ret (inY z u a b (fin2 z u b x.1 x.2).fr (fin2 z u b x.1 x.2).l0 (fin2 z u b x.1 x.2).l1 (fin2 z u b x.1 x.2).l2 (some (n, c))) ∧ Q (.exit 2) (inY z u a b (fin2 z u b x.1 x.2).fr (fin2 z u b x.1 x.2).l0 (fin2 z u b x.1 x.2).l1 (fin2 z u b x.1 x.2).l2 (some (n, c))))
theorem in_vc2 {z : Zt} {u a b : Int} {x : Int × Ac} {Q : Ex → St → Prop} (hG : inG2 z u a b x Q) : inVC2 z u a b x.1 x.2.fr x.2.l0 x.2.l1 x.2.l2 x.2.f (again (inHx2 z u a b) (inMu2 b) (inG2 z u a b) x Q) (left Q) := by
 obtain ⟨k, s⟩ := x
 obtain ⟨⟨h, hz, hk⟩, q1, q2⟩ := hG
 simp only at h hk q1 q2
 have hF : FtOk z.F := (h.ok.foot hz).1.1
 unfold inVC2
 simp only
 have stop : ix z.F b ≤ ix z.F k → left Q .ret (some (inY z u a b s.fr s.l0 s.l1 s.l2 s.f)) ∧ left Q (.exit 2) (some (inY z u a b s.fr s.l0 s.l1 s.l2 s.f)) := fun e => by
  have ef : fin2 z u b k s = s := by unfold fin2; rw [show (ix z.F b - ix z.F k).toNat = 0 by omega]; rfl
  rw [ef] at q1 q2
  cases hf : s.f with
  | none => exact ⟨⟨_, rfl, (q1 hf).1⟩, ⟨_, rfl, (q1 hf).2⟩⟩
  | some p => obtain ⟨n, c⟩ := p; exact ⟨⟨_, rfl, (q2 n c hf).1⟩, ⟨_, rfl, (q2 n c hf).2⟩⟩
 refine kA (fun c1 => ?_) fun c1 => (stop (ix_mono hF (by have := of_decide_eq_false c1; omega))).2
 have c1 := of_decide_eq_true c1
 have hask : Asked k := asked_mid h.aska h.askb (by have := h.lo; omega) (by omega)
 have hb := asked_bd hask
 refine brcT (dec6 h.bd (by omega) (by omega)) ?_
 have hA : AskOk z.F k := ⟨hF, hask.1, hask.2⟩
 have ht : (tZ z.F k (ix z.F k + 1)).t = (sI z.F (ix z.F k + 1)).t := by unfold tZ; simp only [if_pos hA]
 rw [ht]
 rintro _ rfl _ rfl _ rfl _ rfl
 refine kA (fun c2 => ?_) fun c2 => kA (fun c3 => ?_) fun c3 => ?_
 · rw [err_zero.2 hA] at c2; cases c2
 · refine (stop ?_).1
   have c3 := of_decide_eq_true c3
   have := next_le hF k b
   rcases Int.lt_or_le (ix z.F k) (ix z.F b) with q | q
   · have := this.2 (by omega); omega
   · exact q
 · have c3 := of_decide_eq_false c3
   have hle := (next_le hF k b).1 (by omega)
   have hgt := (ix_spec hF k).2
   have e1 := ix_next hF k
   have hbt : -9223372036854775808 ≤ (sI z.F (ix z.F k + 1)).t - 1 := by omega
   have hbb := asked_bd h.askb
   refine in_step h (bL ⟨hbt, by omega⟩) (by omega) (by omega) ?_
   refine ⟨((sI z.F (ix z.F k + 1)).t, acS z u (sI z.F (ix z.F k + 1)).t s), by unfold inMu2; simp only; omega, ⟨⟨in_next h (by omega) (by omega), hz, Int.le_refl _⟩, ?_⟩, rfl⟩
   have ef : fin2 z u b (sI z.F (ix z.F k + 1)).t (acS z u (sI z.F (ix z.F k + 1)).t s) = fin2 z u b k s := by
    unfold fin2
    rw [e1, show (ix z.F b - ix z.F k).toNat = (ix z.F b - (ix z.F k + 1)).toNat + 1 by omega]
    rfl
   simp only
   rw [ef]
   exact ⟨q1, q2⟩
noncomputable def inHx3 (z : Zt) (u a b : Int) (x : Int × Ac) : St := inHf z u a b x.1 x.2.fr x.2.l0 x.2.l1 x.2.l2 x.2.f
noncomputable def inG3 (z : Zt) (u a b : Int) (x : Int × Ac) (Q : Ex → St → Prop) : Prop :=
 (InC z u a b x.2 ∧ z.F.z = true ∧ x.2.fr ≤ x.1 ∧ x.2.f ≠ none) ∧
 ∀ n c, (fin2 z u b x.1 x.2).f = some (n, c) → Q .ret (inZ z u a b (fin2 z u b x.1 x.2).fr (fin2 z u b x.1 x.2).l0 (fin2 z u b x.1 x.2).l1 (fin2 z u b x.1 x.2).l2 n c) ∧ Q (.exit 2) (inZ z u a b (fin2 z u b x.1 x.2).fr (fin2 z u b x.1 x.2).l0 (fin2 z u b x.1 x.2).l1 (fin2 z u b x.1 x.2).l2 n c)
theorem acS_some {z : Zt} {u t : Int} {s : Ac} (h : s.f ≠ none) : (acS z u t s).f ≠ none := fun e => by
 simp only [acS] at e
 split at e
 · unfold acPush at e
   split at e <;> cases e
 · exact h e
theorem in_vc3 {z : Zt} {u a b : Int} {x : Int × Ac} {n : Nat} {g : Nat → Int} (hf : x.2.f = some (n, g)) {Q : Ex → St → Prop} (hG : inG3 z u a b x Q) : inVC3 z u a b x.1 x.2.fr x.2.l0 x.2.l1 x.2.l2 n g (again (inHx3 z u a b) (inMu2 b) (inG3 z u a b) x Q) (left Q) := by
 obtain ⟨k, s⟩ := x
 obtain ⟨⟨h, hz, hk, hn⟩, q2⟩ := hG
 simp only at h hk hn q2 hf
 have hF : FtOk z.F := (h.ok.foot hz).1.1
 unfold inVC3
 simp only
 have stop : ix z.F b ≤ ix z.F k → left Q .ret (some (inZ z u a b s.fr s.l0 s.l1 s.l2 n g)) ∧ left Q (.exit 2) (some (inZ z u a b s.fr s.l0 s.l1 s.l2 n g)) := fun e => by
  have ef : fin2 z u b k s = s := by unfold fin2; rw [show (ix z.F b - ix z.F k).toNat = 0 by omega]; rfl
  rw [ef] at q2
  exact ⟨⟨_, rfl, (q2 n g hf).1⟩, ⟨_, rfl, (q2 n g hf).2⟩⟩
 refine kA (fun c1 => ?_) fun c1 => (stop (ix_mono hF (by have := of_decide_eq_false c1; omega))).2
 have c1 := of_decide_eq_true c1
 have hask : Asked k := asked_mid h.aska h.askb (by have := h.lo; omega) (by omega)
 have hb := asked_bd hask
 refine brcT (dec6 h.bd (by omega) (by omega)) ?_
 have hA : AskOk z.F k := ⟨hF, hask.1, hask.2⟩
 have ht : (tZ z.F k (ix z.F k + 1)).t = (sI z.F (ix z.F k + 1)).t := by unfold tZ; simp only [if_pos hA]
 rw [ht]
 rintro _ rfl _ rfl _ rfl _ rfl
 refine kA (fun c2 => ?_) fun c2 => kA (fun c3 => ?_) fun c3 => ?_
 · rw [err_zero.2 hA] at c2; cases c2
 · refine (stop ?_).1
   have c3 := of_decide_eq_true c3
   have := next_le hF k b
   rcases Int.lt_or_le (ix z.F k) (ix z.F b) with q | q
   · have := this.2 (by omega); omega
   · exact q
 · have c3 := of_decide_eq_false c3
   have hle := (next_le hF k b).1 (by omega)
   have hgt := (ix_spec hF k).2
   have e1 := ix_next hF k
   have hbt : -9223372036854775808 ≤ (sI z.F (ix z.F k + 1)).t - 1 := by omega
   have hbb := asked_bd h.askb
   rw [← hf]
   refine in_step h (bL ⟨hbt, by omega⟩) (by omega) (by omega) ?_
   have hs := acS_some (z := z) (u := u) (t := (sI z.F (ix z.F k + 1)).t) hn
   cases hf2 : (acS z u (sI z.F (ix z.F k + 1)).t s).f with
   | none => exact (hs hf2).elim
   | some p =>
    obtain ⟨n2, g2⟩ := p
    refine ⟨((sI z.F (ix z.F k + 1)).t, acS z u (sI z.F (ix z.F k + 1)).t s), by unfold inMu2; simp only; omega, ⟨⟨in_next h (by omega) (by omega), hz, Int.le_refl _, hs⟩, ?_⟩, ?_⟩
    · have ef : fin2 z u b (sI z.F (ix z.F k + 1)).t (acS z u (sI z.F (ix z.F k + 1)).t s) = fin2 z u b k s := by
       unfold fin2
       rw [e1, show (ix z.F b - ix z.F k).toNat = (ix z.F b - (ix z.F k + 1)).toNat + 1 by omega]
       rfl
      simp only
      rw [ef]
      exact q2
    · unfold inHx3 inHf
      simp only [hf2]
      rfl
set_option maxRecDepth 100000 in
theorem in_noloops1 : Code.loops (loopOf Tryz.prog 150 0) = [] := by kernel_rfl
set_option maxRecDepth 100000 in
theorem in_noloops2 : Code.loops (loopOf Tryz.prog 150 1) = [] := by kernel_rfl
set_option maxRecDepth 100000 in
theorem loops_in : loopsOf Tryz.prog 150 = [loopOf Tryz.prog 150 0, loopOf Tryz.prog 150 1] := by kernel_rfl
set_option maxRecDepth 100000 in
theorem first_in1 : Code.first (loopOf Tryz.prog 150 0) = 2 := by kernel_rfl
set_option maxRecDepth 100000 in
theorem first_in2 : Code.first (loopOf Tryz.prog 150 1) = 7 := by kernel_rfl
attribute [local irreducible] aroundN
theorem in_hround1 (z : Zt) (u a b : Int) (x : Nat × Ac) (Q : Ex → St → Prop) (hG : inG1 z u a b x Q) : aroundN PA Tryz.prog (tab [(80, zyAt0)]) noLoops 12 (loopOf Tryz.prog 150 0) (inHx1 z u a b x) (fun st' => again (inHx1 z u a b) (inMu1 z) (inG1 z u a b) x Q (canon inCS1 st')) (fun e st' => left Q e (canon inCX st')) := by
 have hq := in_vc1 hG
 obtain ⟨k, fr, l0, l1, l2, f⟩ := x
 cases f with
 | none => exact Eq.mpr (in_round1a z u a b k fr l0 l1 l2 (again (inHx1 z u a b) (inMu1 z) (inG1 z u a b) (k, ⟨fr, l0, l1, l2, none⟩) Q) (left Q)) hq
 | some p => obtain ⟨n, g⟩ := p; exact Eq.mpr (in_round1b z u a b k fr l0 l1 l2 n g (again (inHx1 z u a b) (inMu1 z) (inG1 z u a b) (k, ⟨fr, l0, l1, l2, some (n, g)⟩) Q) (left Q)) hq
theorem in_hround2 (z : Zt) (u a b : Int) (x : Int × Ac) (Q : Ex → St → Prop) (hG : inG2 z u a b x Q) : aroundN PA Tryz.prog (tab [(80, zyAt0), (152, cyStand 1)]) noLoops 12 (loopOf Tryz.prog 150 1) (inHx2 z u a b x) (fun st' => again (inHx2 z u a b) (inMu2 b) (inG2 z u a b) x Q (canon inCS2 st')) (fun e st' => left Q e (canon inCY st')) := by
 have hq := in_vc2 hG
 obtain ⟨k, fr, l0, l1, l2, f⟩ := x
 cases f with
 | none => exact Eq.mpr (in_round2a z u a b k fr l0 l1 l2 (again (inHx2 z u a b) (inMu2 b) (inG2 z u a b) (k, ⟨fr, l0, l1, l2, none⟩) Q) (left Q)) hq
 | some p => obtain ⟨n, g⟩ := p; exact Eq.mpr (in_round2b z u a b k fr l0 l1 l2 n g (again (inHx2 z u a b) (inMu2 b) (inG2 z u a b) (k, ⟨fr, l0, l1, l2, some (n, g)⟩) Q) (left Q)) hq
theorem in_lc1 (z : Zt) (u a b : Int) (x : Nat × Ac) : LcOk Tryz.prog (loopOf Tryz.prog 150 0) (lcOf inCS1 (inHx1 z u a b) (inG1 z u a b) x) :=
 lc_ok (T := tab [(80, zyAt0)]) mixed (kB zyAt0_ok kN) (LT := noLoops) (n := 12) (noLoops_in in_noloops1) (c := inCS1) (cX := inCX) rfl (in_hround1 z u a b) x
theorem in_lc2 (z : Zt) (u a b : Int) (x : Int × Ac) : LcOk Tryz.prog (loopOf Tryz.prog 150 1) (lcOf inCS2 (inHx2 z u a b) (inG2 z u a b) x) :=
 lc_ok (T := tab [(80, zyAt0), (152, cyStand 1)]) mixed (kB zyAt0_ok (kB cyNextF_ok kN)) (LT := noLoops) (n := 12) (noLoops_in in_noloops2) (c := inCS2) (cX := inCY) rfl (in_hround2 z u a b) x
theorem in_hround3 (z : Zt) (u a b : Int) (x : Int × Ac) (Q : Ex → St → Prop) (hG : inG3 z u a b x Q) : aroundN PA Tryz.prog (tab [(80, zyAt0), (152, cyStand 1)]) noLoops 12 (loopOf Tryz.prog 150 1) (inHx3 z u a b x) (fun st' => again (inHx3 z u a b) (inMu2 b) (inG3 z u a b) x Q (canon inCS3 st')) (fun e st' => left Q e (canon inCZ st')) := by
 obtain ⟨k, fr, l0, l1, l2, f⟩ := x
 cases f with
 | none => exact (hG.1.2.2.2 rfl).elim
 | some p => obtain ⟨n, g⟩ := p; exact Eq.mpr (in_round3 z u a b k fr l0 l1 l2 n g (again (inHx3 z u a b) (inMu2 b) (inG3 z u a b) (k, ⟨fr, l0, l1, l2, some (n, g)⟩) Q) (left Q)) (in_vc3 rfl hG)
theorem in_lc3 (z : Zt) (u a b : Int) (x : Int × Ac) : LcOk Tryz.prog (loopOf Tryz.prog 150 1) (lcOf inCS3 (inHx3 z u a b) (inG3 z u a b) x) :=
 lc_ok (T := tab [(80, zyAt0), (152, cyStand 1)]) mixed (kB zyAt0_ok (kB cyNextF_ok kN)) (LT := noLoops) (n := 12) (noLoops_in in_noloops2) (c := inCS3) (cX := inCZ) rfl (in_hround3 z u a b) x
noncomputable def lcTwo (lc1 lc2 : St → (Ex → St → Prop) → Prop) : St → (Ex → St → Prop) → Prop := fun st Q => brc (Nat.beq st.h.length 20) (lc1 st Q) (lc2 st Q)
theorem lcTwo_ok {P : Program} {b : Code} {lc1 lc2 : St → (Ex → St → Prop) → Prop} (h1 : LcOk P b lc1) (h2 : LcOk P b lc2) : LcOk P b (lcTwo lc1 lc2) := fun st Q ρ W w a h hs r n => by
 unfold lcTwo at h
 cases hb : Nat.beq st.h.length 20 with
 | true => rw [hb] at h; exact h1 st Q ρ W w a h hs r n
 | false => rw [hb] at h; exact h2 st Q ρ W w a h hs r n
noncomputable def inLG (z : Zt) (u a b : Int) (x1 : Nat × Ac) (x2 : Int × Ac) : FuncId → LTab Prop := fun g => if g = 150 then (fun k => if k = 2 then some (lcOf inCS1 (inHx1 z u a b) (inG1 z u a b) x1) else if k = 7 then some (lcTwo (lcOf inCS2 (inHx2 z u a b) (inG2 z u a b) x2) (lcOf inCS3 (inHx3 z u a b) (inG3 z u a b) x2)) else none) else fun _ => none
theorem inLG_ok (z : Zt) (u a b : Int) (x1 : Nat × Ac) (x2 : Int × Ac) (g : FuncId) : LtOk Tryz.prog g (inLG z u a b x1 x2 g) :=
 lg_ok (lt_two loops_in first_in1 first_in2 (by omega) (in_lc1 z u a b x1) (lcTwo_ok (in_lc2 z u a b x2) (in_lc3 z u a b x2))) g
@[irreducible] def AFLL (T : Tab) (LG : FuncId → LTab Prop) (n g : Nat) (args : List AV) (K : AV → Prop) : Prop := afnL PA Tryz.prog T LG n g args fun u h => nuK h u K
def curOf (z : Zt) (u : Int) : Int := if IntKind.wrap .i64 (z.F.fr - 1) > IntKind.wrap .i64 (u - 57600) then IntKind.wrap .i64 (z.F.fr - 1) else IntKind.wrap .i64 (u - 57600)
def x1Of (z : Zt) (u : Int) : Nat × Ac := (kz z (IntKind.wrap .i64 (u - 57600)) z.n, ⟨IntKind.wrap .i64 (u - 57600), 0, 0, 0, none⟩)
noncomputable def s1Of (z : Zt) (u : Int) : Ac := fin1 z u (IntKind.wrap .i64 (u + 57600)) (kz z (IntKind.wrap .i64 (u - 57600)) z.n) ⟨IntKind.wrap .i64 (u - 57600), 0, 0, 0, none⟩
noncomputable def x2Of (z : Zt) (u : Int) : Int × Ac := (curOf z u, s1Of z u)
noncomputable def s2Of (z : Zt) (u : Int) : Ac := fin2 z u (IntKind.wrap .i64 (u + 57600)) (curOf z u) (s1Of z u)
def inT (x : Int) (k : Int) : AV := .tup [.int .i64 x, .int .i64 k, .int .i64 0]
def inFin0 (z : Zt) (u : Int) (s : Ac) (K : AV → Prop) : Prop :=
 brc (tyR z.n (znRow z) && bdZ z.F && decide (ZtOk z ∧ Asked s.fr ∧ -9223372036854775808 ≤ s.fr ∧ s.fr ≤ 9223372036854775807)) (∀ m0 : Int, m0 = (atZ z s.fr).t → ∀ m1 : Int, m1 = (atZ z s.fr).off → ∀ m2 : Bool, m2 = (atZ z s.fr).dst →
  brc (decide (IntKind.wrap .i64 (u - m1) ≥ s.fr)) (brc (decide (IntKind.wrap .i64 (u - m1) ≤ IntKind.wrap .i64 (u + 57600))) (brc (decide (s.fr < IntKind.wrap .i64 (u - m1))) (K (inT (IntKind.wrap .i64 (u - m1)) 0)) (K (inT (IntKind.wrap .i64 (u - m1)) 0)))
   (brc (decide (s.fr < IntKind.wrap .i64 (u - m1))) (K (inT (IntKind.wrap .i64 (u - m1)) 2)) (K (inT (IntKind.wrap .i64 (u - s.l2)) 2)))) (brc (decide (s.fr < IntKind.wrap .i64 (u - m1))) (K (inT (IntKind.wrap .i64 (u - m1)) 2)) (K (inT (IntKind.wrap .i64 (u - s.l2)) 2)))) False
def inOne (n : Nat) (x : Int) (K : AV → Prop) : Prop := brc ((n : Int) == 1) (brc (decide (0 < (n : Int))) (brc (decide (Int.toNat 0 < n)) (K (inT x 0)) False) False) (brc (decide (0 < (n : Int))) (brc (decide (Int.toNat 0 < n)) (K (inT x 1)) False) False)
def inMany (n : Nat) (c : Nat → Int) (w : Int) (K : AV → Prop) : Prop := brc ((n : Int) == 0) (K (inT w 2)) (inOne n (c 0) K)
def inFin1 (z : Zt) (u : Int) (s : Ac) (n : Nat) (c : Nat → Int) (K : AV → Prop) : Prop :=
 brc (tyR z.n (znRow z) && bdZ z.F && decide (ZtOk z ∧ Asked s.fr ∧ -9223372036854775808 ≤ s.fr ∧ s.fr ≤ 9223372036854775807)) (∀ m0 : Int, m0 = (atZ z s.fr).t → ∀ m1 : Int, m1 = (atZ z s.fr).off → ∀ m2 : Bool, m2 = (atZ z s.fr).dst →
  brc (decide (IntKind.wrap .i64 (u - m1) ≥ s.fr)) (brc (decide (IntKind.wrap .i64 (u - m1) ≤ IntKind.wrap .i64 (u + 57600))) (brc (Nat.beq n n && roomB (n + 1) 8) (brc (decide (s.fr < IntKind.wrap .i64 (u - m1))) (inOne (n + 1) (if decide (Int.toNat 0 < n) = true then c 0 else IntKind.wrap .i64 (u - m1)) K) (inOne (n + 1) (if decide (Int.toNat 0 < n) = true then c 0 else IntKind.wrap .i64 (u - m1)) K)) False)
   (brc (decide (s.fr < IntKind.wrap .i64 (u - m1))) (inMany n c (IntKind.wrap .i64 (u - m1)) K) (inMany n c (IntKind.wrap .i64 (u - s.l2)) K))) (brc (decide (s.fr < IntKind.wrap .i64 (u - m1))) (inMany n c (IntKind.wrap .i64 (u - m1)) K) (inMany n c (IntKind.wrap .i64 (u - s.l2)) K))) False
def SHOWl1 (z : Zt) (u m : Int) (P : Prop) (B : Nat → (Nat → Int) → Prop) : Prop :=
 isH (some (inH1 z u (IntKind.wrap .i64 (u - 57600)) (IntKind.wrap .i64 (u + 57600)) m (IntKind.wrap .i64 (u - 57600)) 0 0 0 none)) (inHx1 z u (IntKind.wrap .i64 (u - 57600)) (IntKind.wrap .i64 (u + 57600)) (x1Of z u)) ∧
 ((InC z u (IntKind.wrap .i64 (u - 57600)) (IntKind.wrap .i64 (u + 57600)) (x1Of z u).2 ∧ (x1Of z u).1 ≤ kz z (IntKind.wrap .i64 (u + 57600)) z.n ∧ ∀ j, (x1Of z u).1 ≤ j → j < z.n → (x1Of z u).2.fr < z.ta j) ∧ (((s1Of z u).f = none → P) ∧ ∀ n c, (s1Of z u).f = some (n, c) → B n c))
def SHOWl2 (z : Zt) (u m : Int) (P1 P2 : Prop) (B1 B2 : Nat → (Nat → Int) → Prop) : Prop :=
 isH (some (inH2 z u (IntKind.wrap .i64 (u - 57600)) (IntKind.wrap .i64 (u + 57600)) m (s1Of z u).fr (s1Of z u).l0 (s1Of z u).l1 (s1Of z u).l2 none)) (inHx2 z u (IntKind.wrap .i64 (u - 57600)) (IntKind.wrap .i64 (u + 57600)) (x2Of z u)) ∧
 ((InC z u (IntKind.wrap .i64 (u - 57600)) (IntKind.wrap .i64 (u + 57600)) (x2Of z u).2 ∧ z.F.z = true ∧ (x2Of z u).2.fr ≤ (x2Of z u).1) ∧ (((s2Of z u).f = none → P1 ∧ P2) ∧ ∀ n c, (s2Of z u).f = some (n, c) → B1 n c ∧ B2 n c))
def SHOWl3 (z : Zt) (u m : Int) (f : Option (Nat × (Nat → Int))) (B1 B2 : Nat → (Nat → Int) → Prop) : Prop :=
 isH (some (inHf z u (IntKind.wrap .i64 (u - 57600)) (IntKind.wrap .i64 (u + 57600)) m (s1Of z u).fr (s1Of z u).l0 (s1Of z u).l1 (s1Of z u).l2 f)) (inHx3 z u (IntKind.wrap .i64 (u - 57600)) (IntKind.wrap .i64 (u + 57600)) (x2Of z u)) ∧
 ((InC z u (IntKind.wrap .i64 (u - 57600)) (IntKind.wrap .i64 (u + 57600)) (x2Of z u).2 ∧ z.F.z = true ∧ (x2Of z u).2.fr ≤ (x2Of z u).1 ∧ (x2Of z u).2.f ≠ none) ∧ ∀ n c, (s2Of z u).f = some (n, c) → B1 n c ∧ B2 n c)
set_option maxRecDepth 100000 in
theorem zinst_vc (z : Zt) (u : Int) (K : AV → Prop) : AFLL (tab [(49, zyRight), (80, zyAt0), (119, zySearch), (92, cyYear), (152, cyStand 1)]) (inLG z u (IntKind.wrap .i64 (u - 57600)) (IntKind.wrap .i64 (u + 57600)) (x1Of z u) (x2Of z u)) 12 36 [.agg (avZ z), .int .i64 u] K =
 (brc (tyR (Zt.n z) (znRow z) && bdZ (Zt.F z)) (∀ (m0 : Bool), m0 = decide (ZtOk z) → brc (!m0) (K (AV.tup [AV.int IntKind.i64 0, AV.int IntKind.i64 0, AV.int IntKind.i64 1])) (brc (decide (-9223372036854775808 ≤ u ∧ u ≤ 9223372036854775807)) (∀ (m1 : Int), m1 = yAt u → brc (decide (m1 ≥ -4714)) (brc (!decide (m1 ≤ 294278)) (K (AV.tup [AV.int IntKind.i64 0, AV.int IntKind.i64 0, AV.int IntKind.i64 10])) (brc (tyR (Zt.n z) (znRow z) && bdZ (Zt.F z)) (∀ (m2 : Bool), m2 = decide (ZtOk z) → brc (!m2) (K (AV.tup [AV.int IntKind.i64 0, AV.int IntKind.i64 0, AV.int IntKind.i64 1])) (brc (decide (-9223372036854775808 ≤ IntKind.wrap IntKind.i64 (u - 57600) ∧ IntKind.wrap IntKind.i64 (u - 57600) ≤ 9223372036854775807)) (∀ (m3 : Int), m3 = yAt (IntKind.wrap IntKind.i64 (u - 57600)) → brc (decide (m3 ≥ -4714)) (brc (!decide (m3 ≤ 294278)) (K (AV.tup [AV.int IntKind.i64 0, AV.int IntKind.i64 0, AV.int IntKind.i64 10])) (brc (decide (-9223372036854775808 ≤ IntKind.wrap IntKind.i64 (u + 57600) ∧ IntKind.wrap IntKind.i64 (u + 57600) ≤ 9223372036854775807)) (∀ (m4 : Int), m4 = yAt (IntKind.wrap IntKind.i64 (u + 57600)) → brc (decide (m4 ≥ -4714)) (brc (!decide (m4 ≤ 294278)) (K (AV.tup [AV.int IntKind.i64 0, AV.int IntKind.i64 0, AV.int IntKind.i64 10])) (brc (tyR (Zt.n z) (znRow z) && bdZ (Zt.F z) && decide (RowsOk z 0 ∧ ((Zt.n z : Nat) : Int) = ((Zt.n z : Nat) : Int) ∧ Zt.n z ≤ 8192)) (∀ (m5 : Int), m5 = ((kz z (IntKind.wrap IntKind.i64 (u - 57600)) (Zt.n z) : Nat) : Int) → SHOWl1 z u m5 (brc (!Ft.z (Zt.F z)) (inFin0 z u (s1Of z u) K) (SHOWl2 z u (curOf z u) (inFin0 z u (s2Of z u) K) (inFin0 z u (s2Of z u) K) (fun n c => inFin1 z u (s2Of z u) n c K) (fun n c => inFin1 z u (s2Of z u) n c K))) (fun n c => brc (!Ft.z (Zt.F z)) (inFin1 z u (s1Of z u) n c K) (SHOWl3 z u (curOf z u) (some (n, c)) (fun n c => inFin1 z u (s2Of z u) n c K) (fun n c => inFin1 z u (s2Of z u) n c K)))) False)) (K (AV.tup [AV.int IntKind.i64 0, AV.int IntKind.i64 0, AV.int IntKind.i64 10]))) False)) (K (AV.tup [AV.int IntKind.i64 0, AV.int IntKind.i64 0, AV.int IntKind.i64 10]))) False)) False)) (K (AV.tup [AV.int IntKind.i64 0, AV.int IntKind.i64 0, AV.int IntKind.i64 10]))) False)) False) := by kernel_rfl
theorem kz_mono (z : Zt) {u v : Int} (h : u ≤ v) : ∀ n, kz z u n ≤ kz z v n
 | 0 => Nat.le_refl _
 | n + 1 => by
  have ih := kz_mono z h n
  have hl := kz_le z u n
  unfold kz
  split
  · rw [if_pos (by omega)]; exact Nat.le_refl _
  · split
    · omega
    · exact ih
theorem acR_keep {z : Zt} {u a b : Int} : ∀ (m k : Nat) (s : Ac), InC z u a b s → k + m ≤ kz z b z.n → (∀ j, k ≤ j → j < z.n → s.fr < z.ta j) → InC z u a b (acR z u m k s)
 | 0, _, s, h, _, _ => h
 | m + 1, k, s, h, hk, hj => by
  have hle := kz_le z b z.n
  have ht := hj k (Nat.le_refl _) (by omega)
  have htb := (kz_iff h.ok.rows b z.n k (Nat.le_refl _) (by omega)).1 (by omega)
  exact acR_keep m (k + 1) _ (in_next h ht htb) (by omega) fun j h1 h2 => rows_lt' h.ok.rows (by omega) h2
theorem acR_fr (z : Zt) (u : Int) : ∀ (m k : Nat) (s : Ac), (acR z u m k s).fr = if m = 0 then s.fr else z.ta (k + m - 1)
 | 0, _, s => rfl
 | m + 1, k, s => by
  have ih := acR_fr z u m (k + 1) (acS z u (z.ta k) s)
  show (acR z u m (k + 1) (acS z u (z.ta k) s)).fr = _
  rw [ih]
  by_cases h : m = 0
  · subst h; rfl
  · rw [if_neg h, if_neg (by omega)]
    congr 1; omega
theorem acF_keep {z : Zt} {u a b : Int} (hF : FtOk z.F) : ∀ (m : Nat) (i : Int) (s : Ac), InC z u a b s → i + m ≤ ix z.F b → s.fr < (sI z.F (i + 1)).t → InC z u a b (acF z u m i s)
 | 0, _, s, h, _, _ => h
 | m + 1, i, s, h, hk, hs => by
  have h1 := sI_le hF (i := i + 1) (j := ix z.F b) (by omega)
  have h2 := (ix_spec hF b).1
  exact acF_keep hF m (i + 1) _ (in_next h hs (by omega)) (by omega) (sI_lt hF (by omega))
def instF (u : Int) (s : Ac) : Int × Int := match s.f with
 | none => (u - s.l2, 2)
 | some (n, g) => (g 0, if n = 1 then 0 else 1)
noncomputable def sEnd (z : Zt) (u : Int) : Ac := if z.F.z = true then s2Of z u else s1Of z u
noncomputable def instZ (z : Zt) (u : Int) : Int × Int := instF u (acS z u (u + 57601) (sEnd z u))
noncomputable def iErr (z : Zt) (u : Int) : Int := if ZtOk z then (if Asked u ∧ Asked (u - 57600) ∧ Asked (u + 57600) then 0 else 10) else 1
noncomputable def instE (z : Zt) (u : Int) : Int × Int := if iErr z u = 0 then instZ z u else (0, 0)
def resI (x : Int × Int) : AV := inT x.1 x.2
theorem in_end0 {z : Zt} {u a b : Int} {s : Ac} (h : InC z u a b s) (hf : s.f = none) {K : AV → Prop} (hK : K (resI (instF u (acS z u (u + 57601) s)))) : inFin0 z u s K := by
 have h1 := h.bdf
 have h2 := h.bdu
 have h3 := h.off
 have h4 := h.l2
 unfold inFin0
 refine brcT (by rw [tyZ z h.bd, decide_eq_true (show ZtOk z ∧ Asked s.fr ∧ -9223372036854775808 ≤ s.fr ∧ s.fr ≤ 9223372036854775807 from ⟨h.ok, h.askf, by omega, by omega⟩)]; rfl) ?_
 rintro _ rfl _ rfl _ rfl
 rw [show IntKind.wrap .i64 (u - (atZ z s.fr).off) = u - (atZ z s.fr).off from bL (by omega), show IntKind.wrap .i64 (u - s.l2) = u - s.l2 from bL (by omega), show IntKind.wrap .i64 (u + 57600) = u + 57600 from bL (by omega)]
 have ef : (acS z u (u + 57601) s).f = if s.fr ≤ u - (atZ z s.fr).off ∧ u - (atZ z s.fr).off ≤ u + 57600 then some (1, fun _ => u - (atZ z s.fr).off) else none := by
  simp only [acS, hf, show u + 57601 - 1 = u + 57600 by omega]; rfl
 have el : (acS z u (u + 57601) s).l2 = if s.fr < u - (atZ z s.fr).off then (atZ z s.fr).off else s.l2 := rfl
 unfold instF at hK
 rw [ef, el] at hK
 have no : ¬ (s.fr ≤ u - (atZ z s.fr).off ∧ u - (atZ z s.fr).off ≤ u + 57600) → brc (decide (s.fr < u - (atZ z s.fr).off)) (K (inT (u - (atZ z s.fr).off) 2)) (K (inT (u - s.l2) 2)) := fun q => by
  rw [if_neg q] at hK
  refine kA (fun r => ?_) fun r => ?_
  · rw [if_pos (of_decide_eq_true r)] at hK; exact hK
  · rw [if_neg (of_decide_eq_false r)] at hK; exact hK
 refine kA (fun c1 => kA (fun c2 => ?_) fun c2 => no fun q => of_decide_eq_false c2 q.2) fun c1 => no fun q => of_decide_eq_false c1 q.1
 rw [if_pos ⟨of_decide_eq_true c1, of_decide_eq_true c2⟩] at hK
 exact kA (fun _ => hK) fun _ => hK
theorem in_one {n : Nat} {x : Int} {K : AV → Prop} (hn : 0 < n) (hK : K (resI (x, if n = 1 then 0 else 1))) : inOne n x K := by
 unfold inOne
 have t1 : decide (0 < (n : Int)) = true := decide_eq_true (by omega)
 have t2 : decide (Int.toNat 0 < n) = true := decide_eq_true (by simpa using hn)
 rw [t1, t2]
 refine kA (fun c => brcT rfl (brcT rfl ?_)) fun c => brcT rfl (brcT rfl ?_)
 · have : n = 1 := by simp at c; omega
   rw [if_pos this] at hK; exact hK
 · have : ¬ n = 1 := by simp at c; omega
   rw [if_neg this] at hK; exact hK
theorem in_many {n : Nat} {c : Nat → Int} {w : Int} {K : AV → Prop} (hn : 0 < n) (hK : K (resI (c 0, if n = 1 then 0 else 1))) : inMany n c w K := by
 unfold inMany
 refine kA (fun q => ?_) fun _ => in_one hn hK
 simp at q; omega
theorem in_end1 {z : Zt} {u a b : Int} {s : Ac} (h : InC z u a b s) {n : Nat} {c : Nat → Int} (hf : s.f = some (n, c)) {K : AV → Prop} (hK : K (resI (instF u (acS z u (u + 57601) s)))) : inFin1 z u s n c K := by
 have h1 := h.bdf
 have h2 := h.bdu
 have h3 := h.off
 have h4 := h.l2
 have hn := h.pos n c hf
 have hc := h.cnt
 rw [hf] at hc
 have hc : (n : Int) ≤ s.fr - a := hc
 have hhi := h.hi
 have hb := h.eb
 have ha := h.ea
 unfold inFin1
 refine brcT (by rw [tyZ z h.bd, decide_eq_true (show ZtOk z ∧ Asked s.fr ∧ -9223372036854775808 ≤ s.fr ∧ s.fr ≤ 9223372036854775807 from ⟨h.ok, h.askf, by omega, by omega⟩)]; rfl) ?_
 rintro _ rfl _ rfl _ rfl
 rw [show IntKind.wrap .i64 (u - (atZ z s.fr).off) = u - (atZ z s.fr).off from bL (by omega), show IntKind.wrap .i64 (u - s.l2) = u - s.l2 from bL (by omega), show IntKind.wrap .i64 (u + 57600) = u + 57600 from bL (by omega)]
 have ef : (acS z u (u + 57601) s).f = if s.fr ≤ u - (atZ z s.fr).off ∧ u - (atZ z s.fr).off ≤ u + 57600 then some (n + 1, fun i => if decide (i < n) = true then c i else u - (atZ z s.fr).off) else some (n, c) := by
  simp only [acS, hf, show u + 57601 - 1 = u + 57600 by omega]; rfl
 unfold instF at hK
 rw [ef] at hK
 have no : ¬ (s.fr ≤ u - (atZ z s.fr).off ∧ u - (atZ z s.fr).off ≤ u + 57600) → K (resI (c 0, if n = 1 then 0 else 1)) := fun q => by
  rw [if_neg q] at hK; exact hK
 have nn : ¬ (s.fr ≤ u - (atZ z s.fr).off ∧ u - (atZ z s.fr).off ≤ u + 57600) → brc (decide (s.fr < u - (atZ z s.fr).off)) (inMany n c (u - (atZ z s.fr).off) K) (inMany n c (u - s.l2) K) := fun q => kA (fun _ => in_many hn (no q)) fun _ => in_many hn (no q)
 refine kA (fun c1 => kA (fun c2 => ?_) fun c2 => nn fun q => of_decide_eq_false c2 q.2) fun c1 => nn fun q => of_decide_eq_false c1 q.1
 rw [if_pos ⟨of_decide_eq_true c1, of_decide_eq_true c2⟩] at hK
 have hr : (Nat.beq n n && roomB (n + 1) 8) = true := by
  have r1 : Nat.beq n n = true := by simp
  have r2 : roomB (n + 1) 8 = true := by
   unfold roomB
   rw [Bool.and_eq_true]
   exact ⟨Nat.ble_eq_true_of_le (by unfold maxLen; omega), Nat.ble_eq_true_of_le (by omega)⟩
  rw [r1, r2]; rfl
 refine brcT hr ?_
 have hK := in_one (n := n + 1) (by omega) hK
 exact kA (fun _ => hK) fun _ => hK
theorem zinst_ok {z : Zt} {u : Int} (hb : bdZ z.F = true) (h1 : -9223372036854775808 ≤ u) (h2 : u ≤ 9223372036854775807) : AFLL (tab [(49, zyRight), (80, zyAt0), (119, zySearch), (92, cyYear), (152, cyStand 1)]) (inLG z u (IntKind.wrap .i64 (u - 57600)) (IntKind.wrap .i64 (u + 57600)) (x1Of z u) (x2Of z u)) 12 36 [.agg (avZ z), .int .i64 u] (Res (.tup [.int .i64 (instE z u).1, .int .i64 (instE z u).2, .int .i64 (iErr z u)])) := by
 rw [zinst_vc]
 have no : ∀ e : Int, iErr z u = e → e ≠ 0 → Res (.tup [.int .i64 (instE z u).1, .int .i64 (instE z u).2, .int .i64 (iErr z u)]) (AV.tup [AV.int IntKind.i64 0, AV.int IntKind.i64 0, AV.int IntKind.i64 e]) := fun e he h => by
  have : instE z u = (0, 0) := by unfold instE; rw [if_neg (by rw [he]; exact h)]
  rw [this, he]; exact jF rfl
 refine brcT (tyZ z hb) ?_
 rintro _ rfl
 refine kA (fun a => ?_) fun a => ?_
 · exact no 1 (by unfold iErr; rw [if_neg (by simpa using a)]) (by omega)
 have hz : ZtOk z := by simpa using a
 have far : ¬ (Asked u ∧ Asked (u - 57600) ∧ Asked (u + 57600)) → Res (.tup [.int .i64 (instE z u).1, .int .i64 (instE z u).2, .int .i64 (iErr z u)]) (AV.tup [AV.int IntKind.i64 0, AV.int IntKind.i64 0, AV.int IntKind.i64 10]) := fun h => no 10 (by unfold iErr; rw [if_pos hz, if_neg h]) (by omega)
 refine brcT (decide_eq_true ⟨h1, h2⟩) ?_
 rintro _ rfl
 refine kA (fun b => ?_) fun b => far fun q => of_decide_eq_false b q.1.1
 refine kA (fun c => far fun q => by simp at c; have := q.1.2; omega) fun c => ?_
 have hk : Asked u := ⟨of_decide_eq_true b, by simpa using c⟩
 have hub := asked_bd hk
 have ea : IntKind.wrap .i64 (u - 57600) = u - 57600 := bL (by omega)
 have eb : IntKind.wrap .i64 (u + 57600) = u + 57600 := bL (by omega)
 refine brcT (tyZ z hb) ?_
 rintro _ rfl
 refine kA (fun a => by simp [hz] at a) fun _ => ?_
 refine brcT (decide_eq_true (by omega)) ?_
 rintro _ rfl
 refine kA (fun b => ?_) fun b => far fun q => of_decide_eq_false b (by rw [ea]; exact q.2.1.1)
 refine kA (fun c => far fun q => by simp at c; rw [ea] at c; have := q.2.1.2; omega) fun c => ?_
 have hka : Asked (IntKind.wrap .i64 (u - 57600)) := ⟨of_decide_eq_true b, by simpa using c⟩
 refine brcT (decide_eq_true (by omega)) ?_
 rintro _ rfl
 refine kA (fun b => ?_) fun b => far fun q => of_decide_eq_false b (by rw [eb]; exact q.2.2.1)
 refine kA (fun c => far fun q => by simp at c; rw [eb] at c; have := q.2.2.2; omega) fun c => ?_
 have hkb : Asked (IntKind.wrap .i64 (u + 57600)) := ⟨of_decide_eq_true b, by simpa using c⟩
 have e0 : iErr z u = 0 := by unfold iErr; rw [if_pos hz, if_pos ⟨hk, ea ▸ hka, eb ▸ hkb⟩]
 have ei : instE z u = instF u (acS z u (u + 57601) (sEnd z u)) := by unfold instE; rw [if_pos e0]; rfl
 have fin : Res (.tup [.int .i64 (instE z u).1, .int .i64 (instE z u).2, .int .i64 (iErr z u)]) (resI (instF u (acS z u (u + 57601) (sEnd z u)))) := by
  rw [← ei, e0]; exact jF rfl
 refine brcT (by rw [tyZ z hb, decide_eq_true (show RowsOk z 0 ∧ ((Zt.n z : Nat) : Int) = ((Zt.n z : Nat) : Int) ∧ Zt.n z ≤ 8192 from ⟨hz.rows, rfl, hz.2.2.1⟩)]; rfl) ?_
 rintro _ rfl
 have i1 : InC z u (IntKind.wrap .i64 (u - 57600)) (IntKind.wrap .i64 (u + 57600)) (x1Of z u).2 := ⟨hz, hb, ea, eb, hk, hka, hkb, Int.le_refl _, by show IntKind.wrap .i64 (u - 57600) ≤ _; omega, by show (0 : Int) ≤ IntKind.wrap .i64 (u - 57600) - _; omega, by show (-57600 : Int) ≤ 0 ∧ (0 : Int) ≤ 57600; omega, fun n g e => by cases e⟩
 have m1 : (x1Of z u).1 ≤ kz z (IntKind.wrap .i64 (u + 57600)) z.n := kz_mono z (by omega) z.n
 have j1 : ∀ j, (x1Of z u).1 ≤ j → j < z.n → (x1Of z u).2.fr < z.ta j := fun j g1 g2 => by
  have := (kz_iff hz.rows (IntKind.wrap .i64 (u - 57600)) z.n j (Nat.le_refl _) g2)
  have g1 : kz z (IntKind.wrap .i64 (u - 57600)) z.n ≤ j := g1
  rcases Int.lt_or_le (IntKind.wrap .i64 (u - 57600)) (z.ta j) with q | q
  · exact q
  · have := this.2 q; omega
 have i2 : InC z u (IntKind.wrap .i64 (u - 57600)) (IntKind.wrap .i64 (u + 57600)) (s1Of z u) := acR_keep _ _ _ i1 (by have := m1; show kz z (IntKind.wrap .i64 (u - 57600)) z.n + (kz z (IntKind.wrap .i64 (u + 57600)) z.n - kz z (IntKind.wrap .i64 (u - 57600)) z.n) ≤ _; have : (x1Of z u).1 = kz z (IntKind.wrap .i64 (u - 57600)) z.n := rfl; omega) j1
 have c2 : z.F.z = true → (x2Of z u).2.fr ≤ (x2Of z u).1 := fun hF => by
  show (s1Of z u).fr ≤ curOf z u
  have hfo := hz.foot hF
  have hfa : Asked z.F.fr := ⟨by have := hfo.2.2.1; omega, by have := hfo.2.2.2.1; omega⟩
  have hfb := asked_bd hfa
  have efr : (s1Of z u).fr = _ := acR_fr z u (kz z (IntKind.wrap .i64 (u + 57600)) z.n - kz z (IntKind.wrap .i64 (u - 57600)) z.n) (kz z (IntKind.wrap .i64 (u - 57600)) z.n) _
  rw [efr]
  unfold curOf
  rw [show IntKind.wrap .i64 (z.F.fr - 1) = z.F.fr - 1 from bL (by omega)]
  have hn := kz_le z (IntKind.wrap .i64 (u + 57600)) z.n
  split
  · show IntKind.wrap .i64 (u - 57600) ≤ _
    split <;> omega
  · rename_i hne
    have hle : z.ta (kz z (IntKind.wrap .i64 (u - 57600)) z.n + (kz z (IntKind.wrap .i64 (u + 57600)) z.n - kz z (IntKind.wrap .i64 (u - 57600)) z.n) - 1) ≤ z.F.fr - 1 := by
     have hla : z.ta (z.n - 1) < z.F.fr := by
      rcases hfo.2.2.2.2 with e | e
      · omega
      · exact e
     have hx : kz z (IntKind.wrap .i64 (u - 57600)) z.n + (kz z (IntKind.wrap .i64 (u + 57600)) z.n - kz z (IntKind.wrap .i64 (u - 57600)) z.n) - 1 ≤ z.n - 1 := by
      have := kz_mono z (show IntKind.wrap .i64 (u - 57600) ≤ IntKind.wrap .i64 (u + 57600) by omega) z.n
      omega
     rcases Nat.lt_or_eq_of_le hx with q | q
     · have := rows_lt' hz.rows q (by omega); omega
     · rw [q]; omega
    split <;> omega
 have i3 : z.F.z = true → InC z u (IntKind.wrap .i64 (u - 57600)) (IntKind.wrap .i64 (u + 57600)) (s2Of z u) := fun hF => by
  have hFo : FtOk z.F := (hz.foot hF).1.1
  show InC z u _ _ (acF z u (ix z.F (IntKind.wrap .i64 (u + 57600)) - ix z.F (curOf z u)).toNat (ix z.F (curOf z u)) (s1Of z u))
  rcases Int.lt_or_le (ix z.F (IntKind.wrap .i64 (u + 57600))) (ix z.F (curOf z u)) with q | q
  · rw [show (ix z.F (IntKind.wrap .i64 (u + 57600)) - ix z.F (curOf z u)).toNat = 0 by omega]; exact i2
  · refine acF_keep hFo _ _ _ i2 (by omega) ?_
    have := (ix_spec hFo (curOf z u)).2
    have := c2 hF
    have : (x2Of z u).2.fr = (s1Of z u).fr := rfl
    have : (x2Of z u).1 = curOf z u := rfl
    omega
 have e1 : z.F.z ≠ true → sEnd z u = s1Of z u := fun h => by unfold sEnd; rw [if_neg h]
 have e2 : z.F.z = true → sEnd z u = s2Of z u := fun h => by unfold sEnd; rw [if_pos h]
 refine ⟨isH_rfl _, ⟨i1, m1, j1⟩, fun hf => ?_, fun n c hf => ?_⟩
 · refine kA (fun q => ?_) fun q => ?_
   · refine in_end0 i2 hf ?_
     rw [← e1 (by simpa using q)]; exact fin
   · have hF : z.F.z = true := by simpa using q
     rw [e2 hF] at fin
     refine ⟨?_, ⟨i2, hF, c2 hF⟩, fun hf2 => ⟨in_end0 (i3 hF) hf2 fin, in_end0 (i3 hF) hf2 fin⟩, fun n c hf2 => ⟨in_end1 (i3 hF) hf2 fin, in_end1 (i3 hF) hf2 fin⟩⟩
     unfold isH inHx2 x2Of
     simp only [hf]
 · refine kA (fun q => ?_) fun q => ?_
   · refine in_end1 i2 hf ?_
     rw [← e1 (by simpa using q)]; exact fin
   · have hF : z.F.z = true := by simpa using q
     rw [e2 hF] at fin
     refine ⟨?_, ⟨i2, hF, c2 hF, ?_⟩, fun n c hf2 => ⟨in_end1 (i3 hF) hf2 fin, in_end1 (i3 hF) hf2 fin⟩⟩
     · unfold isH inHx3 x2Of
       simp only [hf]
     · show (s1Of z u).f ≠ none
       rw [hf]; intro e; cases e
noncomputable def zyInst : Con
 | [.agg l, .int .i64 u] => match rdZ l with
  | some (p, z) => some (p && decide (-9223372036854775808 ≤ u ∧ u ≤ 9223372036854775807), .tup [.int .i64 (instE z u).1, .int .i64 (instE z u).2, .int .i64 (iErr z u)])
  | none => none
 | _ => none
theorem afll_con {T : Tab} (hT : TabOk Tryz.prog T) {g : Nat} (hn : (Tryz.prog.funcs[g]?).any (fun fn => !(fn.name == "runtime.NumGoroutine")) = true) {con : Con}
 (h : ∀ args p v, con args = some (p, v) → p = true → ∃ args' n LG, (∀ w A, RL noNames w args A → RL noNames w args' A) ∧ (∀ g, LtOk Tryz.prog g (LG g)) ∧ AFLL T LG n g args' (Res v)) : COk Tryz.prog g con := by
 intro args p v hc hp w A hA
 obtain ⟨args', n, LG, h1, h2, h3⟩ := h args p v hc hp
 refine givesF_ok mixed hT hn h2 (n := n) ?_ (h1 w A hA)
 unfold AFLL at h3
 with_reducible exact h3
theorem zyInst_ok : COk Tryz.prog 36 zyInst := afll_con (kB zyRight_ok (kB zyAt0_ok (kB zySearch_ok (kB cyYear_ok (kB cyNextF_ok kN))))) (by kernel_rfl) fun args p v hc hp => by
 unfold zyInst at hc
 split at hc
 case h_2 => cases hc
 split at hc
 case h_2 => cases hc
 rename_i u _ q z hl
 simp only [Option.some.injEq, Prod.mk.injEq] at hc
 obtain ⟨rfl, rfl⟩ := hc
 rw [Bool.and_eq_true] at hp
 obtain ⟨rfl, hq⟩ := hp
 obtain ⟨h3, h4⟩ := of_decide_eq_true hq
 obtain ⟨k1, k2⟩ := rdZ_move hl
 exact ⟨_, _, _, fun w A hA => rl_1 (fun V h => k2 h) hA, inLG_ok z u _ _ _ _, zinst_ok k1 h3 h4⟩
end Go.Proofs.YtimgphlfaninnaaGreat.P
namespace Go.Proofs.YtimgphlfaninnaaGreat.P
open Go.RowKit Go.Proofs.YtimgphlfaninnaaGreat.Ft Go.Proofs.YtimgphlfaninnaaGreat.Zn
set_option linter.unusedVariables false
set_option linter.unusedSimpArgs false
def JF (z : Zt) (u a : Int) (s : Ac) : Prop := match s.f with
 | none => ∀ x, a ≤ x → x < s.fr → x + (atZ z x).off ≠ u
 | some (n, g) => (a ≤ g 0 ∧ g 0 < s.fr ∧ g 0 + (atZ z (g 0)).off = u) ∧ (∀ x, a ≤ x → x < s.fr → x + (atZ z x).off = u → g 0 ≤ x) ∧ (n = 1 → ∀ x, a ≤ x → x < s.fr → x + (atZ z x).off = u → x = g 0)
theorem JF_step {z : Zt} {u a t : Int} {s : Ac} (h : JF z u a s) (hlo : a ≤ s.fr) (ht : s.fr < t) (hp : ∀ n g, s.f = some (n, g) → 0 < n) (hc : ∀ x, s.fr ≤ x → x < t → atZ z x = atZ z s.fr) : JF z u a (acS z u t s) := by
 have key : ∀ x, s.fr ≤ x → x < t → x + (atZ z x).off = u → x = u - (atZ z s.fr).off := fun x h1 h2 h3 => by rw [hc x h1 h2] at h3; omega
 have ef : (acS z u t s).fr = t := rfl
 by_cases hw : s.fr ≤ u - (atZ z s.fr).off ∧ u - (atZ z s.fr).off ≤ t - 1
 · have hx : u - (atZ z s.fr).off + (atZ z (u - (atZ z s.fr).off)).off = u := by rw [hc _ hw.1 (by omega)]; omega
   have e1 : (acS z u t s).f = acPush s.f (u - (atZ z s.fr).off) := by simp only [acS]; rw [if_pos hw]
   unfold JF at h ⊢
   rw [e1, ef]
   cases hf : s.f with
   | none =>
    rw [hf] at h
    simp only at h
    have one : ∀ x, a ≤ x → x < t → x + (atZ z x).off = u → x = u - (atZ z s.fr).off := fun x h1 h2 h3 => by
     rcases Int.lt_or_le x s.fr with q | q
     · exact (h x h1 q h3).elim
     · exact key x q h2 h3
    exact ⟨⟨by show a ≤ u - (atZ z s.fr).off; omega, by show u - (atZ z s.fr).off < t; omega, hx⟩, fun x h1 h2 h3 => by rw [one x h1 h2 h3]; exact Int.le_refl _, fun _ x h1 h2 h3 => one x h1 h2 h3⟩
   | some p =>
    obtain ⟨n, g⟩ := p
    have hn := hp n g hf
    rw [hf] at h
    simp only at h
    obtain ⟨⟨h1, h2, h3⟩, h4, h5⟩ := h
    have e0 : (if decide (0 < n) = true then g 0 else u - (atZ z s.fr).off) = g 0 := if_pos (decide_eq_true hn)
    simp only [acPush, e0]
    refine ⟨⟨h1, by omega, h3⟩, fun x k1 k2 k3 => ?_, fun e => by omega⟩
    rcases Int.lt_or_le x s.fr with q | q
    · exact h4 x k1 q k3
    · omega
 · have e1 : (acS z u t s).f = s.f := by simp only [acS]; rw [if_neg hw]
   have no : ∀ x, s.fr ≤ x → x < t → x + (atZ z x).off = u → False := fun x h1 h2 h3 => hw (by have := key x h1 h2 h3; omega)
   unfold JF at h ⊢
   rw [e1, ef]
   cases hf : s.f with
   | none =>
    rw [hf] at h
    simp only at h ⊢
    intro x h1 h2 h3
    rcases Int.lt_or_le x s.fr with q | q
    · exact h x h1 q h3
    · exact no x q h2 h3
   | some p =>
    obtain ⟨n, g⟩ := p
    rw [hf] at h
    simp only at h ⊢
    obtain ⟨⟨h1, h2, h3⟩, h4, h5⟩ := h
    refine ⟨⟨h1, by omega, h3⟩, fun x k1 k2 k3 => ?_, fun e x k1 k2 k3 => ?_⟩
    · rcases Int.lt_or_le x s.fr with q | q
      · exact h4 x k1 q k3
      · exact (no x q k2 k3).elim
    · rcases Int.lt_or_le x s.fr with q | q
      · exact h5 e x k1 q k3
      · exact (no x q k2 k3).elim
theorem at_rows {z : Zt} (hz : ZtOk z) {k : Nat} (hk : k ≤ z.n) {x : Int} (h1 : k = 0 ∨ z.ta (k - 1) ≤ x) (h2 : k < z.n → x < z.ta k) (h3 : z.F.z = true → x < z.F.fr) : atZ z x = rowTr z k := by
 unfold atZ
 rw [if_neg (fun q => by have := h3 q.1; omega), kz_is hz.rows hk h1 h2]
theorem row_foot {z : Zt} (hz : ZtOk z) (hF : z.F.z = true) {k : Nat} (hk : k < z.n) : z.ta k < z.F.fr := by
 have hla : z.ta (z.n - 1) < z.F.fr := by
  rcases (hz.foot hF).2.2.2.2 with e | e
  · omega
  · exact e
 rcases Nat.lt_or_eq_of_le (show k ≤ z.n - 1 by omega) with q | q
 · have := rows_lt' hz.rows q (by omega); omega
 · rw [q]; exact hla
structure RowAt (z : Zt) (k : Nat) (s : Ac) : Prop where
 le : k ≤ z.n
 lo : k = 0 ∨ z.ta (k - 1) ≤ s.fr
 hi : ∀ j, k ≤ j → j < z.n → s.fr < z.ta j
theorem acR_J {z : Zt} {u a b : Int} : ∀ (m k : Nat) (s : Ac), InC z u a b s → k + m ≤ kz z b z.n → RowAt z k s → JF z u a s → JF z u a (acR z u m k s) ∧ RowAt z (k + m) (acR z u m k s)
 | 0, k, s, h, hk, hr, hj => ⟨hj, hr⟩
 | m + 1, k, s, h, hk, hr, hj => by
  have hle := kz_le z b z.n
  have hkn : k < z.n := by omega
  have ht := hr.hi k (Nat.le_refl _) hkn
  have htb := (kz_iff h.ok.rows b z.n k (Nat.le_refl _) hkn).1 (by omega)
  have hc : ∀ x, s.fr ≤ x → x < z.ta k → atZ z x = atZ z s.fr := fun x h1 h2 => by
   have lo : ∀ y, s.fr ≤ y → (k = 0 ∨ z.ta (k - 1) ≤ y) := fun y hy => by rcases hr.lo with e | e; exact .inl e; exact .inr (by omega)
   rw [at_rows h.ok hr.le (lo x h1) (fun _ => h2) (fun hF => by have := row_foot h.ok hF hkn; omega), at_rows h.ok hr.le (lo _ (Int.le_refl _)) (fun _ => ht) (fun hF => by have := row_foot h.ok hF hkn; omega)]
  have hr' : RowAt z (k + 1) (acS z u (z.ta k) s) := ⟨hkn, .inr (Int.le_refl _), fun j h1 h2 => rows_lt' h.ok.rows (by omega) h2⟩
  have := acR_J m (k + 1) (acS z u (z.ta k) s) (in_next h ht htb) (by omega) hr' (JF_step hj h.lo ht h.pos hc)
  rw [show k + (m + 1) = k + 1 + m by omega]
  exact this
theorem acF_J {z : Zt} {u a b : Int} (hF : FtOk z.F) (hz : z.F.z = true) : ∀ (m : Nat) (i : Int) (s : Ac), InC z u a b s → i + m ≤ ix z.F b → s.fr < (sI z.F (i + 1)).t → z.F.fr ≤ (sI z.F (i + 1)).t → (∀ x, s.fr ≤ x → x ≤ b → x < (sI z.F (i + 1)).t → atZ z x = atZ z s.fr) → JF z u a s →
 JF z u a (acF z u m i s) ∧ (∀ x, (acF z u m i s).fr ≤ x → x ≤ b → x < (sI z.F (i + m + 1)).t → atZ z x = atZ z (acF z u m i s).fr)
 | 0, i, s, h, hk, hs, hf, hc, hj => ⟨hj, fun x h1 h2 h3 => hc x h1 h2 (by simpa using h3)⟩
 | m + 1, i, s, h, hk, hs, hf, hc, hj => by
  have h1 := sI_le hF (i := i + 1) (j := ix z.F b) (by omega)
  have h2 := (ix_spec hF b).1
  have h3 := sI_lt hF (i := i + 1) (j := i + 1 + 1) (by omega)
  have hc' : ∀ x, (sI z.F (i + 1)).t ≤ x → x ≤ b → x < (sI z.F (i + 1 + 1)).t → atZ z x = atZ z (sI z.F (i + 1)).t := fun x k1 k2 k3 => by
   unfold atZ
   rw [if_pos ⟨hz, by omega⟩, if_pos ⟨hz, hf⟩, ix_is hF k1 k3, ix_is hF (Int.le_refl _) h3]
  have := acF_J hF hz m (i + 1) (acS z u (sI z.F (i + 1)).t s) (in_next h hs (by omega)) (by omega) h3 (by omega) hc' (JF_step hj h.lo hs h.pos fun x k1 k2 => hc x k1 (by omega) k2)
  rw [show i + ((m + 1 : Nat) : Int) + 1 = i + 1 + (m : Int) + 1 by omega]
  exact this
structure CanIn (z : Zt) (u : Int) : Prop where
 bd : bdZ z.F = true
 ok : iErr z u = 0
theorem CanIn.zt {z : Zt} {u : Int} (h : CanIn z u) : ZtOk z ∧ Asked u ∧ Asked (u - 57600) ∧ Asked (u + 57600) := by
 have h := h.ok
 unfold iErr at h
 split at h
 · rename_i hz
   split at h
   · rename_i ha; exact ⟨hz, ha⟩
   · omega
 · omega
theorem CanIn.start {z : Zt} {u : Int} (h : CanIn z u) : IntKind.wrap .i64 (u - 57600) = u - 57600 ∧ IntKind.wrap .i64 (u + 57600) = u + 57600 ∧ InC z u (u - 57600) (u + 57600) (x1Of z u).2 := by
 obtain ⟨hz, hk, hka, hkb⟩ := h.zt
 have hub := asked_bd hk
 have ea : IntKind.wrap .i64 (u - 57600) = u - 57600 := bL (by omega)
 have eb : IntKind.wrap .i64 (u + 57600) = u + 57600 := bL (by omega)
 refine ⟨ea, eb, ⟨hz, h.bd, rfl, rfl, hk, hka, hkb, ?_, ?_, ?_, by show (-57600 : Int) ≤ 0 ∧ (0 : Int) ≤ 57600; omega, fun n g e => by cases e⟩⟩
 · show u - 57600 ≤ IntKind.wrap .i64 (u - 57600); omega
 · show IntKind.wrap .i64 (u - 57600) ≤ _; omega
 · show (0 : Int) ≤ IntKind.wrap .i64 (u - 57600) - _; omega
theorem CanIn.rows {z : Zt} {u : Int} (h : CanIn z u) : InC z u (u - 57600) (u + 57600) (s1Of z u) ∧ JF z u (u - 57600) (s1Of z u) ∧ RowAt z (kz z (u + 57600) z.n) (s1Of z u) := by
 obtain ⟨ea, eb, hi⟩ := h.start
 obtain ⟨hz, hk, hka, hkb⟩ := h.zt
 have mono := kz_mono z (show u - 57600 ≤ u + 57600 by omega) z.n
 have hle := kz_le z (u - 57600) z.n
 have hr : RowAt z (kz z (u - 57600) z.n) (x1Of z u).2 := by
  have hfr : (x1Of z u).2.fr = u - 57600 := ea
  refine ⟨hle, ?_, fun j g1 g2 => ?_⟩
  · rw [hfr]
    rcases Nat.eq_zero_or_pos (kz z (u - 57600) z.n) with e | e
    · exact .inl e
    · exact .inr ((kz_iff hz.rows (u - 57600) z.n _ (Nat.le_refl _) (by omega)).1 (by omega))
  · rw [hfr]
    rcases Int.lt_or_le (u - 57600) (z.ta j) with q | q
    · exact q
    · have := (kz_iff hz.rows (u - 57600) z.n j (Nat.le_refl _) g2).2 q; omega
 have hj : JF z u (u - 57600) (x1Of z u).2 := fun x h1 h2 => by
  have : x < IntKind.wrap .i64 (u - 57600) := h2
  omega
 have es : s1Of z u = acR z u (kz z (u + 57600) z.n - kz z (u - 57600) z.n) (kz z (u - 57600) z.n) (x1Of z u).2 := by
  unfold s1Of fin1
  rw [ea, eb]
  show acR z u _ _ _ = acR z u _ _ ⟨IntKind.wrap .i64 (u - 57600), 0, 0, 0, none⟩
  rw [ea]
 have a1 := acR_keep (kz z (u + 57600) z.n - kz z (u - 57600) z.n) (kz z (u - 57600) z.n) _ hi (by omega) hr.hi
 have a2 := acR_J (kz z (u + 57600) z.n - kz z (u - 57600) z.n) (kz z (u - 57600) z.n) _ hi (by omega) hr hj
 rw [← es] at a1 a2
 rw [show kz z (u - 57600) z.n + (kz z (u + 57600) z.n - kz z (u - 57600) z.n) = kz z (u + 57600) z.n by omega] at a2
 exact ⟨a1, a2⟩
theorem CanIn.last {z : Zt} {u : Int} (h : CanIn z u) : InC z u (u - 57600) (u + 57600) (sEnd z u) ∧ JF z u (u - 57600) (sEnd z u) ∧ ∀ x, (sEnd z u).fr ≤ x → x ≤ u + 57600 → atZ z x = atZ z (sEnd z u).fr := by
 obtain ⟨ea, eb, hi⟩ := h.start
 obtain ⟨hz, hk, hka, hkb⟩ := h.zt
 obtain ⟨i2, j2, r2⟩ := h.rows
 have hle := kz_le z (u + 57600) z.n
 have rowc : ∀ x, (s1Of z u).fr ≤ x → x ≤ u + 57600 → (z.F.z = true → x < z.F.fr) → atZ z x = atZ z (s1Of z u).fr := fun x h1 h2 h3 => by
  have up : ∀ y, y ≤ u + 57600 → kz z (u + 57600) z.n < z.n → y < z.ta (kz z (u + 57600) z.n) := fun y hy hn => by
   have := kz_iff hz.rows (u + 57600) z.n (kz z (u + 57600) z.n) (Nat.le_refl _) hn
   rcases Int.lt_or_le (u + 57600) (z.ta (kz z (u + 57600) z.n)) with q | q
   · omega
   · have := this.2 q; omega
  have lo : ∀ y, (s1Of z u).fr ≤ y → (kz z (u + 57600) z.n = 0 ∨ z.ta (kz z (u + 57600) z.n - 1) ≤ y) := fun y hy => by rcases r2.lo with e | e; exact .inl e; exact .inr (by omega)
  rw [at_rows hz hle (lo x h1) (up x h2) h3, at_rows hz hle (lo _ (Int.le_refl _)) (up _ (by omega)) (fun q => by have := h3 q; omega)]
 unfold sEnd
 split
 · rename_i hF
   have hfo := hz.foot hF
   have hFo : FtOk z.F := hfo.1.1
   have hfa : Asked z.F.fr := ⟨by have := hfo.2.2.1; omega, by have := hfo.2.2.2.1; omega⟩
   have hfb := asked_bd hfa
   have ec : curOf z u = if z.F.fr - 1 > u - 57600 then z.F.fr - 1 else u - 57600 := by
    unfold curOf; rw [ea, show IntKind.wrap .i64 (z.F.fr - 1) = z.F.fr - 1 from bL (by omega)]
   have cle : z.F.fr - 1 ≤ curOf z u ∧ u - 57600 ≤ curOf z u := by rw [ec]; split <;> omega
   have hcs := ix_spec hFo (curOf z u)
   have frle : (s1Of z u).fr ≤ curOf z u := by
    rcases r2.lo with e | e
    · have := acR_fr z u (kz z (IntKind.wrap .i64 (u + 57600)) z.n - kz z (IntKind.wrap .i64 (u - 57600)) z.n) (kz z (IntKind.wrap .i64 (u - 57600)) z.n) ⟨IntKind.wrap .i64 (u - 57600), 0, 0, 0, none⟩
      have es : (s1Of z u).fr = _ := this
      rw [eb, e, ea] at es
      simp at es
      omega
    · have es : (s1Of z u).fr = _ := acR_fr z u (kz z (IntKind.wrap .i64 (u + 57600)) z.n - kz z (IntKind.wrap .i64 (u - 57600)) z.n) (kz z (IntKind.wrap .i64 (u - 57600)) z.n) ⟨IntKind.wrap .i64 (u - 57600), 0, 0, 0, none⟩
      rw [es, ea, eb]
      split
      · show u - 57600 ≤ _; omega
      · rename_i hne
        have := row_foot hz hF (k := kz z (u - 57600) z.n + (kz z (u + 57600) z.n - kz z (u - 57600) z.n) - 1) (by omega)
        omega
   have hcur : ∀ x, (s1Of z u).fr ≤ x → x ≤ u + 57600 → x < (sI z.F (ix z.F (curOf z u) + 1)).t → atZ z x = atZ z (s1Of z u).fr := fun x h1 h2 h3 => by
    by_cases hx : x < z.F.fr
    · exact rowc x h1 h2 fun _ => hx
    · by_cases hs : (s1Of z u).fr < z.F.fr
      · -- then the next shift is the foot's first
        have hcu : curOf z u = z.F.fr - 1 := by
         rw [ec]
         split
         · rfl
         · exfalso
           rename_i g
           have hlo := i2.lo
           by_cases ge : z.F.fr - 1 = u - 57600
           · have hft := hfo.2.1
             have : ix z.F (curOf z u) + 1 = ix z.F z.F.fr := by
              rw [ec, if_neg g, ← ge]
              have : ix z.F (z.F.fr - 1) = ix z.F z.F.fr - 1 := ix_is hFo (by have := sI_lt hFo (i := ix z.F z.F.fr - 1) (j := ix z.F z.F.fr) (by omega); omega) (by rw [show ix z.F z.F.fr - 1 + 1 = ix z.F z.F.fr by omega]; omega)
              omega
             rw [this] at h3
             omega
           · omega
        have hft := hfo.2.1
        have e1 : ix z.F (z.F.fr - 1) = ix z.F z.F.fr - 1 := ix_is hFo (by have := sI_lt hFo (i := ix z.F z.F.fr - 1) (j := ix z.F z.F.fr) (by omega); omega) (by rw [show ix z.F z.F.fr - 1 + 1 = ix z.F z.F.fr by omega]; omega)
        rw [hcu, e1, show ix z.F z.F.fr - 1 + 1 = ix z.F z.F.fr by omega] at h3
        omega
      · unfold atZ
        have hcu : (s1Of z u).fr = curOf z u := by
         have : curOf z u = u - 57600 ∨ curOf z u = z.F.fr - 1 := by rw [ec]; split <;> omega
         have := i2.lo
         omega
        rw [if_pos ⟨hF, by omega⟩, if_pos ⟨hF, by omega⟩, hcu, ix_is hFo (by rw [hcu] at h1; exact Int.le_trans hcs.1 h1) h3]
   show InC z u _ _ (acF z u (ix z.F (IntKind.wrap .i64 (u + 57600)) - ix z.F (curOf z u)).toNat (ix z.F (curOf z u)) (s1Of z u)) ∧ JF z u _ (acF z u (ix z.F (IntKind.wrap .i64 (u + 57600)) - ix z.F (curOf z u)).toNat (ix z.F (curOf z u)) (s1Of z u)) ∧ _
   rw [eb]
   have hbs := ix_spec hFo (u + 57600)
   rcases Int.lt_or_le (ix z.F (u + 57600)) (ix z.F (curOf z u)) with q | q
   · have e2 : s2Of z u = s1Of z u := by
      unfold s2Of fin2
      rw [eb, show (ix z.F (u + 57600) - ix z.F (curOf z u)).toNat = 0 by omega]; rfl
     rw [show (ix z.F (u + 57600) - ix z.F (curOf z u)).toNat = 0 by omega, e2]
     refine ⟨i2, j2, fun x h1 h2 => hcur x h1 h2 ?_⟩
     have := sI_le hFo (i := ix z.F (u + 57600) + 1) (j := ix z.F (curOf z u) + 1) (by omega)
     omega
   · have a1 := acF_keep hFo (ix z.F (u + 57600) - ix z.F (curOf z u)).toNat (ix z.F (curOf z u)) _ i2 (by omega) (by omega)
     have a2 := acF_J hFo hF (ix z.F (u + 57600) - ix z.F (curOf z u)).toNat (ix z.F (curOf z u)) _ i2 (by omega) (by omega) (by omega) hcur j2
     have e2 : s2Of z u = acF z u (ix z.F (u + 57600) - ix z.F (curOf z u)).toNat (ix z.F (curOf z u)) (s1Of z u) := by
      unfold s2Of fin2
      rw [eb]
     rw [e2]
     rw [show ix z.F (curOf z u) + ((ix z.F (u + 57600) - ix z.F (curOf z u)).toNat : Int) = ix z.F (u + 57600) by omega] at a2
     exact ⟨a1, a2.1, fun x h1 h2 => a2.2 x h1 h2 (by omega)⟩
 · rename_i hF
   exact ⟨i2, j2, fun x h1 h2 => rowc x h1 h2 fun q => (hF q).elim⟩
theorem inst_law {z : Zt} {u : Int} (h : CanIn z u) : (u - 57600 ≤ (instE z u).1 ∧ (instE z u).1 ≤ u + 57600) ∧
 (((instE z u).2 = 2 ∧ ∀ y, u - 57600 ≤ y → y ≤ u + 57600 → y + (atZ z y).off ≠ u) ∨
  (((instE z u).2 = 0 ∨ (instE z u).2 = 1) ∧ (instE z u).1 + (atZ z (instE z u).1).off = u ∧ ∀ y, u - 57600 ≤ y → y ≤ u + 57600 → y + (atZ z y).off = u → (instE z u).1 ≤ y ∧ ((instE z u).2 = 0 → y = (instE z u).1))) := by
 obtain ⟨i, j, c⟩ := h.last
 have hhi := i.hi
 have hJ := JF_step (t := u + 57601) j i.lo (by omega) i.pos fun x h1 h2 => c x h1 (by omega)
 have hP := acS_pos (z := z) (u := u) (t := u + 57601) i.pos
 have e : instE z u = instF u (acS z u (u + 57601) (sEnd z u)) := by unfold instE instZ; rw [if_pos h.ok]
 have hl : -57600 ≤ (acS z u (u + 57601) (sEnd z u)).l2 ∧ (acS z u (u + 57601) (sEnd z u)).l2 ≤ 57600 := by
  have h3 := i.off
  have h4 := i.l2
  simp only [acS]
  split
  · exact h3
  · exact h4
 rw [e]
 unfold JF at hJ
 unfold instF
 have ef : (acS z u (u + 57601) (sEnd z u)).fr = u + 57601 := rfl
 rw [ef] at hJ
 generalize acS z u (u + 57601) (sEnd z u) = s at *
 cases hf : s.f with
 | none =>
  rw [hf] at hJ
  simp only at hJ ⊢
  exact ⟨by omega, .inl ⟨trivial, fun y h1 h2 => hJ y h1 (by omega)⟩⟩
 | some p =>
  obtain ⟨n, g⟩ := p
  have hn := hP n g hf
  rw [hf] at hJ
  simp only at hJ ⊢
  obtain ⟨⟨h1, h2, h3⟩, h4, h5⟩ := hJ
  refine ⟨by omega, .inr ⟨by split <;> simp, h3, fun y k1 k2 k3 => ⟨h4 y k1 (by omega) k3, fun hz => h5 ?_ y k1 (by omega) k3⟩⟩⟩
  rcases Nat.decEq n 1 with q | q
  · rw [if_neg q] at hz; omega
  · exact q
end Go.Proofs.YtimgphlfaninnaaGreat.P
namespace Go.Proofs.YtimgphlfaninnaaGreat.P
open Go.RowKit Go.Proofs.YtimgphlfaninnaaGreatW.PrintWords Go.Proofs.YtimgphlfaninnaaGreatW.PrintLast Go.Proofs.YtimgphlfaninnaaGreatW.PrintMore
open Go.Proofs.YtimgphlfaninnaaGreat.A
 attribute [local go_sem] kS kV bC bD kP kO kW kU
set_option linter.unusedVariables false
set_option linter.unusedSimpArgs false
def computusref01_Add.f (k : Nat) (a0 : Int) (a1 : Int) : Option (Int × Int) := wdRes a0 a1 (wdOut (a0 + a1))
theorem computusref01_Add.calls (k : Nat) (a0 : Int) (a1 : Int) (r1 : Int) (r2 : Int) (w : World) (h : computusref01_Add.f k a0 a1 = some (r1, r2)) :
 Calls Tryz.prog 90 #[.int .i64 a0, .int .i64 a1] w fun e w' => e = .returned (.tuple #[.int .i64 r1, .int .i64 r2]) ∧ Below w.heap.size w w' :=
 wdFAdd_calls h
def computusref01_Mul.f (k : Nat) (a0 : Int) (a1 : Int) : Option (Int × Int) := wdRes a0 a1 (wdOut (a0 * a1))
theorem computusref01_Mul.calls (k : Nat) (a0 : Int) (a1 : Int) (r1 : Int) (r2 : Int) (w : World) (h : computusref01_Mul.f k a0 a1 = some (r1, r2)) :
 Calls Tryz.prog 73 #[.int .i64 a0, .int .i64 a1] w fun e w' => e = .returned (.tuple #[.int .i64 r1, .int .i64 r2]) ∧ Below w.heap.size w w' :=
 wdFMul_calls h
end Go.Proofs.YtimgphlfaninnaaGreat.P
namespace Go.Proofs.YtimgphlfaninnaaGreat.Civ
set_option linter.unusedVariables false
set_option linter.unusedSimpArgs false
open Go.RowKit Go.Proofs.YtimgphlfaninnaaGreatW.PrintWords Go.Proofs.YtimgphlfaninnaaGreatW.PrintLast Go.Proofs.YtimgphlfaninnaaGreatW.PrintMore Go.Proofs.YtimgphlfaninnaaGreat.P
theorem radd_ev (a b : Int) (ha : I64 a) (hb : I64 b) : Ev (fun k => computusref01_Add.f k a b) (out (a + b)) :=
 Ev.at0 fun k => by unfold computusref01_Add.f wdRes; rw [if_pos ⟨decide_eq_true ha, decide_eq_true hb⟩]; rfl
theorem rmul_ev (a b : Int) (ha : I64 a) (hb : I64 b) : Ev (fun k => computusref01_Mul.f k a b) (out (a * b)) :=
 Ev.at0 fun k => by unfold computusref01_Mul.f wdRes; rw [if_pos ⟨decide_eq_true ha, decide_eq_true hb⟩]; rfl
theorem rdiv64_ev (a b : Int) (ha : I64 a) (hb : I64 b) (h0 : b ≠ 0) : Ev (fun k => jJ.f k a b) (out (fl a b)) :=
 Ev.at0 fun k => by unfold jJ.f wdRes; rw [if_neg h0, if_pos ⟨decide_eq_true ha, decide_eq_true hb⟩]; rfl
theorem rmod64_ev (a b : Int) (ha : I64 a) (hb : I64 b) (h0 : b ≠ 0) : Ev (fun k => jC.f k a b) (md a b, 0) :=
 Ev.at0 fun k => by unfold jC.f wdRes; rw [if_neg h0, if_pos ⟨decide_eq_true ha, decide_eq_true hb⟩]; rfl
def DIn (n : Int) : Prop := -2451507 ≤ n ∧ n ≤ 106751982
instance (n : Int) : Decidable (DIn n) := inferInstanceAs (Decidable (_ ∧ _))
theorem dby_lo : dby (-4712) = -2451507 := by decide
theorem dby_hi : dby 294277 = 106751983 := by decide
theorem din_year {n y m d : Int} (h : IsDate n y m d) : (-4712 ≤ y ∧ y ≤ 294276) ↔ DIn n := by
 have g := h.year
 have a := dby_lo
 have b := dby_hi
 unfold DIn
 constructor
 · intro f
   have p := dby_far (-4712) y (by omega)
   have q := dby_far (y + 1) 294277 (by omega)
   omega
 · intro f
   constructor
   · rcases Int.lt_or_le y (-4712) with z | z
     · have p := dby_far (y + 1) (-4712) (by omega)
       omega
     · exact z
   · rcases Int.lt_or_le 294276 y with z | z
     · have p := dby_far 294277 y (by omega)
       omega
     · exact z
theorem din_can {n : Int} (h : DIn n) : CanDay n := by unfold DIn at h; unfold CanDay; omega
theorem inside_eq (n : Int) : bU.f n = some (decide (DIn n)) := by
 unfold bU.f
 by_cases hc : CanDay n
 · obtain ⟨y, m, d, h⟩ := date_of n
   rw [date_eq h hc]
   have e := din_year h
   simp only [Option.bind_some, if_true]
   by_cases g : y ≥ -4712
   · rw [if_pos g]; congr 1; apply decide_eq_decide.2; rw [← e]; omega
   · rw [if_neg g, decide_eq_false]; rw [← e]; omega
 · rw [date_no hc]
   simp only [Option.bind_some]
   rw [if_neg (by decide), decide_eq_false (fun f => hc (din_can f))]
theorem rinside_ev (n : Int) : Ev (fun k => kY.f k n) (decide (DIn n)) := by
 unfold kY.f
 by_cases hc : CanDay n
 · obtain ⟨y, m, d, h⟩ := date_of n
   have e := din_year h
   refine Ev.bind (rdate_ev h hc) ?_
   refine Ev.pos rfl ?_
   by_cases g : y ≥ -4712
   · refine Ev.pos g (Ev.cast (Ev.now _) ?_)
     apply decide_eq_decide.2; rw [← e]; show y ≤ 294276 ↔ _; omega
   · refine Ev.neg g (Ev.cast (Ev.now _) ?_)
     rw [decide_eq_false]; rw [← e]; omega
 · refine Ev.bind (rdate_no hc) ?_
   refine Ev.neg (by decide) (Ev.cast (Ev.now _) ?_)
   rw [decide_eq_false (fun f => hc (din_can f))]
def DRS (i u : Int) : Prop := (i = 0 ∧ DIn (u / 86400000000)) ∨ ((i = -1 ∨ i = 1) ∧ u = 0)
instance (i u : Int) : Decidable (DRS i u) := inferInstanceAs (Decidable (_ ∨ _))
theorem drs_fin {u : Int} : DRS 0 u ↔ DIn (u / 86400000000) := by unfold DRS DIn; omega
theorem drightS_ev (i u : Int) (hu : I64 u) : Ev (fun k => day_RightStamp.f k i u) (decide (DRS i u)) := by
 unfold day_RightStamp.f
 refine Ev.bind (Ev.at1 fun k => split_eq k u hu) ?_
 simp only [Bool.and_eq_true, beq_iff_eq]
 by_cases h1 : i = -1 ∧ u = 0
 · exact Ev.pos h1 (Ev.cast (Ev.now _) (decide_eq_true (show DRS i u from .inr ⟨.inl h1.1, h1.2⟩)).symm)
 · refine Ev.neg h1 ?_
   by_cases h2 : i = 1 ∧ u = 0
   · exact Ev.pos h2 (Ev.cast (Ev.now _) (decide_eq_true (show DRS i u from .inr ⟨.inr h2.1, h2.2⟩)).symm)
   · refine Ev.neg h2 ?_
     by_cases h3 : i = 0
     · subst h3
       refine Ev.pos rfl (Ev.bind0 (inside_eq _) (Ev.cast (Ev.now _) ?_))
       exact decide_eq_decide.2 drs_fin.symm
     · refine Ev.neg h3 (Ev.cast (Ev.now _) ?_)
       rw [decide_eq_false (show ¬ DRS i u by unfold DRS; omega)]
theorem rsplit_ev (u : Int) (hu : I64 u) : Ev (fun k => kR.f k u) (u / 86400000000, u % 86400000000) := by
 have hb : I64 86400000000 := by unfold I64; omega
 unfold kR.f
 refine Ev.bind (rdiv64_ev u 86400000000 hu hb (by decide)) ?_
 refine Ev.bind (rmod64_ev u 86400000000 hu hb (by decide)) ?_
 refine Ev.cast (Ev.now _) ?_
 rw [fl_pos (by decide), md_pos (by decide), out_in (by unfold I64 at *; omega)]
theorem rdrightS_ev (i u : Int) (hu : I64 u) : Ev (fun k => bM.f k i u) (decide (DRS i u)) := by
 unfold bM.f
 have e : (u == 0) = decide (u = 0) := rfl
 by_cases h : i = 0
 · subst h
   refine Ev.pos rfl (Ev.bind (rsplit_ev u hu) (Ev.bind (rinside_ev _) (Ev.cast (Ev.now _) ?_)))
   exact decide_eq_decide.2 drs_fin.symm
 · refine Ev.neg h ?_
   by_cases h1 : i = -1
   · refine Ev.pos h1 (Ev.cast (Ev.now _) ?_)
     rw [e]; apply decide_eq_decide.2; unfold DRS; omega
   · refine Ev.neg h1 ?_
     by_cases h2 : i = 1
     · refine Ev.pos h2 (Ev.cast (Ev.now _) ?_)
       rw [e]; apply decide_eq_decide.2; unfold DRS; omega
     · refine Ev.neg h2 (Ev.cast (Ev.now _) ?_)
       rw [decide_eq_false (show ¬ DRS i u by unfold DRS; omega)]
end Go.Proofs.YtimgphlfaninnaaGreat.Civ
namespace Go.Proofs.YtimgphlfaninnaaGreat.P
open Go.RowKit Go.Proofs.YtimgphlfaninnaaGreat.Civ Go.Proofs.YtimgphlfaninnaaGreat.Ft Go.Proofs.YtimgphlfaninnaaGreat.Zn
set_option linter.unusedVariables false
set_option linter.unusedSimpArgs false
open A
def secOf (u : Int) : Int := u / 1000000 + 946684800
def onR (w s : Int) : Int × Int × Int := if I64 (w + s) ∧ DRS 0 (w + s) then (0, w + s, 0) else (0, 0, 10)
def joinR (s us : Int) : Int × Int × Int := if I64 ((s - 946684800) * 1000000) then onR ((s - 946684800) * 1000000) us else (0, 0, 10)
noncomputable def offE (z : Zt) (i u : Int) : Int := if ZtOk z ∧ DRS i u then (if i = 0 then zErr z (secOf u) else 10) else 1
noncomputable def offT (z : Zt) (i u : Int) : Tr := if offE z i u = 0 then atZ z (secOf u) else ⟨0, 0, false, ⟨#[]⟩⟩
noncomputable def locR (z : Zt) (i u : Int) : Int × Int × Int := if ZtOk z ∧ DRS i u then (if i = 0 then (if zErr z (secOf u) = 0 then onR u ((atZ z (secOf u)).off * 1000000) else (0, 0, zErr z (secOf u))) else (i, u, 0)) else (0, 0, 1)
noncomputable def insF (z : Zt) (x : Int × Int) (us : Int) : Int × Int × Int × Int := if (joinR x.1 us).2.2 = 0 then ((joinR x.1 us).1, (joinR x.1 us).2.1, x.2, 0) else (0, 0, 0, (joinR x.1 us).2.2)
noncomputable def insR (z : Zt) (i u : Int) : Int × Int × Int × Int := if ZtOk z ∧ DRS i u then (if i = 0 then (if iErr z (secOf u) = 0 then insF z (instE z (secOf u)) (u % 1000000) else (0, 0, 0, iErr z (secOf u))) else (i, u, 0, 0)) else (0, 0, 0, 1)
noncomputable def csRS : Con
 | [.agg [.int .i64 i, .int .i64 u]] => some (decide (I64 u), .bool (decide (DRS i u)))
 | _ => none
noncomputable def csDiv : Con
 | [.int .i64 a, .int .i64 b] => some (b == 1000000 && decide (I64 a), .tup [.int .i64 (a / 1000000), .int .i64 0])
 | _ => none
noncomputable def csMod : Con
 | [.int .i64 a, .int .i64 b] => some (b == 1000000 && decide (I64 a), .tup [.int .i64 (a % 1000000), .int .i64 0])
 | _ => none
noncomputable def csMul : Con
 | [.int .i64 a, .int .i64 b] => some (decide (I64 a ∧ I64 b), .tup [.int .i64 (out (a * b)).1, .int .i64 (out (a * b)).2])
 | _ => none
noncomputable def csAdd : Con
 | [.int .i64 a, .int .i64 b] => some (decide (I64 a ∧ I64 b), .tup [.int .i64 (out (a + b)).1, .int .i64 (out (a + b)).2])
 | _ => none
def avS (x : Int × Int × Int) : AV := .tup [.agg [.int .i64 x.1, .int .i64 x.2.1], .int .i64 x.2.2]
noncomputable def csOn : Con
 | [.agg [.int .i64 i, .int .i64 w], .int .i64 s] => some (decide (I64 w ∧ I64 s), avS (onR w s))
 | _ => none
noncomputable def csJoin : Con
 | [.int .i64 s, .int .i64 us] => some (decide (I64 (s - 946684800) ∧ I64 us), avS (joinR s us))
 | _ => none
noncomputable def csOff : Con
 | [.agg l, .agg [.int .i64 i, .int .i64 u]] => match rdZ l with
  | some (p, z) => some (p && decide (I64 u), .tup [.agg (avT (offT z i u)), .int .i64 (offE z i u)])
  | none => none
 | _ => none
noncomputable def csLoc : Con
 | [.agg l, .agg [.int .i64 i, .int .i64 u]] => match rdZ l with
  | some (p, z) => some (p && decide (I64 u), avS (locR z i u))
  | none => none
 | _ => none
noncomputable def csIns : Con
 | [.agg l, .agg [.int .i64 i, .int .i64 u]] => match rdZ l with
  | some (p, z) => some (p && decide (I64 u), .tup [.agg [.int .i64 (insR z i u).1, .int .i64 (insR z i u).2.1], .int .i64 (insR z i u).2.2.1, .int .i64 (insR z i u).2.2.2])
  | none => none
 | _ => none
theorem csRS_ok : COk Tryz.prog 51 csRS := by
 intro args p v hc hp w A hA
 unfold csRS at hc
 split at hc
 case h_2 => cases hc
 rename_i i u
 simp only [Option.some.injEq, Prod.mk.injEq] at hc
 obtain ⟨rfl, rfl⟩ := hc
 obtain rfl : A = [.agg #[.int .i64 i, .int .i64 u]] := by simpa [kF, kL, kM, bG] using hA
 obtain ⟨K, hK⟩ := drightS_ev i u (of_decide_eq_true hp)
 exact kH (fn := Tryz.f51) Tryz.func51 (by kernel_rfl) (by kernel_rfl) (day_RightStamp.calls K _ _ _ w (hK K (Nat.le_refl _))) (fun _ => by simp [kZ]) (fun _ h => by first | exact h | exact h.below)
theorem csDiv_ok : COk Tryz.prog 74 csDiv := by
 intro args p v hc hp w A hA
 unfold csDiv at hc
 split at hc
 case h_2 => cases hc
 rename_i a b
 simp only [Option.some.injEq, Prod.mk.injEq] at hc
 obtain ⟨rfl, rfl⟩ := hc
 rw [Bool.and_eq_true] at hp
 have h1 := of_decide_eq_true hp.2
 obtain rfl : b = 1000000 := by simpa using hp.1
 obtain rfl : A = [.int .i64 a, .int .i64 1000000] := by simpa [kF, kL, kM] using hA
 have hf := div_eq 0 a 1000000 h1 (by unfold I64; omega) (by omega)
 rw [fl_pos (by omega), out_in (ediv_i64 h1 (by omega))] at hf
 exact kH (fn := Tryz.f74) Tryz.func74 (by kernel_rfl) (by kernel_rfl) (num_Div.calls _ _ _ _ _ w hf) (fun _ => by simp [kF, kL, kM, bJ]) (fun _ h => by first | exact h | exact h.below)
theorem csMod_ok : COk Tryz.prog 75 csMod := by
 intro args p v hc hp w A hA
 unfold csMod at hc
 split at hc
 case h_2 => cases hc
 rename_i a b
 simp only [Option.some.injEq, Prod.mk.injEq] at hc
 obtain ⟨rfl, rfl⟩ := hc
 rw [Bool.and_eq_true] at hp
 have h1 := of_decide_eq_true hp.2
 obtain rfl : b = 1000000 := by simpa using hp.1
 obtain rfl : A = [.int .i64 a, .int .i64 1000000] := by simpa [kF, kL, kM] using hA
 have hf := mod_eq a 1000000 h1 (by unfold I64; omega) (by omega)
 rw [md_pos (by omega)] at hf
 exact kH (fn := Tryz.f75) Tryz.func75 (by kernel_rfl) (by kernel_rfl) (num_Mod.calls _ _ _ _ w hf) (fun _ => by simp [kF, kL, kM, bJ]) (fun _ h => by first | exact h | exact h.below)
theorem csMul_ok : COk Tryz.prog 78 csMul := by
 intro args p v hc hp w A hA
 unfold csMul at hc
 split at hc
 case h_2 => cases hc
 rename_i a b
 simp only [Option.some.injEq, Prod.mk.injEq] at hc
 obtain ⟨rfl, rfl⟩ := hc
 obtain ⟨h1, h2⟩ := of_decide_eq_true hp
 obtain rfl : A = [.int .i64 a, .int .i64 b] := by simpa [kF, kL, kM] using hA
 exact kH (fn := Tryz.f78) Tryz.func78 (by kernel_rfl) (by kernel_rfl) (num_Mul.calls _ _ _ _ _ w (show num_Mul.f 1 a b = some ((out (a * b)).1, (out (a * b)).2) from mul_eq 0 a b h1 h2)) (fun _ => by simp [kF, kL, kM, bJ]) (fun _ h => by first | exact h | exact h.below)
theorem csAdd_ok : COk Tryz.prog 67 csAdd := by
 intro args p v hc hp w A hA
 unfold csAdd at hc
 split at hc
 case h_2 => cases hc
 rename_i a b
 simp only [Option.some.injEq, Prod.mk.injEq] at hc
 obtain ⟨rfl, rfl⟩ := hc
 obtain ⟨h1, h2⟩ := of_decide_eq_true hp
 obtain rfl : A = [.int .i64 a, .int .i64 b] := by simpa [kF, kL, kM] using hA
 exact kH (fn := Tryz.f67) Tryz.func67 (by kernel_rfl) (by kernel_rfl) (num_Add.calls _ _ _ _ w (show num_Add.f a b = some ((out (a + b)).1, (out (a + b)).2) from add_eq a b h1 h2)) (fun _ => by simp [kF, kL, kM, bJ]) (fun _ h => by first | exact h | exact h.below)
theorem resS {x : Int × Int × Int} {a b c : Int} (h : x = (a, b, c)) : Res (avS x) (.tup [.agg [.int .i64 a, .int .i64 b], .int .i64 c]) := by rw [h]; exact jF rfl
theorem res3 (x : Int × Int × Int) : Res (avS x) (.tup [.agg [.int .i64 x.1, .int .i64 x.2.1], .int .i64 x.2.2]) := jF rfl
set_option maxRecDepth 100000 in
theorem ston_vc (i w s : Int) (K : AV → Prop) : AFL (tab [(67, csAdd), (51, csRS)]) (noLoops) 4 29 [.agg [.int .i64 i, .int .i64 w], .int .i64 s] K =
 (brc (decide (I64 w ∧ I64 s)) (∀ (m0 : Int), m0 = Prod.fst (out (w + s)) → ∀ (m1 : Int), m1 = Prod.snd (out (w + s)) → brc (m1 != 0) (K (AV.tup [AV.agg [AV.int IntKind.i64 0, AV.int IntKind.i64 0], AV.int IntKind.i64 10])) (brc (decide (I64 m0)) (∀ (m2 : Bool), m2 = decide (DRS 0 m0) → brc (!m2) (K (AV.tup [AV.agg [AV.int IntKind.i64 0, AV.int IntKind.i64 0], AV.int IntKind.i64 10])) (K (AV.tup [AV.agg [AV.int IntKind.i64 0, AV.int IntKind.i64 m0], AV.int IntKind.i64 0]))) False)) False) := by kernel_rfl
theorem ston_ok {i w s : Int} (hw : I64 w) (hs : I64 s) : AFL (tab [(67, csAdd), (51, csRS)]) noLoops 4 29 [.agg [.int .i64 i, .int .i64 w], .int .i64 s] (Res (avS (onR w s))) := by
 rw [ston_vc]
 refine brcT (decide_eq_true ⟨hw, hs⟩) ?_
 rintro _ rfl _ rfl
 by_cases h : I64 (w + s)
 · rw [out_in h]
   refine brcF rfl (brcT (decide_eq_true h) ?_)
   rintro _ rfl
   refine kA (fun a => ?_) fun a => ?_
   · exact resS (by unfold onR; rw [if_neg (fun q => by simp [q.2] at a)])
   · exact resS (by unfold onR; rw [if_pos ⟨h, by simpa using a⟩])
 · rw [out_no h]
   exact brcT rfl (resS (by unfold onR; rw [if_neg (fun q => h q.1)]))
theorem csOn_ok : COk Tryz.prog 29 csOn := afl_con (kB csAdd_ok (kB csRS_ok kN)) (by kernel_rfl) fun args p v hc hp => by
 unfold csOn at hc
 split at hc
 case h_2 => cases hc
 simp only [Option.some.injEq, Prod.mk.injEq] at hc
 obtain ⟨rfl, rfl⟩ := hc
 obtain ⟨h1, h2⟩ := of_decide_eq_true hp
 exact ⟨_, _, _, fun w A hA => hA, jM _ _, ston_ok h1 h2⟩
set_option maxRecDepth 100000 in
theorem stjoin_vc (s us : Int) (K : AV → Prop) : AFL (tab [(78, csMul), (29, csOn)]) (noLoops) 4 37 [.int .i64 s, .int .i64 us] K =
 (brc (decide (I64 (IntKind.wrap IntKind.i64 (s - 946684800)) ∧ I64 1000000)) (∀ (m0 : Int), m0 = Prod.fst (out (IntKind.wrap IntKind.i64 (s - 946684800) * 1000000)) → ∀ (m1 : Int), m1 = Prod.snd (out (IntKind.wrap IntKind.i64 (s - 946684800) * 1000000)) → brc (m1 != 0) (K (AV.tup [AV.agg [AV.int IntKind.i64 0, AV.int IntKind.i64 0], AV.int IntKind.i64 m1])) (brc (decide (I64 m0 ∧ I64 us)) (∀ (m2 : Int), m2 = Prod.fst (onR m0 us) → ∀ (m3 : Int), m3 = Prod.fst (Prod.snd (onR m0 us)) → ∀ (m4 : Int), m4 = Prod.snd (Prod.snd (onR m0 us)) → K (AV.tup [AV.agg [AV.int IntKind.i64 m2, AV.int IntKind.i64 m3], AV.int IntKind.i64 m4])) False)) False) := by kernel_rfl
theorem stjoin_ok {s us : Int} (hw : I64 (s - 946684800)) (hs : I64 us) : AFL (tab [(78, csMul), (29, csOn)]) noLoops 4 37 [.int .i64 s, .int .i64 us] (Res (avS (joinR s us))) := by
 rw [stjoin_vc, show IntKind.wrap .i64 (s - 946684800) = s - 946684800 from bL (by unfold I64 at hw; omega)]
 refine brcT (decide_eq_true ⟨hw, by unfold I64; omega⟩) ?_
 rintro _ rfl _ rfl
 by_cases h : I64 ((s - 946684800) * 1000000)
 · rw [out_in h]
   refine brcF rfl (brcT (decide_eq_true ⟨h, hs⟩) ?_)
   rintro _ rfl _ rfl _ rfl
   have e : joinR s us = onR ((s - 946684800) * 1000000) us := by unfold joinR; rw [if_pos h]
   rw [e]
   exact res3 _
 · rw [out_no h]
   exact brcT rfl (resS (by unfold joinR; rw [if_neg h]))
theorem csJoin_ok : COk Tryz.prog 37 csJoin := afl_con (kB csMul_ok (kB csOn_ok kN)) (by kernel_rfl) fun args p v hc hp => by
 unfold csJoin at hc
 split at hc
 case h_2 => cases hc
 simp only [Option.some.injEq, Prod.mk.injEq] at hc
 obtain ⟨rfl, rfl⟩ := hc
 obtain ⟨h1, h2⟩ := of_decide_eq_true hp
 exact ⟨_, _, _, fun w A hA => hA, jM _ _, stjoin_ok h1 h2⟩
theorem sec_bd {u : Int} (h : I64 u) : -9223372036854775808 ≤ u / 1000000 + 946684800 ∧ u / 1000000 + 946684800 ≤ 9223372036854775807 := by unfold I64 at h; omega
set_option maxRecDepth 100000 in
theorem stoff_vc (z : Zt) (i u : Int) (K : AV → Prop) : AFL (tab [(49, zyRight), (51, csRS), (74, csDiv), (75, csMod), (39, zyAt)]) (noLoops) 6 14 [.agg (avZ z), .agg [.int .i64 i, .int .i64 u]] K =
 (brc (tyR (Zt.n z) (znRow z) && bdZ (Zt.F z)) (∀ (m0 : Bool), m0 = decide (ZtOk z) → brc (!m0) (K (AV.tup [AV.agg [AV.int IntKind.i64 0, AV.int IntKind.i64 0, AV.bool false, AV.str (ByteArray.mk #[])], AV.int IntKind.i64 1])) (brc (decide (I64 u)) (∀ (m1 : Bool), m1 = decide (DRS i u) → brc (!m1) (K (AV.tup [AV.agg [AV.int IntKind.i64 0, AV.int IntKind.i64 0, AV.bool false, AV.str (ByteArray.mk #[])], AV.int IntKind.i64 1])) (brc (i != 0) (K (AV.tup [AV.agg [AV.int IntKind.i64 0, AV.int IntKind.i64 0, AV.bool false, AV.str (ByteArray.mk #[])], AV.int IntKind.i64 10])) (brc (decide (I64 u)) (∀ (m2 : Int), m2 = u / 1000000 → ∀ (m3 : Int), m3 = 0 → brc (decide (I64 u)) (∀ (m4 : Int), m4 = u % 1000000 → ∀ (m5 : Int), m5 = 0 → brc (tyR (Zt.n z) (znRow z) && bdZ (Zt.F z) && decide (-9223372036854775808 ≤ IntKind.wrap IntKind.i64 (m2 + 946684800) ∧ IntKind.wrap IntKind.i64 (m2 + 946684800) ≤ 9223372036854775807)) (∀ (m6 : Int), m6 = Tr.t (atE z (IntKind.wrap IntKind.i64 (m2 + 946684800))) → ∀ (m7 : Int), m7 = Tr.off (atE z (IntKind.wrap IntKind.i64 (m2 + 946684800))) → ∀ (m8 : Bool), m8 = Tr.dst (atE z (IntKind.wrap IntKind.i64 (m2 + 946684800))) → ∀ (m9 : Int), m9 = zErr z (IntKind.wrap IntKind.i64 (m2 + 946684800)) → K (AV.tup [AV.agg [AV.int IntKind.i64 m6, AV.int IntKind.i64 m7, AV.bool m8, AV.str (Tr.ab (atE z (IntKind.wrap IntKind.i64 (m2 + 946684800))))], AV.int IntKind.i64 m9])) False) False) False))) False)) False) := by kernel_rfl
theorem stoff_ok {z : Zt} {i u : Int} (hb : bdZ z.F = true) (hu : I64 u) : AFL (tab [(49, zyRight), (51, csRS), (74, csDiv), (75, csMod), (39, zyAt)]) noLoops 6 14 [.agg (avZ z), .agg [.int .i64 i, .int .i64 u]] (Res (.tup [.agg (avT (offT z i u)), .int .i64 (offE z i u)])) := by
 rw [stoff_vc]
 have no : ∀ e : Int, offE z i u = e → e ≠ 0 → Res (.tup [.agg (avT (offT z i u)), .int .i64 (offE z i u)]) (AV.tup [AV.agg [AV.int IntKind.i64 0, AV.int IntKind.i64 0, AV.bool false, AV.str (ByteArray.mk #[])], AV.int IntKind.i64 e]) := fun e he h => by
  have : offT z i u = ⟨0, 0, false, ⟨#[]⟩⟩ := by unfold offT; rw [if_neg (by rw [he]; exact h)]
  rw [this, he]; exact jF rfl
 refine brcT (tyZ z hb) ?_
 rintro _ rfl
 refine kA (fun a => ?_) fun a => ?_
 · exact no 1 (by unfold offE; rw [if_neg (fun q => by simp [q.1] at a)]) (by omega)
 have hz : ZtOk z := by simpa using a
 refine brcT (decide_eq_true hu) ?_
 rintro _ rfl
 refine kA (fun b => ?_) fun b => ?_
 · exact no 1 (by unfold offE; rw [if_neg (fun q => by simp [q.2] at b)]) (by omega)
 have hd : DRS i u := by simpa using b
 refine kA (fun c => ?_) fun c => ?_
 · exact no 10 (by unfold offE; rw [if_pos ⟨hz, hd⟩, if_neg (by simpa using c)]) (by omega)
 have hi : i = 0 := by simpa using c
 refine brcT (decide_eq_true hu) ?_
 rintro _ rfl _ rfl
 refine brcT (decide_eq_true hu) ?_
 rintro _ rfl _ rfl
 have hs := sec_bd hu
 rw [show IntKind.wrap .i64 (u / 1000000 + 946684800) = secOf u from bL hs]
 refine brcT (by rw [tyZ z hb, decide_eq_true (show -9223372036854775808 ≤ secOf u ∧ secOf u ≤ 9223372036854775807 from hs)]; rfl) ?_
 rintro _ rfl _ rfl _ rfl _ rfl
 have ee : offE z i u = zErr z (secOf u) := by unfold offE; rw [if_pos ⟨hz, hd⟩, if_pos hi]
 have et : offT z i u = atE z (secOf u) := by
  unfold offT
  rw [ee]
  by_cases h : zErr z (secOf u) = 0
  · rw [if_pos h]; unfold atE; simp only [h, if_true]
  · rw [if_neg h, atE_no h]
 rw [ee, et]
 exact jF rfl
theorem csOff_ok : COk Tryz.prog 14 csOff := afl_con (kB zyRight_ok (kB csRS_ok (kB csDiv_ok (kB csMod_ok (kB zyAt_ok kN))))) (by kernel_rfl) fun args p v hc hp => by
 unfold csOff at hc
 split at hc
 case h_2 => cases hc
 split at hc
 case h_2 => cases hc
 rename_i i u _ q z hl
 simp only [Option.some.injEq, Prod.mk.injEq] at hc
 obtain ⟨rfl, rfl⟩ := hc
 rw [Bool.and_eq_true] at hp
 obtain ⟨rfl, hq⟩ := hp
 obtain ⟨k1, k2⟩ := rdZ_move hl
 exact ⟨_, _, _, fun w A hA => rl_1 (fun V h => k2 h) hA, jM _ _, stoff_ok k1 (of_decide_eq_true hq)⟩
set_option maxRecDepth 100000 in
theorem stloc_vc (z : Zt) (i u : Int) (K : AV → Prop) : AFL (tab [(14, csOff), (29, csOn)]) (noLoops) 6 10 [.agg (avZ z), .agg [.int .i64 i, .int .i64 u]] K =
 (brc (tyR (Zt.n z) (znRow z) && bdZ (Zt.F z) && decide (I64 u)) (∀ (m0 : Int), m0 = Tr.t (offT z i u) → ∀ (m1 : Int), m1 = Tr.off (offT z i u) → ∀ (m2 : Bool), m2 = Tr.dst (offT z i u) → ∀ (m3 : Int), m3 = offE z i u → brc (m3 == 1) (K (AV.tup [AV.agg [AV.int IntKind.i64 0, AV.int IntKind.i64 0], AV.int IntKind.i64 m3])) (brc (i != 0) (K (AV.tup [AV.agg [AV.int IntKind.i64 i, AV.int IntKind.i64 u], AV.int IntKind.i64 0])) (brc (m3 != 0) (K (AV.tup [AV.agg [AV.int IntKind.i64 0, AV.int IntKind.i64 0], AV.int IntKind.i64 m3])) (brc (decide (I64 u ∧ I64 (IntKind.wrap IntKind.i64 (m1 * 1000000)))) (∀ (m4 : Int), m4 = Prod.fst (onR u (IntKind.wrap IntKind.i64 (m1 * 1000000))) → ∀ (m5 : Int), m5 = Prod.fst (Prod.snd (onR u (IntKind.wrap IntKind.i64 (m1 * 1000000)))) → ∀ (m6 : Int), m6 = Prod.snd (Prod.snd (onR u (IntKind.wrap IntKind.i64 (m1 * 1000000)))) → K (AV.tup [AV.agg [AV.int IntKind.i64 m4, AV.int IntKind.i64 m5], AV.int IntKind.i64 m6])) False)))) False) := by kernel_rfl
theorem zErr_or {z : Zt} {u : Int} (h : ZtOk z) : zErr z u = 0 ∨ zErr z u = 10 := by unfold zErr; rw [if_pos h]; split <;> simp
theorem stloc_ok {z : Zt} {i u : Int} (hb : bdZ z.F = true) (hu : I64 u) : AFL (tab [(14, csOff), (29, csOn)]) noLoops 6 10 [.agg (avZ z), .agg [.int .i64 i, .int .i64 u]] (Res (avS (locR z i u))) := by
 rw [stloc_vc]
 refine brcT (by rw [tyZ z hb, decide_eq_true hu]; rfl) ?_
 rintro _ rfl _ rfl _ rfl _ rfl
 by_cases h : ZtOk z ∧ DRS i u
 · by_cases hi : i = 0
   · have ee : offE z i u = zErr z (secOf u) := by unfold offE; rw [if_pos h, if_pos hi]
     rw [ee]
     have el : locR z i u = if zErr z (secOf u) = 0 then onR u ((atZ z (secOf u)).off * 1000000) else (0, 0, zErr z (secOf u)) := by unfold locR; rw [if_pos h, if_pos hi]
     have ho := zErr_or (z := z) (u := secOf u) h.1
     refine brcF (by simp; omega) (brcF (by simpa using hi) ?_)
     refine kA (fun c => ?_) fun c => ?_
     · have c : ¬ zErr z (secOf u) = 0 := by simpa using c
       exact resS (by rw [el, if_neg c])
     · have c : zErr z (secOf u) = 0 := by simpa using c
       have et : offT z i u = atZ z (secOf u) := by unfold offT; rw [if_pos (by rw [ee]; exact c)]
       have hf := atZ_off h.1 (secOf u)
       rw [et, show IntKind.wrap .i64 ((atZ z (secOf u)).off * 1000000) = (atZ z (secOf u)).off * 1000000 from bL (by omega)]
       refine brcT (decide_eq_true ⟨hu, by unfold I64; omega⟩) ?_
       rintro _ rfl _ rfl _ rfl
       rw [el, if_pos c]
       exact res3 _
   · have ee : offE z i u = 10 := by unfold offE; rw [if_pos h, if_neg hi]
     rw [ee]
     refine brcF rfl (brcT (by simpa using hi) ?_)
     exact resS (by unfold locR; rw [if_pos h, if_neg hi])
 · have ee : offE z i u = 1 := by unfold offE; rw [if_neg h]
   rw [ee]
   exact brcT rfl (resS (by unfold locR; rw [if_neg h]))
theorem csLoc_ok : COk Tryz.prog 10 csLoc := afl_con (kB csOff_ok (kB csOn_ok kN)) (by kernel_rfl) fun args p v hc hp => by
 unfold csLoc at hc
 split at hc
 case h_2 => cases hc
 split at hc
 case h_2 => cases hc
 rename_i i u _ q z hl
 simp only [Option.some.injEq, Prod.mk.injEq] at hc
 obtain ⟨rfl, rfl⟩ := hc
 rw [Bool.and_eq_true] at hp
 obtain ⟨rfl, hq⟩ := hp
 obtain ⟨k1, k2⟩ := rdZ_move hl
 exact ⟨_, _, _, fun w A hA => rl_1 (fun V h => k2 h) hA, jM _ _, stloc_ok k1 (of_decide_eq_true hq)⟩
set_option maxRecDepth 100000 in
theorem stins_vc (z : Zt) (i u : Int) (K : AV → Prop) : AFL (tab [(49, zyRight), (51, csRS), (74, csDiv), (75, csMod), (36, zyInst), (37, csJoin)]) (noLoops) 6 12 [.agg (avZ z), .agg [.int .i64 i, .int .i64 u]] K =
 (brc (tyR (Zt.n z) (znRow z) && bdZ (Zt.F z)) (∀ (m0 : Bool), m0 = decide (ZtOk z) → brc (!m0) (K (AV.tup [AV.agg [AV.int IntKind.i64 0, AV.int IntKind.i64 0], AV.int IntKind.i64 0, AV.int IntKind.i64 1])) (brc (decide (I64 u)) (∀ (m1 : Bool), m1 = decide (DRS i u) → brc (!m1) (K (AV.tup [AV.agg [AV.int IntKind.i64 0, AV.int IntKind.i64 0], AV.int IntKind.i64 0, AV.int IntKind.i64 1])) (brc (i != 0) (K (AV.tup [AV.agg [AV.int IntKind.i64 i, AV.int IntKind.i64 u], AV.int IntKind.i64 0, AV.int IntKind.i64 0])) (brc (decide (I64 u)) (∀ (m2 : Int), m2 = u / 1000000 → ∀ (m3 : Int), m3 = 0 → brc (decide (I64 u)) (∀ (m4 : Int), m4 = u % 1000000 → ∀ (m5 : Int), m5 = 0 → brc (tyR (Zt.n z) (znRow z) && bdZ (Zt.F z) && decide (-9223372036854775808 ≤ IntKind.wrap IntKind.i64 (m2 + 946684800) ∧ IntKind.wrap IntKind.i64 (m2 + 946684800) ≤ 9223372036854775807)) (∀ (m6 : Int), m6 = Prod.fst (instE z (IntKind.wrap IntKind.i64 (m2 + 946684800))) → ∀ (m7 : Int), m7 = Prod.snd (instE z (IntKind.wrap IntKind.i64 (m2 + 946684800))) → ∀ (m8 : Int), m8 = iErr z (IntKind.wrap IntKind.i64 (m2 + 946684800)) → brc (m8 == 0) (brc (decide (I64 (m6 - 946684800) ∧ I64 m4)) (∀ (m9 : Int), m9 = Prod.fst (joinR m6 m4) → ∀ (m10 : Int), m10 = Prod.fst (Prod.snd (joinR m6 m4)) → ∀ (m11 : Int), m11 = Prod.snd (Prod.snd (joinR m6 m4)) → brc (m11 != 0) (K (AV.tup [AV.agg [AV.int IntKind.i64 0, AV.int IntKind.i64 0], AV.int IntKind.i64 0, AV.int IntKind.i64 m11])) (K (AV.tup [AV.agg [AV.int IntKind.i64 m9, AV.int IntKind.i64 m10], AV.int IntKind.i64 m7, AV.int IntKind.i64 0]))) False) (brc (m8 != 0) (K (AV.tup [AV.agg [AV.int IntKind.i64 0, AV.int IntKind.i64 0], AV.int IntKind.i64 0, AV.int IntKind.i64 m8])) (K (AV.tup [AV.agg [AV.int IntKind.i64 0, AV.int IntKind.i64 0], AV.int IntKind.i64 m7, AV.int IntKind.i64 0])))) False) False) False))) False)) False) := by kernel_rfl
theorem resI4 {x : Int × Int × Int × Int} {a b c e : Int} (h : x = (a, b, c, e)) : Res (.tup [.agg [.int .i64 x.1, .int .i64 x.2.1], .int .i64 x.2.2.1, .int .i64 x.2.2.2]) (.tup [.agg [.int .i64 a, .int .i64 b], .int .i64 c, .int .i64 e]) := by rw [h]; exact jF rfl
theorem acS_bd {z : Zt} {u : Int} (hb : bdZ z.F = true) (h : iErr z u = 0) : u - 57600 ≤ (instE z u).1 ∧ (instE z u).1 ≤ u + 57600 := (inst_law ⟨hb, h⟩).1
theorem stins_ok {z : Zt} {i u : Int} (hb : bdZ z.F = true) (hu : I64 u) : AFL (tab [(49, zyRight), (51, csRS), (74, csDiv), (75, csMod), (36, zyInst), (37, csJoin)]) noLoops 6 12 [.agg (avZ z), .agg [.int .i64 i, .int .i64 u]] (Res (.tup [.agg [.int .i64 (insR z i u).1, .int .i64 (insR z i u).2.1], .int .i64 (insR z i u).2.2.1, .int .i64 (insR z i u).2.2.2])) := by
 rw [stins_vc]
 refine brcT (tyZ z hb) ?_
 rintro _ rfl
 refine kA (fun a => ?_) fun a => ?_
 · exact resI4 (by unfold insR; rw [if_neg (fun q => by simp [q.1] at a)])
 have hz : ZtOk z := by simpa using a
 refine brcT (decide_eq_true hu) ?_
 rintro _ rfl
 refine kA (fun b => ?_) fun b => ?_
 · exact resI4 (by unfold insR; rw [if_neg (fun q => by simp [q.2] at b)])
 have hd : DRS i u := by simpa using b
 refine kA (fun c => ?_) fun c => ?_
 · exact resI4 (by unfold insR; rw [if_pos ⟨hz, hd⟩, if_neg (by simpa using c)])
 have hi : i = 0 := by simpa using c
 refine brcT (decide_eq_true hu) ?_
 rintro _ rfl _ rfl
 refine brcT (decide_eq_true hu) ?_
 rintro _ rfl _ rfl
 have hs := sec_bd hu
 rw [show IntKind.wrap .i64 (u / 1000000 + 946684800) = secOf u from bL hs]
 refine brcT (by rw [tyZ z hb, decide_eq_true (show -9223372036854775808 ≤ secOf u ∧ secOf u ≤ 9223372036854775807 from hs)]; rfl) ?_
 rintro _ rfl _ rfl _ rfl
 have el : insR z i u = if iErr z (secOf u) = 0 then insF z (instE z (secOf u)) (u % 1000000) else (0, 0, 0, iErr z (secOf u)) := by unfold insR; rw [if_pos ⟨hz, hd⟩, if_pos hi]
 rw [el]
 refine kA (fun c => ?_) fun c => ?_
 · have c : iErr z (secOf u) = 0 := by simpa using c
   rw [if_pos c]
   have bd := acS_bd hb c
   have su : secOf u = u / 1000000 + 946684800 := rfl
   refine brcT (decide_eq_true ⟨by unfold I64 at *; omega, by unfold I64; omega⟩) ?_
   rintro _ rfl _ rfl _ rfl
   refine kA (fun d => ?_) fun d => ?_
   · have d : ¬ (joinR (instE z (secOf u)).1 (u % 1000000)).2.2 = 0 := by simpa using d
     exact resI4 (by unfold insF; rw [if_neg d])
   · have d : (joinR (instE z (secOf u)).1 (u % 1000000)).2.2 = 0 := by simpa using d
     exact resI4 (by unfold insF; rw [if_pos d])
 · have c : ¬ iErr z (secOf u) = 0 := by simpa using c
   rw [if_neg c]
   exact brcT (by simpa using c) (resI4 rfl)
theorem csIns_ok : COk Tryz.prog 12 csIns := afl_con (kB zyRight_ok (kB csRS_ok (kB csDiv_ok (kB csMod_ok (kB zyInst_ok (kB csJoin_ok kN)))))) (by kernel_rfl) fun args p v hc hp => by
 unfold csIns at hc
 split at hc
 case h_2 => cases hc
 split at hc
 case h_2 => cases hc
 rename_i i u _ q z hl
 simp only [Option.some.injEq, Prod.mk.injEq] at hc
 obtain ⟨rfl, rfl⟩ := hc
 rw [Bool.and_eq_true] at hp
 obtain ⟨rfl, hq⟩ := hp
 obtain ⟨k1, k2⟩ := rdZ_move hl
 exact ⟨_, _, _, fun w A hA => rl_1 (fun V h => k2 h) hA, jM _ _, stins_ok k1 (of_decide_eq_true hq)⟩
theorem i64_0 : I64 0 := by unfold I64; omega
def Made (x : Int × Int × Int) : Prop := x.1 = 0 ∧ I64 x.2.1 ∧ (x.2.2 = 0 → DRS 0 x.2.1) ∧ (x.2.2 = 0 ∨ x.2.2 = 10 ∨ x.2.2 = 1) ∧ (x.2.2 ≠ 0 → x.2.1 = 0)
def gvZ (z : Zt) (C : Zt → Prop) : Prop := ∀ m1 : Int, m1 = z.F.a.m → ∀ k1 : Int, k1 = z.F.a.k → ∀ w1 : Int, w1 = z.F.a.w → ∀ n1 : Int, n1 = z.F.a.n → ∀ s1 : Int, s1 = z.F.a.s → ∀ c1 : Int, c1 = z.F.a.c → ∀ v1 : Int, v1 = z.F.a.v →
 ∀ m2 : Int, m2 = z.F.b.m → ∀ k2 : Int, k2 = z.F.b.k → ∀ w2 : Int, w2 = z.F.b.w → ∀ n2 : Int, n2 = z.F.b.n → ∀ s2 : Int, s2 = z.F.b.s → ∀ c2 : Int, c2 = z.F.b.c → ∀ v2 : Int, v2 = z.F.b.v →
 C ⟨z.nm, z.at0, z.off0, z.d0, z.b0, z.n, fun i => iOf (znRow z i 0), fun i => iOf (znRow z i 1), fun i => bOf (znRow z i 2), fun i => sOf (znRow z i 3), ⟨z.F.z, z.F.fr, z.F.off, ⟨m1, k1, w1, n1, s1, c1, v1, z.F.a.ab⟩, ⟨m2, k2, w2, n2, s2, c2, v2, z.F.b.ab⟩⟩⟩
theorem gvZ_ok {z : Zt} {C : Zt → Prop} (h : C z) : gvZ z C := by
 rintro _ rfl _ rfl _ rfl _ rfl _ rfl _ rfl _ rfl _ rfl _ rfl _ rfl _ rfl _ rfl _ rfl _ rfl
 exact h
set_option maxRecDepth 100000 in
theorem half17_vc (h : Hf) (K : AV → Prop) : AF (tab []) 6 28 [.agg (avH h)] K =
 (K (AV.agg [AV.int IntKind.i64 (Hf.m h), AV.int IntKind.i64 (Hf.k h), AV.int IntKind.i64 (Hf.w h), AV.int IntKind.i64 (Hf.n h), AV.int IntKind.i64 (Hf.s h), AV.int IntKind.u8 (Hf.c h), AV.int IntKind.i64 (Hf.v h), AV.str (Hf.ab h)])) := by kernel_rfl
theorem cyHalf17_ok : COk Tryz.prog 28 cyHalf := af_con kN (by kernel_rfl) fun args p v hc hp => by
 unfold cyHalf at hc
 split at hc
 case h_2 => cases hc
 split at hc
 case h_2 => cases hc
 rename_i h hl
 simp only [Option.some.injEq, Prod.mk.injEq] at hc
 obtain ⟨_, rfl⟩ := hc
 rw [rdH_ok hl]
 refine ⟨rfl, 6, ?_⟩
 rw [half17_vc]
 rfl
theorem cyKnown17_ok : COk Tryz.prog 16 cyKnown := by
 intro args p v hc hp w A hA
 unfold cyKnown at hc
 split at hc
 case h_2 => cases hc
 simp only [Option.some.injEq, Prod.mk.injEq] at hc
 obtain ⟨rfl, rfl⟩ := hc
 exact runC_ok mixed 450 (runT_ok mixed 450 TK5_ok 8) _ _ true _ known_run rfl w A hA
theorem oneC_row (z : Zt) : oneC 4 z.n (znRow z) = true := @decide_eq_true _ (Classical.propDecidable _) fun i j _ hj => by
 match j, hj with
 | 0, _ => rfl
 | 1, _ => rfl
 | 2, _ => rfl
 | 3, _ => rfl
theorem room_z (z : Zt) : (Nat.ble (0 + z.n) z.n && true && true) = true := by simp
end Go.Proofs.YtimgphlfaninnaaGreat.P
namespace Go.Proofs.YtimgphlfaninnaaGreat.P
open Go Go.RowKit Go.ChangeShapes Go.WideShapes Go.Proofs.YtimgphlfaninnaaGreat.Civ Go.Proofs.YtimgphlfaninnaaGreat.Ft
set_option linter.unusedVariables false
set_option linter.unusedSimpArgs false
set_option maxHeartbeats 2000000
def vH (h : Hf) : List Value := [.int .i64 h.m, .int .i64 h.k, .int .i64 h.w, .int .i64 h.n, .int .i64 h.s, .int .u8 h.c, .int .i64 h.v, .string h.ab]
def vF (F : Ft) : List Value := [.bool F.z, .int .i64 F.fr, .int .i64 F.off, .int .i64 F.a.m, .int .i64 F.a.k, .int .i64 F.a.w, .int .i64 F.a.n, .int .i64 F.a.s, .int .u8 F.a.c, .int .i64 F.a.v, .string F.a.ab, .int .i64 F.b.m, .int .i64 F.b.k, .int .i64 F.b.w, .int .i64 F.b.n, .int .i64 F.b.s, .int .u8 F.b.c, .int .i64 F.b.v, .string F.b.ab]
theorem cz_k : Tryz.prog.cellsOf 3 = 1 := by kernel_rfl
theorem cz_i : Tryz.prog.cellsOf 2 = 1 := by kernel_rfl
theorem cz_u : Tryz.prog.cellsOf 5 = 1 := by kernel_rfl
theorem cz_b : Tryz.prog.cellsOf 4 = 1 := by kernel_rfl
theorem cz_s : Tryz.prog.cellsOf 9 = 1 := by kernel_rfl
theorem cz_o : Tryz.prog.cellsOf 26 = 3 := by kernel_rfl
theorem cz_a : Tryz.prog.cellsOf 28 = 2 := by kernel_rfl
theorem cz_h : Tryz.prog.cellsOf 30 = 8 := by kernel_rfl
section
variable {H : Type} {enc : TypeId × Value → H} {w : World} {base : Nat} {spare : Nat → Bool} {held : Bool}
theorem list3 {α : Type} {l : List α} (h : l.length = 3) : ∃ a b c, l = [a, b, c] := by
 match l, h with
 | [a, b, c], _ => exact ⟨a, b, c, rfl⟩
theorem list2 {α : Type} {l : List α} (h : l.length = 2) : ∃ a b, l = [a, b] := by
 match l, h with
 | [a, b], _ => exact ⟨a, b, rfl⟩
theorem list5 {α : Type} {l : List α} (h : l.length = 5) : ∃ a b c d e, l = [a, b, c, d, e] := by
 match l, h with
 | [a, b, c, d, e], _ => exact ⟨a, b, c, d, e, rfl⟩
theorem list8 {α : Type} {l : List α} (h : l.length = 8) : ∃ a b c d e f g i, l = [a, b, c, d, e, f, g, i] := by
 match l, h with
 | [a, b, c, d, e, f, g, i], _ => exact ⟨a, b, c, d, e, f, g, i, rfl⟩
theorem list19 {α : Type} {l : List α} (h : l.length = 19) : ∃ a b c d e f g i j k m n o p q r s t u, l = [a, b, c, d, e, f, g, i, j, k, m, n, o, p, q, r, s, t, u] := by
 match l, h with
 | [a, b, c, d, e, f, g, i, j, k, m, n, o, p, q, r, s, t, u], _ => exact ⟨a, b, c, d, e, f, g, i, j, k, m, n, o, p, q, r, s, t, u, rfl⟩
theorem int_of {fuel : Nat} {t : TypeId} {c : Value} {k : IntKind} {x : Option (DataW H × List MemPlace)} {y : DataW H × List MemPlace} (ht : Tryz.prog.underlying t = some (.int k)) (h : DataW.trod enc Tryz.prog w base spare held fuel t [c] = x) (hx : x = some y) : ∃ n, c = .int k n ∧ (Lit.int k n).wf = true := by
 subst hx
 obtain ⟨n, e, _, h3⟩ := DataW.trod_int ht h
 exact ⟨n, (List.cons.inj e).1, h3⟩
theorem on_of {fuel : Nat} {cs : List Value} {y : DataW H × List MemPlace} (h : DataW.trod enc Tryz.prog w base spare held fuel 26 cs = some y) : ∃ k n m, cs = [.int .i64 k, .int .i64 n, .int .i64 m] := by
 obtain ⟨xs, n, _, _, hl, hlen, hf⟩ := DataW.trod_struct Tryz.underlying26 h
 obtain ⟨a, b, c, rfl⟩ := list3 (hl.trans (by kernel_rfl))
 obtain ⟨x, y, z, rfl⟩ := list3 hlen
 obtain ⟨k0, rfl, _⟩ := int_of (c := a) Tryz.underlying3 (by simpa [cz_k, cz_i, cz_u, cz_b, cz_s, cz_o, cz_a, cz_h] using hf 0 _ rfl) rfl
 obtain ⟨k1, rfl, _⟩ := int_of (c := b) Tryz.underlying2 (by simpa [cz_k, cz_i, cz_u, cz_b, cz_s, cz_o, cz_a, cz_h] using hf 1 _ rfl) rfl
 obtain ⟨k2, rfl, _⟩ := int_of (c := c) Tryz.underlying2 (by simpa [cz_k, cz_i, cz_u, cz_b, cz_s, cz_o, cz_a, cz_h] using hf 2 _ rfl) rfl
 exact ⟨_, _, _, rfl⟩
theorem at_of {fuel : Nat} {cs : List Value} {y : DataW H × List MemPlace} (h : DataW.trod enc Tryz.prog w base spare held fuel 28 cs = some y) : ∃ k n, cs = [.int .i64 k, .int .u8 n] := by
 obtain ⟨xs, n, _, _, hl, hlen, hf⟩ := DataW.trod_struct Tryz.underlying28 h
 obtain ⟨a, b, rfl⟩ := list2 (hl.trans (by kernel_rfl))
 obtain ⟨x, y, rfl⟩ := list2 hlen
 obtain ⟨k0, rfl, _⟩ := int_of (c := a) Tryz.underlying2 (by simpa [cz_k, cz_i, cz_u, cz_b, cz_s, cz_o, cz_a, cz_h] using hf 0 _ rfl) rfl
 obtain ⟨k1, rfl, _⟩ := int_of (c := b) Tryz.underlying5 (by simpa [cz_k, cz_i, cz_u, cz_b, cz_s, cz_o, cz_a, cz_h] using hf 1 _ rfl) rfl
 exact ⟨_, _, rfl⟩
theorem half_of {fuel : Nat} {cs : List Value} {y : DataW H × List MemPlace} (h : DataW.trod enc Tryz.prog w base spare held fuel 30 cs = some y) : ∃ h : Hf, cs = vH h ∧ (Lit.int .i64 h.m).wf = true := by
 obtain ⟨xs, n, _, _, hl, hlen, hf⟩ := DataW.trod_struct Tryz.underlying30 h
 obtain ⟨a, b, c, d, e, f, g, i, rfl⟩ := list8 (hl.trans (by kernel_rfl))
 obtain ⟨x0, x1, x2, x3, x4, rfl⟩ := list5 hlen
 obtain ⟨m, rfl, hm⟩ := int_of (c := a) Tryz.underlying2 (by simpa [cz_k, cz_i, cz_u, cz_b, cz_s, cz_o, cz_a, cz_h] using hf 0 _ rfl) rfl
 obtain ⟨k, wd, nn, e1⟩ := on_of (cs := [b, c, d]) (by simpa [cz_k, cz_i, cz_u, cz_b, cz_s, cz_o, cz_a, cz_h] using hf 1 _ rfl)
 obtain ⟨s, c0, e2⟩ := at_of (cs := [e, f]) (by simpa [cz_k, cz_i, cz_u, cz_b, cz_s, cz_o, cz_a, cz_h] using hf 2 _ rfl)
 obtain ⟨v, rfl, _⟩ := int_of (c := g) Tryz.underlying2 (by simpa [cz_k, cz_i, cz_u, cz_b, cz_s, cz_o, cz_a, cz_h] using hf 3 _ rfl) rfl
 obtain ⟨ab, e3, _⟩ := DataW.trod_string (cs := [i]) Tryz.underlying9 (by simpa [cz_k, cz_i, cz_u, cz_b, cz_s, cz_o, cz_a, cz_h] using hf 4 _ rfl)
 have e1 : [b, c, d] = [Value.int .i64 k, .int .i64 wd, .int .i64 nn] := e1
 have e2 : [e, f] = [Value.int .i64 s, .int .u8 c0] := e2
 have e3 : [i] = [Value.string ab] := e3
 simp only [List.cons.injEq, and_true] at e1 e2 e3
 obtain ⟨rfl, rfl, rfl⟩ := e1
 obtain ⟨rfl, rfl⟩ := e2
 subst e3
 exact ⟨⟨m, k, wd, nn, s, c0, v, ab⟩, rfl, hm⟩
theorem foot_of {fuel : Nat} {cs : List Value} {y : DataW H × List MemPlace} (h : DataW.trod enc Tryz.prog w base spare held fuel 32 cs = some y) : ∃ F : Ft, cs = vF F ∧ (Lit.int .i64 F.a.m).wf = true ∧ (Lit.int .i64 F.b.m).wf = true := by
 obtain ⟨xs, n, _, _, hl, hlen, hf⟩ := DataW.trod_struct Tryz.underlying32 h
 obtain ⟨a, b, c, d, e, f, g, i, j, k, m, nn, o, p, q, r, s, t, u, rfl⟩ := list19 (hl.trans (by kernel_rfl))
 obtain ⟨x0, x1, x2, x3, x4, rfl⟩ := list5 hlen
 obtain ⟨z, e0, _⟩ := DataW.trod_bool (cs := [a]) Tryz.underlying4 (by simpa [cz_k, cz_i, cz_u, cz_b, cz_s, cz_o, cz_a, cz_h] using hf 0 _ rfl)
 obtain ⟨fr, rfl, _⟩ := int_of (c := b) Tryz.underlying2 (by simpa [cz_k, cz_i, cz_u, cz_b, cz_s, cz_o, cz_a, cz_h] using hf 1 _ rfl) rfl
 obtain ⟨off, rfl, _⟩ := int_of (c := c) Tryz.underlying2 (by simpa [cz_k, cz_i, cz_u, cz_b, cz_s, cz_o, cz_a, cz_h] using hf 2 _ rfl) rfl
 obtain ⟨A, e1, h1⟩ := half_of (cs := [d, e, f, g, i, j, k, m]) (by simpa [cz_k, cz_i, cz_u, cz_b, cz_s, cz_o, cz_a, cz_h] using hf 3 _ rfl)
 obtain ⟨B, e2, h2⟩ := half_of (cs := [nn, o, p, q, r, s, t, u]) (by simpa [cz_k, cz_i, cz_u, cz_b, cz_s, cz_o, cz_a, cz_h] using hf 4 _ rfl)
 have e0 : [a] = [Value.bool z] := e0
 have e1 : [d, e, f, g, i, j, k, m] = vH A := e1
 have e2 : [nn, o, p, q, r, s, t, u] = vH B := e2
 unfold vH at e1 e2
 simp only [List.cons.injEq, and_true] at e0 e1 e2
 obtain ⟨rfl, rfl, rfl, rfl, rfl, rfl, rfl, rfl⟩ := e1
 obtain ⟨rfl, rfl, rfl, rfl, rfl, rfl, rfl, rfl⟩ := e2
 subst e0
 exact ⟨⟨z, fr, off, A, B⟩, rfl, h1, h2⟩
open A in
theorem rl_half (h : Hf) : RL noNames w (avH h) (vH h) :=
 .cons (.int _ _) (.cons (.int _ _) (.cons (.int _ _) (.cons (.int _ _) (.cons (.int _ _) (.cons (.int _ _) (.cons (.int _ _) (.cons (.str _) .nil)))))))
open A in
theorem rl_foot (F : Ft) : RL noNames w (avF F) (vF F) := by
 have h : RL noNames w ([.bool F.z, .int .i64 F.fr, .int .i64 F.off] ++ (avH F.a ++ avH F.b)) ([.bool F.z, .int .i64 F.fr, .int .i64 F.off] ++ (vH F.a ++ vH F.b)) :=
  RL.append (.cons (.bool _) (.cons (.int _ _) (.cons (.int _ _) .nil))) (RL.append (rl_half _) (rl_half _))
 exact h
end
end Go.Proofs.YtimgphlfaninnaaGreat.P
namespace Go.Proofs.YtimgphlfaninnaaGreat.P
open Go Go.RowKit Go.ChangeShapes Go.WideShapes Go.Proofs.YtimgphlfaninnaaGreat.Civ Go.Proofs.YtimgphlfaninnaaGreat.Ft Go.Proofs.YtimgphlfaninnaaGreat.Zn
set_option linter.unusedVariables false
set_option linter.unusedSimpArgs false
set_option maxHeartbeats 2000000
theorem tz_n : Tryz.prog.cellsOf 9 = 1 := by kernel_rfl
theorem tz_t : Tryz.prog.cellsOf 23 = 4 := by kernel_rfl
theorem tz_s : Tryz.prog.cellsOf 24 = 1 := by kernel_rfl
theorem tz_f : Tryz.prog.cellsOf 32 = 19 := by kernel_rfl
theorem tz_b : Tryz.prog.bytesOf 23 = 40 := by kernel_rfl
section
variable {H : Type} {enc : TypeId × Value → H} {w : World} {base : Nat} {spare : Nat → Bool} {held : Bool}
theorem list4 {α : Type} {l : List α} (h : l.length = 4) : ∃ a b c d, l = [a, b, c, d] := by
 match l, h with
 | [a, b, c, d], _ => exact ⟨a, b, c, d, rfl⟩
theorem list25 {α : Type} {l : List α} (h : l.length = 25) : ∃ a b c d e f r, l = a :: b :: c :: d :: e :: f :: r ∧ r.length = 19 := by
 match l, h with
 | a :: b :: c :: d :: e :: f :: r, h => exact ⟨a, b, c, d, e, f, r, rfl, by simpa using h⟩
theorem tran_of {fuel : Nat} {cs : List Value} {y : DataW H × List MemPlace} (h : DataW.trod enc Tryz.prog w base spare held fuel 23 cs = some y) : ∃ t : Int × Int × Bool × ByteArray, cs = [.int .i64 t.1, .int .i64 t.2.1, .bool t.2.2.1, .string t.2.2.2] := by
 obtain ⟨xs, n, _, _, hl, hlen, hf⟩ := DataW.trod_struct Tryz.underlying23 h
 obtain ⟨a, b, c, d, rfl⟩ := list4 (hl.trans (by kernel_rfl))
 obtain ⟨x, y, z, u, rfl⟩ := list4 hlen
 obtain ⟨k0, rfl, _⟩ := int_of (c := a) Tryz.underlying2 (by simpa [cz_k, cz_i, cz_u, cz_b, cz_s, cz_o, cz_a, cz_h] using hf 0 _ rfl) rfl
 obtain ⟨k1, rfl, _⟩ := int_of (c := b) Tryz.underlying2 (by simpa [cz_k, cz_i, cz_u, cz_b, cz_s, cz_o, cz_a, cz_h] using hf 1 _ rfl) rfl
 obtain ⟨k2, e2, _⟩ := DataW.trod_bool (cs := [c]) Tryz.underlying4 (by simpa [cz_k, cz_i, cz_u, cz_b, cz_s, cz_o, cz_a, cz_h] using hf 2 _ rfl)
 obtain ⟨k3, e3, _⟩ := DataW.trod_string (cs := [d]) Tryz.underlying9 (by simpa [cz_k, cz_i, cz_u, cz_b, cz_s, cz_o, cz_a, cz_h] using hf 3 _ rfl)
 have e2 : [c] = [Value.bool k2] := e2
 have e3 : [d] = [Value.string k3] := e3
 simp only [List.cons.injEq, and_true] at e2 e3
 subst e2 e3
 exact ⟨(k0, k1, k2, k3), rfl⟩
theorem foot_fr {fuel : Nat} {F : Ft} {y : DataW H × List MemPlace} (h : DataW.trod enc Tryz.prog w base spare held fuel 32 (vF F) = some y) : (Lit.int .i64 F.fr).wf = true := by
 obtain ⟨xs, n, _, _, hl, hlen, hf⟩ := DataW.trod_struct Tryz.underlying32 h
 obtain ⟨x0, x1, x2, x3, x4, rfl⟩ := list5 hlen
 obtain ⟨fr, e, hw⟩ := int_of (c := .int .i64 F.fr) Tryz.underlying2 (by simpa [vF, cz_k, cz_i, cz_u, cz_b, cz_s, cz_o, cz_a, cz_h] using hf 1 _ rfl) rfl
 cases e
 exact hw
theorem add_add {a : Addr} (h : a.spot = none) (m n : Nat) : a.add (m + n) = (a.add m).add n := by
 have e : ∀ k, a.add k = ⟨a.block, a.off + k, none⟩ := fun k => by
  unfold Addr.add
  split
  · rename_i q; subst q; cases a; simp only at h; subst h; rfl
  · rfl
 rw [e, e]
 unfold Addr.add
 split
 · rename_i q; subst q; rfl
 · simp only [Addr.mk.injEq, and_true, true_and]; omega
theorem row_of {fuel : Nat} {s : Value} {y : DataW H × List MemPlace} (hz : (y.1.weights Tryz.prog 24).all (· ≤ reachBytes) = true)
 (hsp : ∀ a len cap, s = .slice (some a) len cap → a.spot = none ∧ a.block < w.heap.size)
 (h : DataW.trod enc Tryz.prog w base spare held fuel 24 [s] = some y) :
 ∃ (n : Nat) (f : Nat → Int × Int × Bool × ByteArray), A.RV A.noNames w (.csl 4 n fun i k => match k with | 0 => .int .i64 (f i).1 | 1 => .int .i64 (f i).2.1 | 2 => .bool (f i).2.2.1 | _ => .str (f i).2.2.2) s ∧ A.roomB n 40 = true := by
 rcases DataW.trod_slice Tryz.underlying24 h with ⟨e, _⟩ | ⟨a, len, cap, elems, rest, m, rfl, e, rfl, hb, hl, hc, hlen, hel, _⟩
 · simp only [List.cons.injEq, and_true] at e
   subst e
   exact ⟨0, fun _ => (0, 0, false, ⟨#[]⟩), .csl0 _ _, by decide +kernel⟩
 · simp only [List.cons.injEq, and_true] at e
   subst e
   obtain ⟨hs, hbk⟩ := hsp a len cap rfl
   have each : ∀ i, ∃ t : Int × Int × Bool × ByteArray, i < len → ∀ j, j < 4 → w.cell? (a.add (i * 4 + j)) = [Value.int .i64 t.1, .int .i64 t.2.1, .bool t.2.2.1, .string t.2.2.2][j]? := by
    intro i
    by_cases hi : i < len
    · have h1 := hel i hi
      rw [tz_t, List.getElem?_eq_getElem (by omega), Option.bind_eq_some_iff] at h1
      obtain ⟨cs, h2, h3⟩ := h1
      obtain ⟨t, rfl⟩ := tran_of h3
      obtain ⟨_, _, h4⟩ := World.cells?_some h2
      refine ⟨t, fun _ j hj => ?_⟩
      rw [← h4 j hj]
      exact congrArg w.cell? (add_add hs (i * 4) j)
    · exact ⟨(0, 0, false, ⟨#[]⟩), fun q => (hi q).elim⟩
   obtain ⟨f, hf⟩ := Classical.axiomOfChoice each
   obtain ⟨b, o, sp⟩ := a
   obtain rfl : sp = none := hs
   refine ⟨len, f, .csl 4 len cap _ (fun i k => match k with | 0 => .int .i64 (f i).1 | 1 => .int .i64 (f i).2.1 | 2 => .bool (f i).2.2.1 | _ => .string (f i).2.2.2) hbk hl ?_ ?_, ?_⟩
   · intro i j hi hj
     have := hf i hi j hj
     have ea : (Addr.add ⟨b, o, none⟩ (i * 4 + j)) = ⟨b, o + (i * 4 + j), none⟩ := by
      unfold Addr.add
      split
      · rename_i q; simp [q]
      · rfl
     rw [ea] at this
     rw [this]
     match j, hj with
     | 0, _ => rfl
     | 1, _ => rfl
     | 2, _ => rfl
     | 3, _ => rfl
   · intro i j hi hj
     match j, hj with
     | 0, _ => exact .int _ _
     | 1, _ => exact .int _ _
     | 2, _ => exact .bool _
     | 3, _ => exact .str _
   · have h1 := List.all_eq_true.1 hz ((elems.length + rest.length) * Tryz.prog.bytesOf 23) (by
      have hu := Tryz.underlying24
      unfold DataW.weights
      rw [hu]
      simp)
     have h1 := of_decide_eq_true h1
     rw [tz_b] at h1
     have hr := reachBytes_lt
     unfold A.roomB
     rw [Bool.and_eq_true]
     refine ⟨Nat.ble_eq_true_of_le (Nat.le_trans hl hc), Nat.ble_eq_true_of_le ?_⟩
     have : len ≤ elems.length + rest.length := by omega
     have := Nat.mul_le_mul_right 40 this
     omega
set_option maxRecDepth 100000 in
theorem open_table {b0 : Nat} {v : Value} {d : DataW H} {p : List MemPlace} (hv : Value.okWide Tryz.prog w .any b0 34 v) (h : DataW.Trod enc Tryz.prog w base spare held 34 v d p) (hz : ∀ n ∈ d.weights Tryz.prog 34, n ≤ reachBytes) : ∃ z : Zt, A.RV A.noNames w (.agg (avZ z)) v ∧ bdZ z.F = true ∧ A.roomB z.n 40 = true := by
 have hs := Tryz.underlying34
 have hrow : ∃ cs, v = .agg cs ∧ cs.size = Tryz.prog.cellsOf 34 ∧ Row.okWide Tryz.prog w .any b0 34 cs := by
  have := hv
  simp only [Value.okWide, hs] at this
  exact this
 obtain ⟨cs, rfl, hsz, ts, hts, _, hcell⟩ := hrow
 have hk : (Tryz.prog.cellTypes Tryz.prog.depth 34).map (fun l => (l.length, l[5]?)) = some (25, some 24) := by kernel_rfl
 rw [hts] at hk
 simp only [Option.map_some, Option.some.injEq, Prod.mk.injEq] at hk
 obtain ⟨k1, k2⟩ := hk
 obtain ⟨fuel, hf⟩ := h
 have hf : DataW.trod enc Tryz.prog w base spare held fuel 34 cs.toList = some (d, p) := hf
 obtain ⟨xs, n, _, hd, hl, hlen, hfl⟩ := DataW.trod_struct hs hf
 obtain ⟨a, b, c, e, f, s, r, hcs, hr⟩ := list25 (hl.trans (by kernel_rfl))
 obtain ⟨x0, x1, x2, x3, rfl⟩ := list4 hlen
 have hsl : ∀ a len cap, s = .slice (some a) len cap → a.spot = none ∧ a.block < w.heap.size := by
  intro a len cap es
  have h5 : cs[5]? = some s := by rw [← Array.getElem?_toList, hcs]; rfl
  obtain ⟨u, hu, hok⟩ := hcell 5 s h5
  rw [k1, show 5 % 25 = 5 from rfl, k2, Option.some.injEq] at hu
  subst hu es
  have hu := Tryz.underlying24
  simp only [Cell.okWide, Cell.ok, hu] at hok
  obtain ⟨_, _, _, h6, row, cells, h7, _⟩ := hok
  refine ⟨h6, ?_⟩
  unfold World.shape? at h7
  rcases Nat.lt_or_ge a.block w.heap.size with q | q
  · exact q
  · rw [Array.getElem?_eq_none q] at h7
    cases h7
 rw [hcs] at hfl
 have hg := hfl 0 _ rfl
 obtain ⟨nm, e0, _⟩ := DataW.trod_string (cs := [a]) Tryz.underlying9 (by simpa [tz_n, cz_s] using hfl 0 _ rfl)
 obtain ⟨t, e1⟩ := tran_of (cs := [b, c, e, f]) (by simpa [tz_t] using hfl 1 _ rfl)
 have hrw := hfl 2 _ rfl
 have hft := hfl 3 _ rfl
 have hrw : DataW.trod enc Tryz.prog w base spare held n 24 [s] = some x2 := by simpa [tz_s] using hrw
 have hft : DataW.trod enc Tryz.prog w base spare held n 32 r = some x3 := by
  have e : r.take 19 = r := List.take_of_length_le (by omega)
  simpa [tz_f, e] using hft
 obtain ⟨F, rfl, h1, h2⟩ := foot_of hft
 have h0 := foot_fr hft
 have e0 : [a] = [Value.string nm] := e0
 simp only [List.cons.injEq, and_true] at e0 e1
 obtain ⟨rfl, rfl, rfl, rfl⟩ := e1
 subst e0
 have hw : (x2.1.weights Tryz.prog 24).all (· ≤ reachBytes) = true := by
  refine List.all_eq_true.2 fun q hq => decide_eq_true (hz q ?_)
  have hd1 : d = .agg [x0.1, x1.1, x2.1, x3.1] := congrArg Prod.fst hd
  rw [hd1]
  unfold DataW.weights
  rw [hs]
  exact DataW.weights_mem_each (j := 2) (t := 24) (d := x2.1) rfl rfl q hq
 obtain ⟨m, g, hrv, hroom⟩ := row_of hw hsl hrw
 refine ⟨⟨nm, t.1, t.2.1, t.2.2.1, t.2.2.2, m, fun i => (g i).1, fun i => (g i).2.1, fun i => (g i).2.2.1, fun i => (g i).2.2.2, F⟩, ?_, ?_, hroom⟩
 · have e : cs = (Value.string nm :: Value.int .i64 t.1 :: .int .i64 t.2.1 :: .bool t.2.2.1 :: .string t.2.2.2 :: s :: vF F).toArray := by rw [← hcs]
   rw [e]
   exact .agg (.cons (.str _) (.cons (.int _ _) (.cons (.int _ _) (.cons (.bool _) (.cons (.str _) (.cons hrv (rl_foot F)))))))
 · exact decide_eq_true ⟨(i64_of_wf h0).1, (i64_of_wf h0).2, (i64_of_wf h1).1, (i64_of_wf h1).2, (i64_of_wf h2).1, (i64_of_wf h2).2⟩
end
end Go.Proofs.YtimgphlfaninnaaGreat.P
namespace Go.Proofs.YtimgphlfaninnaaGreat.P
open Go Go.RowKit Go.Proofs.YtimgphlfaninnaaGreat.Civ Go.Proofs.YtimgphlfaninnaaGreat.Ft Go.Proofs.YtimgphlfaninnaaGreat.Zn
set_option linter.unusedVariables false
set_option linter.unusedSimpArgs false
open A
theorem afl_calls {T : Tab} (hT : TabOk Tryz.prog T) {n g : Nat} {LT : LTab Prop} (hL : LtOk Tryz.prog g LT) {args : List AV} (h : AFL T LT n g args fun u => u = .bool true) {w : World} {A : List Value} (hA : RL noNames w args A) : Calls Tryz.prog g A.toArray w fun e w' => e = .returned (.bool true) ∧ Below w.heap.size w w' := by
 unfold AFL at h
 have h2 := afn_ok (P := Tryz.prog) (T := T) (n := n) (g := g) (LT := LT) (args := args) (K := fun u h => nuK h u fun u => u = .bool true) mixed hT hL (by with_reducible exact h) hA
 refine h2.mono fun e w' he => ?_
 obtain ⟨V, g1, ρ', u, h', g2, g3, g5⟩ := he
 obtain ⟨c1, g4⟩ := brc_false.1 g5
 obtain ⟨k1, _⟩ := toNu_ok g3 4 g2 (by rw [g4]; rfl) c1
 rw [g4, kZ] at k1
 exact ⟨by rw [g1, k1], g3.bel⟩
theorem i64_wf {n : Int} (h : (Lit.int .i64 n).wf = true) : I64 n := ⟨(i64_of_wf h).1, (i64_of_wf h).2⟩
end Go.Proofs.YtimgphlfaninnaaGreat.P

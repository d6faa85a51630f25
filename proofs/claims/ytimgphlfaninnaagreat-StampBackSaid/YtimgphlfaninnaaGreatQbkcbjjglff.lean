import Derived.Test.YtimgphlfaninnaaGreatQmomgakiiln
import Derived.Test.YtimgphlfaninnaaGreatQpahojkofpm
import Derived.Test.YtimgphlfaninnaaGreatQofbcfccnhe
import Derived.Test.YtimgphlfaninnaaGreatQidpdokpcpl
import Derived.Test.YtimgphlfaninnaaGreatQmijinmgaeg
namespace Go.Proofs.YtimgphlfaninnaaGreat.P
open Go.RowKit Go.Proofs.YtimgphlfaninnaaGreat.Ft Go.Proofs.YtimgphlfaninnaaGreat.Zn
set_option linter.unusedVariables false
set_option linter.unusedSimpArgs false
open A
def zrKeep : List Bool := ((((List.replicate 100 false).set 1 true).set 2 true).set 3 true).set 4 true
def zrKeepX : List Bool := (((List.replicate 100 false).set 1 true).set 2 true).set 3 true
def zrCS : CS := { m := 2, keep := zrKeep }
def zrCX : CS := { m := 2, keep := zrKeepX }
def zrHead' (z : Zt) (i l : Int) : St := ⟨((((List.replicate 100 none).set 1 (some (.ptr 0 0 0 0))).set 2 (some (.bool false))).set 3 (some (.int .i64 l))).set 4 (some (.int .i64 i)), zrH z, []⟩
def zrHead (z : Zt) (i : Nat) : St := zrHead' z (i : Int) (zrLast z i)
set_option maxRecDepth 100000 in
theorem zr_round (z : Zt) (i l : Int) (R : Option St → Prop) (Q : Ex → Option St → Prop) : aroundN PA Tryz.prog (tab []) noLoops 6 (loopOf Tryz.prog 25 0) (zrHead' z i l) (fun st => R (canon zrCS st)) (fun e st => Q e (canon zrCX st)) =
 brc (decide (i < z.n)) (brc (decide (0 ≤ i) && decide (i < z.n)) (brc (decide (z.tf (Int.toNat i) ≥ -57600)) (brc (!decide (z.tf (Int.toNat i) ≤ 57600)) (Q .ret (some (zrEnd z l))) (brc (decide (z.ta (Int.toNat i) ≤ l)) (Q .ret (some (zrEnd z l))) (brc (decide (z.ta (Int.toNat i) > 1125899906842624)) (Q .ret (some (zrEnd z l))) (R (some (zrHead' z (IntKind.wrap .i64 (i + 1)) (z.ta (Int.toNat i)))))))) (Q .ret (some (zrEnd z l)))) False) (Q (.exit 0) (some (zrEnd z l))) := by kernel_rfl
def zrRowOk (z : Zt) (j : Nat) : Prop := (-57600 ≤ z.tf j ∧ z.tf j ≤ 57600) ∧ zrLast z j < z.ta j ∧ z.ta j ≤ 1125899906842624
noncomputable def zrFrom (z : Zt) (i : Nat) : Bool := @decide (∀ j, i ≤ j → j < z.n → zrRowOk z j) (Classical.propDecidable _)
theorem zrFrom_iff {z : Zt} {i : Nat} : zrFrom z i = true ↔ ∀ j, i ≤ j → j < z.n → zrRowOk z j :=
 ⟨fun h => @of_decide_eq_true _ (Classical.propDecidable _) h, fun h => @decide_eq_true _ (Classical.propDecidable _) h⟩
def zrG (z : Zt) (i : Nat) (Q : Ex → St → Prop) : Prop := (i ≤ z.n ∧ z.n ≤ 8192) ∧ brc (zrFrom z i) (Q (.exit 0) (zrEnd z (zrLast z z.n))) (∀ l, Q .ret (zrEnd z l))
set_option maxRecDepth 100000 in
theorem zr_noloops : Code.loops (loopOf Tryz.prog 25 0) = [] := by kernel_rfl
attribute [local irreducible] aroundN
theorem zr_hround (z : Zt) (i : Nat) (Q : Ex → St → Prop) (hG : zrG z i Q) : aroundN PA Tryz.prog (tab []) noLoops 6 (loopOf Tryz.prog 25 0) (zrHead z i) (fun st' => again (zrHead z) (znMu z) (zrG z) i Q (canon zrCS st')) (fun e st' => left Q e (canon zrCX st')) := by
 rw [show zrHead z i = zrHead' z (i : Int) (zrLast z i) from rfl]
 have hv := zr_round z i (zrLast z i) (again (zrHead z) (znMu z) (zrG z) i Q) (left Q)
 refine Eq.mpr hv ?_
 obtain ⟨⟨hi, hn⟩, hq⟩ := hG
 have ti : Int.toNat (i : Int) = i := by omega
 rw [ti]
 have nx : i < z.n → zrRowOk z i → again (zrHead z) (znMu z) (zrG z) i Q (some (zrHead' z (IntKind.wrap .i64 ((i : Int) + 1)) (z.ta i))) := fun h hr => by
  refine ⟨i + 1, by unfold znMu; omega, ⟨⟨by omega, hn⟩, ?_⟩, ?_⟩
  · have e : zrFrom z (i + 1) = zrFrom z i := by
     rw [Bool.eq_iff_iff, zrFrom_iff, zrFrom_iff]
     refine ⟨fun g j h1 h2 => ?_, fun g j h1 h2 => g j (by omega) h2⟩
     by_cases k : j = i
     · subst k; exact hr
     · exact g j (by omega) h2
    rw [e]; exact hq
  · rw [jZ (by omega)]; rfl
 have bad : i < z.n → ¬ zrRowOk z i → left Q .ret (some (zrEnd z (zrLast z i))) := fun h hr => by
  have e : zrFrom z i = false := by
   rw [← Bool.not_eq_true, zrFrom_iff]; exact fun g => hr (g i (Nat.le_refl _) h)
  rw [e] at hq
  exact ⟨_, rfl, hq _⟩
 refine kA (fun g => ?_) fun g => ?_
 · have g : i < z.n := by have := of_decide_eq_true g; omega
   refine kA (fun _ => ?_) fun k => absurd k (by simp; omega)
   refine kA (fun a => ?_) fun a => bad g fun k => of_decide_eq_false a k.1.1
   refine kA (fun b => bad g fun k => by simp at b; exact absurd k.1.2 (by omega)) fun b => ?_
   refine kA (fun c => bad g fun k => by have := of_decide_eq_true c; exact absurd k.2.1 (by omega)) fun c => ?_
   refine kA (fun d => bad g fun k => by have := of_decide_eq_true d; exact absurd k.2.2 (by omega)) fun d => ?_
   have a := of_decide_eq_true a
   have c := of_decide_eq_false c
   have d := of_decide_eq_false d
   simp at b
   exact nx g ⟨⟨a, b⟩, by omega, by omega⟩
 · have g := of_decide_eq_false g
   have e : zrFrom z i = true := zrFrom_iff.2 fun j h1 h2 => by omega
   rw [e] at hq
   obtain rfl : i = z.n := by omega
   exact ⟨_, rfl, hq⟩
theorem zr_lc (z : Zt) (i : Nat) : LcOk Tryz.prog (loopOf Tryz.prog 25 0) (lcOf zrCS (zrHead z) (zrG z) i) :=
 lc_ok (T := tab []) mixed bA (LT := noLoops) (n := 6) (noLoops_in zr_noloops) (c := zrCS) (cX := zrCX) rfl (zr_hround z) i
theorem zr_same {z : Zt} : zrFrom z 0 = true ↔ RowsOk z 0 := by
 rw [zrFrom_iff]
 constructor
 · intro h j _ hj
   have low : ∀ k, k < z.n → -1125899906842624 ≤ z.ta k := by
    intro k
    induction k with
    | zero => intro hk; have := (h 0 (by omega) hk).2.1; rw [show zrLast z 0 = -1125899906842625 from rfl] at this; omega
    | succ k ih => intro hk; have := (h (k + 1) (by omega) hk).2.1; have := ih (by omega); rw [show zrLast z (k + 1) = z.ta k from rfl] at *; omega
   obtain ⟨a, b, c⟩ := h j (by omega) hj
   refine ⟨a, ⟨low j hj, c⟩, fun hp => ?_⟩
   cases j with
   | zero => omega
   | succ j => exact b
 · intro h j _ hj
   obtain ⟨a, b, c⟩ := h j (by omega) hj
   refine ⟨a, ?_, b.2⟩
   cases j with
   | zero => rw [show zrLast z 0 = -1125899906842625 from rfl]; omega
   | succ j => exact c (by omega)
def SHOWrright (z : Zt) (A B : Prop) : Prop := isH (some (zrHead z 0)) (zrHead z 0) ∧ ((0 ≤ z.n ∧ z.n ≤ 8192) ∧ brc (zrFrom z 0) A (∀ l : Int, B))
set_option maxRecDepth 100000 in
theorem loops_rright : loopsOf Tryz.prog 25 = [loopOf Tryz.prog 25 0] := by kernel_rfl
set_option maxRecDepth 100000 in
theorem rzright_vc (z : Zt) (K : AV → Prop) : AFL (tab [(63, cyYear), (64, cyStand 0)]) (fun k => if k = 6 then some (lcOf zrCS (zrHead z) (zrG z) 0) else none) 6 25 [.agg (avZ z)] K =
 (brc (decide (Zt.off0 z ≥ -57600)) (brc (!decide (Zt.off0 z ≤ 57600)) (K (AV.bool false)) (brc (Zt.at0 z != 0) (K (AV.bool false)) (brc (decide (((Zt.n z : Nat) : Int) > 8192)) (K (AV.bool false)) (SHOWrright z (brc (!Ft.z (Zt.F z)) (K (AV.bool (Ft.z (Zt.F z) == false && (Ft.fr (Zt.F z) == 0 && (Ft.off (Zt.F z) == 0 && (Hf.m (Ft.a (Zt.F z)) == 0 && (Hf.k (Ft.a (Zt.F z)) == 0 && (Hf.w (Ft.a (Zt.F z)) == 0 && (Hf.n (Ft.a (Zt.F z)) == 0 && true)) && (Hf.s (Ft.a (Zt.F z)) == 0 && (Hf.c (Ft.a (Zt.F z)) == 0 && true) && (Hf.v (Ft.a (Zt.F z)) == 0 && (ByteArray.toList (Hf.ab (Ft.a (Zt.F z))) == ByteArray.toList (ByteArray.mk #[]) && true)))) && (Hf.m (Ft.b (Zt.F z)) == 0 && (Hf.k (Ft.b (Zt.F z)) == 0 && (Hf.w (Ft.b (Zt.F z)) == 0 && (Hf.n (Ft.b (Zt.F z)) == 0 && true)) && (Hf.s (Ft.b (Zt.F z)) == 0 && (Hf.c (Ft.b (Zt.F z)) == 0 && true) && (Hf.v (Ft.b (Zt.F z)) == 0 && (ByteArray.toList (Hf.ab (Ft.b (Zt.F z))) == ByteArray.toList (ByteArray.mk #[]) && true)))) && true))))))) (brc (decide (-9223372036854775808 ≤ Ft.fr (Zt.F z) ∧ Ft.fr (Zt.F z) ≤ 9223372036854775807)) (∀ (m0 : Int), m0 = yAt (Ft.fr (Zt.F z)) → brc (decide (-9223372036854775808 ≤ Ft.fr (Zt.F z) ∧ Ft.fr (Zt.F z) ≤ 9223372036854775807 ∧ -9223372036854775808 ≤ Hf.m (Ft.a (Zt.F z)) ∧ Hf.m (Ft.a (Zt.F z)) ≤ 9223372036854775807 ∧ -9223372036854775808 ≤ Hf.m (Ft.b (Zt.F z)) ∧ Hf.m (Ft.b (Zt.F z)) ≤ 9223372036854775807)) (∀ (m1 : Int), m1 = Tr.t (tZ (Zt.F z) (Ft.fr (Zt.F z)) (ix (Zt.F z) (Ft.fr (Zt.F z)) + 0)) → ∀ (m2 : Int), m2 = Tr.off (tZ (Zt.F z) (Ft.fr (Zt.F z)) (ix (Zt.F z) (Ft.fr (Zt.F z)) + 0)) → ∀ (m3 : Bool), m3 = Tr.dst (tZ (Zt.F z) (Ft.fr (Zt.F z)) (ix (Zt.F z) (Ft.fr (Zt.F z)) + 0)) → ∀ (m4 : Int), m4 = err2 (Zt.F z) (Ft.fr (Zt.F z)) → brc (m4 == 0) (brc (m1 == Ft.fr (Zt.F z)) (brc (decide (Ft.fr (Zt.F z) > zrLast z (Zt.n z))) (brc (decide (m0 ≥ 1800)) (K (AV.bool (decide (m0 ≤ 2110)))) (K (AV.bool false))) (K (AV.bool false))) (K (AV.bool false))) (K (AV.bool false))) False) False)) (K (AV.bool false)))))) (K (AV.bool false))) := by kernel_rfl
theorem rzright_ok {z : Zt} (hb : bdZ z.F = true) : AFL (tab [(63, cyYear), (64, cyStand 0)]) (fun k => if k = 6 then some (lcOf zrCS (zrHead z) (zrG z) 0) else none) 6 25 [.agg (avZ z)] (Res (.bool (decide (ZtOk z)))) := by
 rw [rzright_vc]
 obtain ⟨b1, b2, b3, b4, b5, b6⟩ := of_decide_eq_true hb
 have no : ¬ ZtOk z → Res (.bool (decide (ZtOk z))) (.bool false) := fun h => by rw [decide_eq_false h]; exact res_rfl rfl
 have yes : ∀ b : Bool, (b = true ↔ ZtOk z) → Res (.bool (decide (ZtOk z))) (.bool b) := fun b h => by
  have e : b = decide (ZtOk z) := by rw [Bool.eq_iff_iff, decide_eq_true_iff]; exact h
  rw [e]; exact res_rfl rfl
 refine kA (fun a1 => ?_) fun a1 => no fun k => of_decide_eq_false a1 k.1.1
 refine kA (fun a2 => no fun k => by simp at a2; have := k.1.2; omega) fun a2 => ?_
 refine kA (fun a3 => no fun k => by simp at a3; exact a3 k.2.1) fun a3 => ?_
 refine kA (fun a4 => no fun k => by simp at a4; have := k.2.2.1; omega) fun a4 => ?_
 have a1 := of_decide_eq_true a1
 simp at a2 a3 a4
 refine ⟨isH_rfl _, ⟨Nat.zero_le _, by omega⟩, ?_⟩
 refine kA (fun a5 => ?_) fun a5 => fun _ => no fun k => by
  have := zr_same.2 k.rows
  rw [a5] at this; cases this
 have a5 := zr_same.1 a5
 refine kA (fun a6 => ?_) fun a6 => ?_
 · refine yes _ ?_
   have hz : z.F.z = false := by simpa using a6
   unfold ZtOk
   rw [if_neg (by rw [hz]; simp)]
   unfold FootNo HalfNo
   simp only [hz, beq_self_eq_true, Bool.true_and, Bool.and_true, Bool.and_eq_true, beq_iff_eq, and_assoc]
   constructor
   · rintro ⟨h1, h2, h3, h4, h5, h6, h7, h8, h9, h10, h11, h12, h13, h14, h15, h16, h17, h18⟩
     exact ⟨a1, by omega, a3, by omega, a5, h1, h2, h3, h4, h5, h6, h7, h8, h9, h10, h11, h12, h13, h14, h15, h16, h17, h18⟩
   · rintro ⟨_, _, _, _, _, h1, h2, h3, h4, h5, h6, h7, h8, h9, h10, h11, h12, h13, h14, h15, h16, h17, h18⟩
     exact ⟨h1, h2, h3, h4, h5, h6, h7, h8, h9, h10, h11, h12, h13, h14, h15, h16, h17, h18⟩
 · have hz : z.F.z = true := by simpa using a6
   have fy : ZtOk z → FootYes z := fun k => k.foot hz
   refine brcT (decide_eq_true ⟨b1, b2⟩) ?_
   rintro _ rfl
   refine brcT (decide_eq_true ⟨b1, b2, b3, b4, b5, b6⟩) ?_
   rintro _ rfl _ rfl _ rfl _ rfl
   refine kA (fun c1 => ?_) fun c1 => no fun k => by
    have := err_zero.2 (fy k).1
    rw [this] at c1; cases c1
   have ha : AskOk z.F z.F.fr := err_zero.1 (by simpa using c1)
   have ht : (tZ z.F z.F.fr (ix z.F z.F.fr + 0)).t = (sI z.F (ix z.F z.F.fr)).t := by
    unfold tZ; simp only [if_pos ha]; rw [Int.add_zero]
   rw [ht]
   have hl : z.F.fr > zrLast z z.n ↔ (z.n = 0 ∨ z.ta (z.n - 1) < z.F.fr) := by
    cases hn : z.n with
    | zero =>
     rw [show zrLast z 0 = -1125899906842625 from rfl]
     refine ⟨fun _ => .inl rfl, fun _ => ?_⟩
     obtain ⟨_, _, e1, e2, e3⟩ := ask_year ha
     have := yAt_low ha.2.1
     omega
    | succ n => rw [show zrLast z (n + 1) = z.ta n from rfl]; exact ⟨fun h => .inr h, fun h => by rcases h with e | e; omega; exact e⟩
   refine kA (fun c2 => ?_) fun c2 => no fun k => by simp at c2; exact c2 (fy k).2.1
   refine kA (fun c5 => ?_) fun c5 => no fun k => of_decide_eq_false c5 (hl.2 (fy k).2.2.2.2)
   refine kA (fun c3 => ?_) fun c3 => no fun k => of_decide_eq_false c3 (fy k).2.2.1
   refine yes _ ?_
   rw [decide_eq_true_iff]
   exact ⟨fun c4 => ⟨⟨a1, by omega⟩, a3, by omega, a5, by rw [if_pos hz]; exact ⟨ha, by simpa using c2, of_decide_eq_true c3, c4, hl.1 (of_decide_eq_true c5)⟩⟩, fun k => (fy k).2.2.2.1⟩
theorem rzRight_ok : COk Tryz.prog 25 zyRight := afl_con (kB cyYearR_ok (kB cyAtR_ok bA)) (by kernel_rfl) fun args p v hc hp => by
 unfold zyRight at hc
 split at hc
 case h_2 => cases hc
 split at hc
 case h_2 => cases hc
 rename_i l _ q z hl
 simp only [Option.some.injEq, Prod.mk.injEq] at hc
 obtain ⟨rfl, rfl⟩ := hc
 subst hp
 obtain ⟨h1, h2⟩ := rdZ_move hl
 exact ⟨_, _, _, fun w A hA => rl_1 (fun V h => h2 h) hA, lt_of loops_rright (zr_lc z 0), rzright_ok h1⟩
theorem cp_move {l : List AV} {z : Zt} (e : rdZ l = some (true, z)) {ρ : Names} {W : World} {V : Value} (h : RV ρ W (.cp l 0) V) : RV ρ W (.cp (avZ z) 0) V := by
 cases h with | cp j hb hl hc =>
 have h2 := (rdZ_move e).2 (RV.agg hl)
 cases h2 with | agg h3 => exact .cp 0 hb (by simpa using h3) hc
def srKeep : List Bool := (((List.replicate 26 false).set 1 true).set 5 true).set 6 true
def srKeepX : List Bool := ((List.replicate 26 false).set 5 true)
def srCS : CS := { m := 0, keep := srKeep }
def srCX : CS := { m := 0, keep := srKeepX }
def srF (g : Nat) (z : Zt) (u : Int) : AV := .fn (.func g) [] [.cp (avZ z) 0, .cp [.int .i64 u] 0]
def srHead' (g : Nat) (z : Zt) (u i j : Int) : St := ⟨(((List.replicate 26 none).set 1 (some (srF g z u))).set 5 (some (.int .i64 i))).set 6 (some (.int .i64 j)), [], []⟩
def srEnd (i : Int) : St := ⟨(List.replicate 26 none).set 5 (some (.int .i64 i)), [], []⟩
def srMid (i j : Int) : Int := IntKind.wrap .i64 (Int.fdiv (IntKind.wrap .u64 (IntKind.wrap .i64 (i + j))) (2 ^ min (Int.toNat 1) (IntKind.bits .u64)))
def srVC (g : Nat) (z : Zt) (u i j : Int) (R : Option St → Prop) (Q : Ex → Option St → Prop) : Prop :=
 brc (decide (i < j)) (brc (decide (0 ≤ srMid i j) && decide (srMid i j < z.n)) (brc (!decide (z.ta (Int.toNat (srMid i j)) > u)) (R (some (srHead' g z u (IntKind.wrap .i64 (srMid i j + 1)) j))) (R (some (srHead' g z u i (srMid i j))))) False) (Q (.exit 0) (some (srEnd i)))
set_option maxRecDepth 100000 in
theorem sr_round1 (z : Zt) (u i j : Int) (R : Option St → Prop) (Q : Ex → Option St → Prop) : aroundN PA Tryz.prog (tab []) noLoops 6 (loopOf Tryz.prog 119 0) (srHead' 120 z u i j) (fun st => R (canon srCS st)) (fun e st => Q e (canon srCX st)) = srVC 120 z u i j R Q := by kernel_rfl
set_option maxRecDepth 100000 in
theorem sr_round2 (z : Zt) (u i j : Int) (R : Option St → Prop) (Q : Ex → Option St → Prop) : aroundN PA Tryz.prog (tab []) noLoops 6 (loopOf Tryz.prog 119 0) (srHead' 151 z u i j) (fun st => R (canon srCS st)) (fun e st => Q e (canon srCX st)) = srVC 151 z u i j R Q := by kernel_rfl
def srHead (g : Nat) (z : Zt) (u : Int) (x : Nat × Nat) : St := srHead' g z u (x.1 : Int) (x.2 : Int)
def srMu (x : Nat × Nat) : Nat := x.2 - x.1
def srG (z : Zt) (u : Int) (x : Nat × Nat) (Q : Ex → St → Prop) : Prop := (x.1 ≤ kz z u z.n ∧ kz z u z.n ≤ x.2 ∧ x.2 ≤ z.n ∧ z.n ≤ 8192 ∧ RowsOk z 0) ∧ Q (.exit 0) (srEnd (kz z u z.n))
theorem srMid_eq {i j : Nat} (h : i + j ≤ 16384) : srMid i j = (((i + j) / 2 : Nat) : Int) := by
 unfold srMid
 have e1 : IntKind.wrap .i64 ((i : Int) + j) = (i + j : Nat) := by rw [jZ (by omega)]; omega
 have e2 : IntKind.wrap .u64 (((i + j : Nat) : Int)) = ((i + j : Nat) : Int) := by
  have : IntKind.wrap .u64 (((i + j : Nat) : Int)) = ((i + j : Nat) : Int) % 18446744073709551616 := by simp [IntKind.wrap, IntKind.bits, IntKind.signed]
  omega
 rw [e1, e2, show (2 : Int) ^ min (Int.toNat 1) (IntKind.bits .u64) = 2 by decide, Int.fdiv_eq_ediv_of_nonneg _ (by omega), jZ (by omega)]
 omega
theorem sr_step {g : Nat} {z : Zt} {u : Int} {x : Nat × Nat} {Q : Ex → St → Prop} (hG : srG z u x Q) : srVC g z u (x.1 : Int) (x.2 : Int) (again (srHead g z u) srMu (srG z u) x Q) (left Q) := by
 obtain ⟨i, j⟩ := x
 obtain ⟨⟨h1, h2, h3, h4, h5⟩, hq⟩ := hG
 simp only at h1 h2 h3
 unfold srVC
 simp only
 refine kA (fun a => ?_) fun a => ?_
 · have a := of_decide_eq_true a
   have hij : i < j := by omega
   rw [srMid_eq (by omega)]
   refine brcT (by simp; omega) ?_
   rw [Int.toNat_natCast]
   have iff := kz_iff h5 u z.n ((i + j) / 2) (Nat.le_refl _) (by omega)
   refine kA (fun b => ?_) fun b => ?_
   · simp at b
     have := iff.2 b
     refine ⟨((i + j) / 2 + 1, j), by unfold srMu; simp only; omega, ⟨⟨by simp only; omega, h2, h3, h4, h5⟩, hq⟩, ?_⟩
     rw [jZ (by omega)]; rfl
   · simp at b
     have : ¬ ((i + j) / 2 < kz z u z.n) := fun q => by have := iff.1 q; omega
     exact ⟨(i, (i + j) / 2), by unfold srMu; simp only; omega, ⟨⟨h1, by simp only; omega, by simp only; omega, h4, h5⟩, hq⟩, rfl⟩
 · have a := of_decide_eq_false a
   have e : i = kz z u z.n := by omega
   refine ⟨_, rfl, ?_⟩
   rw [e]; exact hq
set_option maxRecDepth 100000 in
theorem sr_noloops : Code.loops (loopOf Tryz.prog 119 0) = [] := by kernel_rfl
set_option maxRecDepth 100000 in
theorem loops_sr : loopsOf Tryz.prog 119 = [loopOf Tryz.prog 119 0] := by kernel_rfl
theorem sr_hround1 (z : Zt) (u : Int) (x : Nat × Nat) (Q : Ex → St → Prop) (hG : srG z u x Q) : aroundN PA Tryz.prog (tab []) noLoops 6 (loopOf Tryz.prog 119 0) (srHead 120 z u x) (fun st' => again (srHead 120 z u) srMu (srG z u) x Q (canon srCS st')) (fun e st' => left Q e (canon srCX st')) := by
 have hv := sr_round1 z u (x.1 : Int) (x.2 : Int) (again (srHead 120 z u) srMu (srG z u) x Q) (left Q)
 exact Eq.mpr hv (sr_step hG)
theorem sr_hround2 (z : Zt) (u : Int) (x : Nat × Nat) (Q : Ex → St → Prop) (hG : srG z u x Q) : aroundN PA Tryz.prog (tab []) noLoops 6 (loopOf Tryz.prog 119 0) (srHead 151 z u x) (fun st' => again (srHead 151 z u) srMu (srG z u) x Q (canon srCS st')) (fun e st' => left Q e (canon srCX st')) := by
 have hv := sr_round2 z u (x.1 : Int) (x.2 : Int) (again (srHead 151 z u) srMu (srG z u) x Q) (left Q)
 exact Eq.mpr hv (sr_step hG)
theorem sr_lc1 (z : Zt) (u : Int) (x : Nat × Nat) : LcOk Tryz.prog (loopOf Tryz.prog 119 0) (lcOf srCS (srHead 120 z u) (srG z u) x) :=
 lc_ok (T := tab []) mixed bA (LT := noLoops) (n := 6) (noLoops_in sr_noloops) (c := srCS) (cX := srCX) rfl (sr_hround1 z u) x
theorem sr_lc2 (z : Zt) (u : Int) (x : Nat × Nat) : LcOk Tryz.prog (loopOf Tryz.prog 119 0) (lcOf srCS (srHead 151 z u) (srG z u) x) :=
 lc_ok (T := tab []) mixed bA (LT := noLoops) (n := 6) (noLoops_in sr_noloops) (c := srCS) (cX := srCX) rfl (sr_hround2 z u) x
def srW (g : Nat) (z : Zt) (u : Int) (K : AV → Prop) : Prop := isH (some (srHead g z u (0, z.n))) (srHead g z u (0, z.n)) ∧ ((0 ≤ kz z u z.n ∧ kz z u z.n ≤ z.n ∧ z.n ≤ z.n ∧ z.n ≤ 8192 ∧ RowsOk z 0) ∧ K (.int .i64 (kz z u z.n)))
set_option maxRecDepth 100000 in
theorem sr_vc1 (z : Zt) (u : Int) (K : AV → Prop) : AFL (tab []) (fun k => if k = 3 then some (lcOf srCS (srHead 120 z u) (srG z u) (0, z.n)) else none) 6 119 [.int .i64 z.n, srF 120 z u] K = srW 120 z u K := by kernel_rfl
set_option maxRecDepth 100000 in
theorem sr_vc2 (z : Zt) (u : Int) (K : AV → Prop) : AFL (tab []) (fun k => if k = 3 then some (lcOf srCS (srHead 151 z u) (srG z u) (0, z.n)) else none) 6 119 [.int .i64 z.n, srF 151 z u] K = srW 151 z u K := by kernel_rfl
theorem zySearch_ok : COk Tryz.prog 119 zySearch := afl_con bA (by kernel_rfl) fun args p v hc hp => by
 unfold zySearch at hc
 split at hc
 case h_2 => cases hc
 rename_i n g l u
 split at hc
 case isFalse => cases hc
 rename_i hg
 split at hc
 case h_2 => cases hc
 rename_i q z hl
 simp only [Option.some.injEq, Prod.mk.injEq] at hc
 obtain ⟨rfl, rfl⟩ := hc
 rw [Bool.and_eq_true] at hp
 obtain ⟨rfl, hq⟩ := hp
 obtain ⟨h1, h2, h3⟩ := of_decide_eq_true hq
 subst h2
 have mv : ∀ w A, RL noNames w [.int .i64 z.n, .fn (.func g) [] [.cp l 0, .cp [.int .i64 u] 0]] A → RL noNames w [.int .i64 z.n, srF g z u] A := fun w A hA => by
  cases hA with | cons a0 hA =>
  cases hA with | cons a1 hA =>
  cases a1 with | fn f ha hb =>
  cases hb with | cons b0 hb =>
  exact .cons a0 (.cons (.fn _ ha (.cons (cp_move hl b0) hb)) hA)
 have hw : srW g z u (Res (.int .i64 (kz z u z.n))) := ⟨isH_rfl _, ⟨Nat.zero_le _, kz_le _ _ _, Nat.le_refl _, h3, h1⟩, res_rfl rfl⟩
 rcases hg with rfl | rfl
 · exact ⟨_, 6, _, mv, lt_of loops_sr (sr_lc1 z u (0, z.n)), by rw [sr_vc1]; exact hw⟩
 · exact ⟨_, 6, _, mv, lt_of loops_sr (sr_lc2 z u (0, z.n)), by rw [sr_vc2]; exact hw⟩
set_option maxRecDepth 100000 in
theorem zat0_vc (z : Zt) (u : Int) (K : AV → Prop) : AFL (tab [(93, cyStand 0), (119, zySearch)]) (noLoops) 3 80 [.agg (avZ z), .int .i64 u] K =
 (brc (Ft.z (Zt.F z)) (brc (decide (u ≥ Ft.fr (Zt.F z))) (brc (decide (-9223372036854775808 ≤ u ∧ u ≤ 9223372036854775807 ∧ -9223372036854775808 ≤ Hf.m (Ft.a (Zt.F z)) ∧ Hf.m (Ft.a (Zt.F z)) ≤ 9223372036854775807 ∧ -9223372036854775808 ≤ Hf.m (Ft.b (Zt.F z)) ∧ Hf.m (Ft.b (Zt.F z)) ≤ 9223372036854775807)) (∀ (m0 : Int), m0 = Tr.t (tZ (Zt.F z) u (ix (Zt.F z) u + 0)) → ∀ (m1 : Int), m1 = Tr.off (tZ (Zt.F z) u (ix (Zt.F z) u + 0)) → ∀ (m2 : Bool), m2 = Tr.dst (tZ (Zt.F z) u (ix (Zt.F z) u + 0)) → ∀ (m3 : Int), m3 = err2 (Zt.F z) u → K (AV.agg [AV.int IntKind.i64 m0, AV.int IntKind.i64 m1, AV.bool m2, AV.str (Tr.ab (tZ (Zt.F z) u (ix (Zt.F z) u + 0)))])) False) (brc (tyR (Zt.n z) (znRow z) && bdZ (Zt.F z) && decide (RowsOk z 0 ∧ ((Zt.n z : Nat) : Int) = ((Zt.n z : Nat) : Int) ∧ Zt.n z ≤ 8192)) (∀ (m0 : Int), m0 = ((kz z u (Zt.n z) : Nat) : Int) → brc (m0 == 0) (K (AV.agg [AV.int IntKind.i64 (Zt.at0 z), AV.int IntKind.i64 (Zt.off0 z), AV.bool (Zt.d0 z), AV.str (Zt.b0 z)])) (brc (decide (0 ≤ IntKind.wrap IntKind.i64 (m0 - 1)) && decide (IntKind.wrap IntKind.i64 (m0 - 1) < ((Zt.n z : Nat) : Int))) (K (AV.agg [AV.int IntKind.i64 (Zt.ta z (Int.toNat (IntKind.wrap IntKind.i64 (m0 - 1)))), AV.int IntKind.i64 (Zt.tf z (Int.toNat (IntKind.wrap IntKind.i64 (m0 - 1)))), AV.bool (Zt.td z (Int.toNat (IntKind.wrap IntKind.i64 (m0 - 1)))), AV.str (Zt.tb z (Int.toNat (IntKind.wrap IntKind.i64 (m0 - 1))))])) False)) False)) (brc (tyR (Zt.n z) (znRow z) && bdZ (Zt.F z) && decide (RowsOk z 0 ∧ ((Zt.n z : Nat) : Int) = ((Zt.n z : Nat) : Int) ∧ Zt.n z ≤ 8192)) (∀ (m0 : Int), m0 = ((kz z u (Zt.n z) : Nat) : Int) → brc (m0 == 0) (K (AV.agg [AV.int IntKind.i64 (Zt.at0 z), AV.int IntKind.i64 (Zt.off0 z), AV.bool (Zt.d0 z), AV.str (Zt.b0 z)])) (brc (decide (0 ≤ IntKind.wrap IntKind.i64 (m0 - 1)) && decide (IntKind.wrap IntKind.i64 (m0 - 1) < ((Zt.n z : Nat) : Int))) (K (AV.agg [AV.int IntKind.i64 (Zt.ta z (Int.toNat (IntKind.wrap IntKind.i64 (m0 - 1)))), AV.int IntKind.i64 (Zt.tf z (Int.toNat (IntKind.wrap IntKind.i64 (m0 - 1)))), AV.bool (Zt.td z (Int.toNat (IntKind.wrap IntKind.i64 (m0 - 1)))), AV.str (Zt.tb z (Int.toNat (IntKind.wrap IntKind.i64 (m0 - 1))))])) False)) False)) := by kernel_rfl
theorem tyZ (z : Zt) (h : bdZ z.F = true) : (tyR z.n (znRow z) && bdZ z.F) = true := by rw [tyR_row, h]; rfl
theorem dec6 {F : Ft} {u : Int} (h : bdZ F = true) (h1 : -9223372036854775808 ≤ u) (h2 : u ≤ 9223372036854775807) : decide (-9223372036854775808 ≤ u ∧ u ≤ 9223372036854775807 ∧ -9223372036854775808 ≤ F.a.m ∧ F.a.m ≤ 9223372036854775807 ∧ -9223372036854775808 ≤ F.b.m ∧ F.b.m ≤ 9223372036854775807) = true := by
 obtain ⟨_, _, b3, b4, b5, b6⟩ := of_decide_eq_true h
 exact decide_eq_true ⟨h1, h2, b3, b4, b5, b6⟩
theorem zat0_ok {z : Zt} {u : Int} (hb : bdZ z.F = true) (hz : ZtOk z) (ha : Asked u) (h1 : -9223372036854775808 ≤ u) (h2 : u ≤ 9223372036854775807) : AFL (tab [(93, cyStand 0), (119, zySearch)]) noLoops 3 80 [.agg (avZ z), .int .i64 u] (Res (.agg (avT (atZ z u)))) := by
 rw [zat0_vc]
 have rows : ∀ (k : Int), k = ((kz z u z.n : Nat) : Int) → ¬ (z.F.z = true ∧ z.F.fr ≤ u) → brc (k == 0) (Res (.agg (avT (atZ z u))) (AV.agg [AV.int IntKind.i64 (Zt.at0 z), AV.int IntKind.i64 (Zt.off0 z), AV.bool (Zt.d0 z), AV.str (Zt.b0 z)])) (brc (decide (0 ≤ IntKind.wrap IntKind.i64 (k - 1)) && decide (IntKind.wrap IntKind.i64 (k - 1) < ((Zt.n z : Nat) : Int))) (Res (.agg (avT (atZ z u))) (AV.agg [AV.int IntKind.i64 (Zt.ta z (Int.toNat (IntKind.wrap IntKind.i64 (k - 1)))), AV.int IntKind.i64 (Zt.tf z (Int.toNat (IntKind.wrap IntKind.i64 (k - 1)))), AV.bool (Zt.td z (Int.toNat (IntKind.wrap IntKind.i64 (k - 1)))), AV.str (Zt.tb z (Int.toNat (IntKind.wrap IntKind.i64 (k - 1))))])) False) := fun k hk hf => by
  have hle := kz_le z u z.n
  have hn := hz.2.2.1
  have e0 : atZ z u = rowTr z (kz z u z.n) := by unfold atZ; rw [if_neg hf]
  rw [e0]
  generalize kz z u z.n = m at *
  subst hk
  refine kA (fun a => ?_) fun a => ?_
  · have : m = 0 := by simpa using a
    subst this
    exact res_rfl rfl
  · have hm : 0 < m := by simp at a; omega
    rw [show IntKind.wrap .i64 ((m : Int) - 1) = ((m - 1 : Nat) : Int) by rw [jZ (by omega)]; omega]
    refine brcT (by simp; omega) ?_
    rw [Int.toNat_natCast]
    unfold rowTr
    rw [if_neg (by omega)]
    exact res_rfl rfl
 have find : decide (RowsOk z 0 ∧ ((Zt.n z : Nat) : Int) = ((Zt.n z : Nat) : Int) ∧ Zt.n z ≤ 8192) = true := decide_eq_true ⟨hz.rows, rfl, hz.2.2.1⟩
 refine kA (fun a => ?_) fun a => ?_
 · refine kA (fun b => ?_) fun b => ?_
   · refine brcT (dec6 hb h1 h2) ?_
     rintro _ rfl _ rfl _ rfl _ rfl
     have b := of_decide_eq_true b
     have hk : AskOk z.F u := ⟨(hz.foot a).1.1, ha.1, ha.2⟩
     have e0 : atZ z u = tZ z.F u (ix z.F u + 0) := by
      unfold atZ tZ; rw [if_pos ⟨a, b⟩]; simp only [if_pos hk]; rw [Int.add_zero]
     rw [e0]
     exact res_rfl rfl
   · refine brcT (by rw [tyZ z hb, find]; rfl) fun k hk => rows k hk fun q => of_decide_eq_false b q.2
 · refine brcT (by rw [tyZ z hb, find]; rfl) fun k hk => rows k hk fun q => by rw [q.1] at a; cases a
theorem zyAt0_ok : COk Tryz.prog 80 zyAt0 := afl_con (kB cyAtF_ok (kB zySearch_ok bA)) (by kernel_rfl) fun args p v hc hp => by
 unfold zyAt0 at hc
 split at hc
 case h_2 => cases hc
 split at hc
 case h_2 => cases hc
 rename_i u _ q z hl
 simp only [Option.some.injEq, Prod.mk.injEq] at hc
 obtain ⟨rfl, rfl⟩ := hc
 rw [Bool.and_eq_true] at hp
 obtain ⟨rfl, hq⟩ := hp
 obtain ⟨h1, h2, h3, h4⟩ := of_decide_eq_true hq
 obtain ⟨k1, k2⟩ := rdZ_move hl
 exact ⟨_, _, _, fun w A hA => rl_1 (fun V h => k2 h) hA, ltOk_none _ _, zat0_ok k1 h1 h2 h3 h4⟩
set_option maxRecDepth 100000 in
theorem zat_vc (z : Zt) (u : Int) (K : AV → Prop) : AFL (tab [(49, zyRight), (80, zyAt0), (92, cyYear)]) (noLoops) 6 39 [.agg (avZ z), .int .i64 u] K =
 (brc (tyR (Zt.n z) (znRow z) && bdZ (Zt.F z)) (∀ (m0 : Bool), m0 = decide (ZtOk z) → brc (!m0) (K (AV.tup [AV.agg [AV.int IntKind.i64 0, AV.int IntKind.i64 0, AV.bool false, AV.str (ByteArray.mk #[])], AV.int IntKind.i64 1])) (brc (decide (-9223372036854775808 ≤ u ∧ u ≤ 9223372036854775807)) (∀ (m1 : Int), m1 = yAt u → brc (decide (m1 ≥ -4714)) (brc (!decide (m1 ≤ 294278)) (K (AV.tup [AV.agg [AV.int IntKind.i64 0, AV.int IntKind.i64 0, AV.bool false, AV.str (ByteArray.mk #[])], AV.int IntKind.i64 10])) (brc (tyR (Zt.n z) (znRow z) && bdZ (Zt.F z) && decide (ZtOk z ∧ Asked u ∧ -9223372036854775808 ≤ u ∧ u ≤ 9223372036854775807)) (∀ (m2 : Int), m2 = Tr.t (atZ z u) → ∀ (m3 : Int), m3 = Tr.off (atZ z u) → ∀ (m4 : Bool), m4 = Tr.dst (atZ z u) → K (AV.tup [AV.agg [AV.int IntKind.i64 m2, AV.int IntKind.i64 m3, AV.bool m4, AV.str (Tr.ab (atZ z u))], AV.int IntKind.i64 0])) False)) (K (AV.tup [AV.agg [AV.int IntKind.i64 0, AV.int IntKind.i64 0, AV.bool false, AV.str (ByteArray.mk #[])], AV.int IntKind.i64 10]))) False)) False) := by kernel_rfl
theorem zErr_ok {z : Zt} {u : Int} (h : ZtOk z) (k : Asked u) : zErr z u = 0 := by unfold zErr; rw [if_pos h, if_pos k]
theorem atE_ok {z : Zt} {u : Int} (h : ZtOk z) (k : Asked u) : atE z u = atZ z u := by unfold atE; simp only [zErr_ok h k, if_true]
theorem atE_no {z : Zt} {u : Int} (h : zErr z u ≠ 0) : atE z u = ⟨0, 0, false, ⟨#[]⟩⟩ := by unfold atE; simp only [if_neg h]
theorem zat_ok {z : Zt} {u : Int} (hb : bdZ z.F = true) (h1 : -9223372036854775808 ≤ u) (h2 : u ≤ 9223372036854775807) : AFL (tab [(49, zyRight), (80, zyAt0), (92, cyYear)]) noLoops 6 39 [.agg (avZ z), .int .i64 u] (Res (.tup [.agg (avT (atE z u)), .int .i64 (zErr z u)])) := by
 rw [zat_vc]
 have no : ∀ e : Int, zErr z u = e → e ≠ 0 → Res (.tup [.agg (avT (atE z u)), .int .i64 (zErr z u)]) (AV.tup [AV.agg [AV.int IntKind.i64 0, AV.int IntKind.i64 0, AV.bool false, AV.str (ByteArray.mk #[])], AV.int IntKind.i64 e]) := fun e he h => by
  rw [atE_no (by rw [he]; exact h), he]; exact res_rfl rfl
 refine brcT (tyZ z hb) ?_
 rintro _ rfl
 refine kA (fun a => ?_) fun a => ?_
 · exact no 1 (by unfold zErr; rw [if_neg (by simpa using a)]) (by omega)
 have hz : ZtOk z := by simpa using a
 refine brcT (decide_eq_true ⟨h1, h2⟩) ?_
 rintro _ rfl
 have far : ¬ Asked u → Res (.tup [.agg (avT (atE z u)), .int .i64 (zErr z u)]) (AV.tup [AV.agg [AV.int IntKind.i64 0, AV.int IntKind.i64 0, AV.bool false, AV.str (ByteArray.mk #[])], AV.int IntKind.i64 10]) := fun h => no 10 (by unfold zErr; rw [if_pos hz, if_neg h]) (by omega)
 refine kA (fun b => ?_) fun b => far fun q => of_decide_eq_false b q.1
 refine kA (fun c => far fun q => by simp at c; have := q.2; omega) fun c => ?_
 have hk : Asked u := ⟨of_decide_eq_true b, by simpa using c⟩
 refine brcT (by rw [tyZ z hb, decide_eq_true (show ZtOk z ∧ Asked u ∧ -9223372036854775808 ≤ u ∧ u ≤ 9223372036854775807 from ⟨hz, hk, h1, h2⟩)]; rfl) ?_
 rintro _ rfl _ rfl _ rfl
 rw [atE_ok hz hk, zErr_ok hz hk]
 exact res_rfl rfl
theorem zyAt_ok : COk Tryz.prog 39 zyAt := afl_con (kB zyRight_ok (kB zyAt0_ok (kB cyYear_ok bA))) (by kernel_rfl) fun args p v hc hp => by
 unfold zyAt at hc
 split at hc
 case h_2 => cases hc
 split at hc
 case h_2 => cases hc
 rename_i u _ q z hl
 simp only [Option.some.injEq, Prod.mk.injEq] at hc
 obtain ⟨rfl, rfl⟩ := hc
 rw [Bool.and_eq_true] at hp
 obtain ⟨rfl, hq⟩ := hp
 obtain ⟨h3, h4⟩ := of_decide_eq_true hq
 obtain ⟨k1, k2⟩ := rdZ_move hl
 exact ⟨_, _, _, fun w A hA => rl_1 (fun V h => k2 h) hA, ltOk_none _ _, zat_ok k1 h3 h4⟩
def n10 (l : List (Option AV)) : List (Option AV) := none :: none :: none :: none :: none :: none :: none :: none :: none :: none :: l
def Code.rf : Code → Option (Code × Code)
 | .rangeFunc _ _ a b => some (a, b)
 | .seq x y => match Code.rf x with
  | some r => some r
  | none => Code.rf y
 | .cond _ x y => match Code.rf x with
  | some r => some r
  | none => Code.rf y
 | .block _ x => Code.rf x
 | .loop x => Code.rf x
 | _ => none
noncomputable def rfA (f : Nat) : Code := match ((Tryz.prog.funcs[f]?).bind (·.body)).bind Code.rf with
 | some p => p.1
 | none => .skip
noncomputable def rfB (f : Nat) : Code := match ((Tryz.prog.funcs[f]?).bind (·.body)).bind Code.rf with
 | some p => p.2
 | none => .skip
def in13 : List (Option AV) := (none :: none :: none :: some (.ptr 1 0 0 0) :: none :: none :: none :: none :: none :: some (.ptr 7 0 0 0) :: some (.ptr 8 0 0 0) :: n10 (n10 (n10 (n10 (n10 (n10 (n10 (none :: []))))))))
def in19 : List (Option AV) := (none :: some (.ptr 9 0 0 0) :: some (.ptr 10 0 0 0) :: some (.ptr 11 0 0 0) :: some (.ptr 14 0 0 0) :: n10 (n10 (none :: none :: none :: none :: none :: none :: none :: [])))
def inK13 : List Bool := (((List.replicate 82 false).set 3 true).set 9 true).set 10 true
def inK19 : List Bool := ((((List.replicate 32 false).set 1 true).set 2 true).set 3 true).set 4 true
def inKs (n : Nat) : List Bool := match n with
 | 13 => inK13
 | 19 => inK19
 | _ => []
noncomputable def inHeap (z : Zt) (u a b fr l0 l1 l2 : Int) (m : Ob) (r : Heap) : Heap :=
 some (.cells (avZ z)) :: some (.cells [.int .i64 u]) :: some (.own true 2 1 [.int .i64 u]) :: some (.cells (avZ z)) :: some (.own true 2 1 [.int .i64 a, .int .i64 b]) :: some (.cells (avZ z)) :: some m :: some (.cells [.mp 6]) :: some (.cells [.int .i64 l0, .int .i64 l1, .int .i64 l2]) ::
  some (.cells (avZ z)) :: some (.cells [.int .i64 fr]) :: some (.cells [.int .i64 b]) :: some .dfr :: some (.loop .ready none in13 [38] (rfA 36) (rfB 36)) :: some (.cells [.yl 13]) :: some (.cells (avZ z)) :: some (.cells [.int .i64 a]) :: some (.cells [.int .i64 b]) :: some .dfr ::
  some (.loop .ready none in19 [10] (rfA 114) (rfB 114)) :: r
def inM : Option (Nat × (Nat → Int)) → Ob
 | none => .mapo [] 0
 | some (n, c) => .mapo [(.int .i64 0, .gs 20 1 n)] 1
def cI (g : Nat → Int) : Nat → Nat → AV := fun i _ => .int .i64 (g i)
def inR : Option (Nat × (Nat → Int)) → Heap
 | none => []
 | some (n, g) => [some (.vec 2 1 n (cI g))]
def inT1 (k : Int) : List (Option AV) := (some (.yl 19) :: some (.ptr 15 0 0 0) :: some (.ptr 16 0 0 0) :: some (.ptr 17 0 0 0) :: none :: some (.int .i64 k) :: n10 (n10 (n10 (n10 (n10 (n10 (n10 (none :: []))))))))
def inTX : List (Option AV) := (some (.yl 19) :: some (.ptr 15 0 0 0) :: some (.ptr 16 0 0 0) :: some (.ptr 17 0 0 0) :: n10 (n10 (n10 (n10 (n10 (n10 (n10 (none :: none :: none :: []))))))))
def inKeep1 : List Bool := (((((List.replicate 77 false).set 0 true).set 1 true).set 2 true).set 3 true).set 5 true
def inKeepX : List Bool := ((((List.replicate 77 false).set 0 true).set 1 true).set 2 true).set 3 true
def inCS1 : CS := { m := 20, keep := inKeep1, maps := [6], ks := inKs }
def inCX : CS := { m := 20, keep := inKeepX, maps := [6], ks := inKs }
noncomputable def inH1 (z : Zt) (u a b k fr l0 l1 l2 : Int) (f : Option (Nat × (Nat → Int))) : St := ⟨inT1 k, inHeap z u a b fr l0 l1 l2 (inM f) (inR f), []⟩
noncomputable def inX (z : Zt) (u a b fr l0 l1 l2 : Int) (f : Option (Nat × (Nat → Int))) : St := ⟨inTX, inHeap z u a b fr l0 l1 l2 (inM f) (inR f), []⟩
structure Ac where
 fr : Int
 l0 : Int
 l1 : Int
 l2 : Int
 f : Option (Nat × (Nat → Int))
def acPush (f : Option (Nat × (Nat → Int))) (w : Int) : Option (Nat × (Nat → Int)) := match f with
 | none => some (1, fun _ => w)
 | some (n, g) => some (n + 1, fun i => if decide (i < n) = true then g i else w)
noncomputable def acS (z : Zt) (u t : Int) (s : Ac) : Ac :=
 ⟨t, if s.fr < u - (atZ z s.fr).off then s.fr else s.l0, if s.fr < u - (atZ z s.fr).off then t - 1 else s.l1, if s.fr < u - (atZ z s.fr).off then (atZ z s.fr).off else s.l2, if s.fr ≤ u - (atZ z s.fr).off ∧ u - (atZ z s.fr).off ≤ t - 1 then acPush s.f (u - (atZ z s.fr).off) else s.f⟩
noncomputable def acR (z : Zt) (u : Int) : Nat → Nat → Ac → Ac
 | 0, _, s => s
 | m + 1, k, s => acR z u m (k + 1) (acS z u (z.ta k) s)
noncomputable def acF (z : Zt) (u : Int) : Nat → Int → Ac → Ac
 | 0, _, s => s
 | m + 1, i, s => acF z u m (i + 1) (acS z u (sI z.F (i + 1)).t s)
def inT2 (k : Int) : List (Option AV) := (some (.yl 19) :: some (.ptr 15 0 0 0) :: some (.ptr 16 0 0 0) :: some (.ptr 17 0 0 0) :: none :: none :: some (.int .i64 k) :: n10 (n10 (n10 (n10 (n10 (n10 (n10 ([]))))))))
def inKeep2 : List Bool := (((((List.replicate 77 false).set 0 true).set 1 true).set 2 true).set 3 true).set 6 true
def inCS2 : CS := { m := 20, keep := inKeep2, roots := [], maps := [6], ks := inKs }
def inCY : CS := { m := 20, keep := List.replicate 77 false, maps := [6], ks := inKs }
def inTY : List (Option AV) := (n10 (n10 (n10 (n10 (n10 (n10 (n10 (none :: none :: none :: none :: none :: none :: none :: []))))))))
noncomputable def inH2 (z : Zt) (u a b k fr l0 l1 l2 : Int) (f : Option (Nat × (Nat → Int))) : St := ⟨inT2 k, inHeap z u a b fr l0 l1 l2 (inM f) (inR f), []⟩
noncomputable def inY (z : Zt) (u a b fr l0 l1 l2 : Int) (f : Option (Nat × (Nat → Int))) : St := ⟨inTY, inHeap z u a b fr l0 l1 l2 (inM f) (inR f), []⟩
def inCS3 : CS := { m := 21, keep := inKeep2, maps := [6], ks := inKs, mv := [20] }
def inCZ : CS := { m := 21, keep := List.replicate 77 false, maps := [6], ks := inKs, mv := [20] }
def inM3 (n : Nat) : Ob := .mapo [(.int .i64 0, .gs 21 1 n)] 1
def inR3 (n : Nat) (g : Nat → Int) : Heap := [some .dead, some (.vec 2 1 n (cI g))]
noncomputable def inH3 (z : Zt) (u a b k fr l0 l1 l2 : Int) (n : Nat) (g : Nat → Int) : St := ⟨inT2 k, inHeap z u a b fr l0 l1 l2 (inM3 n) (inR3 n g), []⟩
noncomputable def inZ (z : Zt) (u a b fr l0 l1 l2 : Int) (n : Nat) (g : Nat → Int) : St := ⟨inTY, inHeap z u a b fr l0 l1 l2 (inM3 n) (inR3 n g), []⟩
noncomputable def inHf (z : Zt) (u a b k fr l0 l1 l2 : Int) (f : Option (Nat × (Nat → Int))) : St := match f with
 | some (n, g) => inH3 z u a b k fr l0 l1 l2 n g
 | none => inH3 z u a b k fr l0 l1 l2 0 fun _ => 0
def inLess (u fr e m l0 l1 l2 : Int) (K : Int → Int → Int → Prop) : Prop := brc (decide (fr < IntKind.wrap .i64 (u - m))) (K fr e m) (K l0 l1 l2)
def inPush (f : Option (Nat × (Nat → Int))) (w : Int) (K : Option (Nat × (Nat → Int)) → Prop) : Prop := match f with
 | none => K (some (1, fun _ => w))
 | some (n, g) => brc (Nat.beq n n && roomB (n + 1) 8) (K (some (n + 1, fun i => if decide (i < n) = true then g i else w))) False
def inStep (z : Zt) (u fr e l0 l1 l2 : Int) (f : Option (Nat × (Nat → Int))) (K : Option (Nat × (Nat → Int)) → Int → Int → Int → Prop) : Prop :=
 brc (tyR z.n (znRow z) && bdZ z.F && decide (ZtOk z ∧ Asked fr ∧ -9223372036854775808 ≤ fr ∧ fr ≤ 9223372036854775807)) (∀ m0 : Int, m0 = (atZ z fr).t → ∀ m1 : Int, m1 = (atZ z fr).off → ∀ m2 : Bool, m2 = (atZ z fr).dst →
  brc (decide (IntKind.wrap .i64 (u - m1) ≥ fr)) (brc (decide (IntKind.wrap .i64 (u - m1) ≤ e)) (inPush f (IntKind.wrap .i64 (u - m1)) fun f' => inLess u fr e m1 l0 l1 l2 (K f')) (inLess u fr e m1 l0 l1 l2 (K f))) (inLess u fr e m1 l0 l1 l2 (K f))) False
def inVC1 (z : Zt) (u a b k fr l0 l1 l2 : Int) (f : Option (Nat × (Nat → Int))) (R : Option St → Prop) (Q : Ex → Option St → Prop) : Prop :=
 brc (decide (k < z.n)) (brc (decide (0 ≤ k) && decide (k < z.n)) (brc (decide (z.ta (Int.toNat k) ≤ b)) (brc (decide (0 ≤ k) && decide (k < z.n)) (inStep z u fr (IntKind.wrap .i64 (z.ta (Int.toNat k) - 1)) l0 l1 l2 f fun f' x y w => R (some (inH1 z u a b (IntKind.wrap .i64 (k + 1)) (z.ta (Int.toNat k)) x y w f'))) False) (Q (.exit 0) (some (inX z u a b fr l0 l1 l2 f)))) False) (Q (.exit 0) (some (inX z u a b fr l0 l1 l2 f)))
def inVC2 (z : Zt) (u a b k fr l0 l1 l2 : Int) (f : Option (Nat × (Nat → Int))) (R : Option St → Prop) (Q : Ex → Option St → Prop) : Prop :=
 brc (decide (k < b)) (brc (decide (-9223372036854775808 ≤ k ∧ k ≤ 9223372036854775807 ∧ -9223372036854775808 ≤ z.F.a.m ∧ z.F.a.m ≤ 9223372036854775807 ∧ -9223372036854775808 ≤ z.F.b.m ∧ z.F.b.m ≤ 9223372036854775807)) (∀ t : Int, t = (tZ z.F k (ix z.F k + 1)).t → ∀ o : Int, o = (tZ z.F k (ix z.F k + 1)).off → ∀ d : Bool, d = (tZ z.F k (ix z.F k + 1)).dst → ∀ e : Int, e = err2 z.F k →
  brc (e != 0) (Q .ret (some (inY z u a b fr l0 l1 l2 f))) (brc (decide (t > b)) (Q .ret (some (inY z u a b fr l0 l1 l2 f))) (inStep z u fr (IntKind.wrap .i64 (t - 1)) l0 l1 l2 f fun f' x y w => R (some (inH2 z u a b t t x y w f'))))) False) (Q (.exit 2) (some (inY z u a b fr l0 l1 l2 f)))
def inSome (f : Option (Nat × (Nat → Int))) (K : Nat → (Nat → Int) → Prop) : Prop := match f with
 | some (n, g) => K n g
 | none => False
def inVC3 (z : Zt) (u a b k fr l0 l1 l2 : Int) (n : Nat) (g : Nat → Int) (R : Option St → Prop) (Q : Ex → Option St → Prop) : Prop :=
 brc (decide (k < b)) (brc (decide (-9223372036854775808 ≤ k ∧ k ≤ 9223372036854775807 ∧ -9223372036854775808 ≤ z.F.a.m ∧ z.F.a.m ≤ 9223372036854775807 ∧ -9223372036854775808 ≤ z.F.b.m ∧ z.F.b.m ≤ 9223372036854775807)) (∀ t : Int, t = (tZ z.F k (ix z.F k + 1)).t → ∀ o : Int, o = (tZ z.F k (ix z.F k + 1)).off → ∀ d : Bool, d = (tZ z.F k (ix z.F k + 1)).dst → ∀ e : Int, e = err2 z.F k →
  brc (e != 0) (Q .ret (some (inZ z u a b fr l0 l1 l2 n g))) (brc (decide (t > b)) (Q .ret (some (inZ z u a b fr l0 l1 l2 n g))) (inStep z u fr (IntKind.wrap .i64 (t - 1)) l0 l1 l2 (some (n, g)) fun f' x y w => inSome f' fun n' g' => R (some (inH3 z u a b t t x y w n' g'))))) False) (Q (.exit 2) (some (inZ z u a b fr l0 l1 l2 n g)))
set_option maxRecDepth 100000 in
theorem in_round1a (z : Zt) (u a b k fr l0 l1 l2 : Int) (R : Option St → Prop) (Q : Ex → Option St → Prop) : aroundN PA Tryz.prog (tab [(80, zyAt0)]) noLoops 12 (loopOf Tryz.prog 150 0) (inH1 z u a b k fr l0 l1 l2 none) (fun st => R (canon inCS1 st)) (fun e st => Q e (canon inCX st)) = inVC1 z u a b k fr l0 l1 l2 none R Q := by kernel_rfl
set_option maxRecDepth 100000 in
theorem in_round1b (z : Zt) (u a b k fr l0 l1 l2 : Int) (n : Nat) (g : Nat → Int) (R : Option St → Prop) (Q : Ex → Option St → Prop) : aroundN PA Tryz.prog (tab [(80, zyAt0)]) noLoops 12 (loopOf Tryz.prog 150 0) (inH1 z u a b k fr l0 l1 l2 (some (n, g))) (fun st => R (canon inCS1 st)) (fun e st => Q e (canon inCX st)) = inVC1 z u a b k fr l0 l1 l2 (some (n, g)) R Q := by kernel_rfl
set_option maxRecDepth 100000 in
theorem in_round2a (z : Zt) (u a b k fr l0 l1 l2 : Int) (R : Option St → Prop) (Q : Ex → Option St → Prop) : aroundN PA Tryz.prog (tab [(80, zyAt0), (152, cyStand 1)]) noLoops 12 (loopOf Tryz.prog 150 1) (inH2 z u a b k fr l0 l1 l2 none) (fun st => R (canon inCS2 st)) (fun e st => Q e (canon inCY st)) = inVC2 z u a b k fr l0 l1 l2 none R Q := by kernel_rfl
set_option maxRecDepth 100000 in
theorem in_round3 (z : Zt) (u a b k fr l0 l1 l2 : Int) (n : Nat) (g : Nat → Int) (R : Option St → Prop) (Q : Ex → Option St → Prop) : aroundN PA Tryz.prog (tab [(80, zyAt0), (152, cyStand 1)]) noLoops 12 (loopOf Tryz.prog 150 1) (inH3 z u a b k fr l0 l1 l2 n g) (fun st => R (canon inCS3 st)) (fun e st => Q e (canon inCZ st)) = inVC3 z u a b k fr l0 l1 l2 n g R Q := by kernel_rfl
set_option maxRecDepth 100000 in
theorem in_round2b (z : Zt) (u a b k fr l0 l1 l2 : Int) (n : Nat) (g : Nat → Int) (R : Option St → Prop) (Q : Ex → Option St → Prop) : aroundN PA Tryz.prog (tab [(80, zyAt0), (152, cyStand 1)]) noLoops 12 (loopOf Tryz.prog 150 1) (inH2 z u a b k fr l0 l1 l2 (some (n, g))) (fun st => R (canon inCS2 st)) (fun e st => Q e (canon inCY st)) = inVC2 z u a b k fr l0 l1 l2 (some (n, g)) R Q := by kernel_rfl
def cntF : Option (Nat × (Nat → Int)) → Nat
 | none => 0
 | some (n, _) => n
theorem cnt_push (f : Option (Nat × (Nat → Int))) (w : Int) : cntF (acPush f w) = cntF f + 1 := by
 cases f with
 | none => rfl
 | some p => obtain ⟨n, g⟩ := p; rfl
structure InC (z : Zt) (u a b : Int) (s : Ac) : Prop where
 ok : ZtOk z
 bd : bdZ z.F = true
 ea : a = u - 57600
 eb : b = u + 57600
 ask : Asked u
 aska : Asked a
 askb : Asked b
 lo : a ≤ s.fr
 hi : s.fr ≤ b
 cnt : (cntF s.f : Int) ≤ s.fr - a
 l2 : -57600 ≤ s.l2 ∧ s.l2 ≤ 57600
 pos : ∀ n g, s.f = some (n, g) → 0 < n
theorem InC.askf {z : Zt} {u a b : Int} {s : Ac} (h : InC z u a b s) : Asked s.fr := asked_mid h.aska h.askb h.lo h.hi
theorem InC.bdf {z : Zt} {u a b : Int} {s : Ac} (h : InC z u a b s) : -300000000000000 ≤ s.fr ∧ s.fr ≤ 10000000000000 := asked_bd h.askf
theorem InC.bdu {z : Zt} {u a b : Int} {s : Ac} (h : InC z u a b s) : -300000000000000 ≤ u ∧ u ≤ 10000000000000 := asked_bd h.ask
theorem InC.off {z : Zt} {u a b : Int} {s : Ac} (h : InC z u a b s) : -57600 ≤ (atZ z s.fr).off ∧ (atZ z s.fr).off ≤ 57600 := atZ_off h.ok _
theorem in_step {z : Zt} {u a b t e : Int} {s : Ac} (h : InC z u a b s) (he : e = t - 1) (ht : s.fr < t) (htb : t ≤ b + 1) {K : Option (Nat × (Nat → Int)) → Int → Int → Int → Prop} (hK : K (acS z u t s).f (acS z u t s).l0 (acS z u t s).l1 (acS z u t s).l2) :
 inStep z u s.fr e s.l0 s.l1 s.l2 s.f K := by
 subst he
 have h1 := h.bdf
 have h2 := h.bdu
 have h3 := h.off
 have hc := h.cnt
 have hb := h.eb
 have ha := h.ea
 have hhi := h.hi
 unfold inStep
 refine brcT (by rw [tyZ z h.bd, decide_eq_true (show ZtOk z ∧ Asked s.fr ∧ -9223372036854775808 ≤ s.fr ∧ s.fr ≤ 9223372036854775807 from ⟨h.ok, h.askf, by omega, by omega⟩)]; rfl) ?_
 rintro _ rfl _ rfl _ rfl
 have ew : IntKind.wrap .i64 (u - (atZ z s.fr).off) = u - (atZ z s.fr).off := jZ (by omega)
 rw [ew]
 have less : ∀ f', f' = (acS z u t s).f → inLess u s.fr (t - 1) (atZ z s.fr).off s.l0 s.l1 s.l2 (K f') := fun f' hf => by
  unfold inLess
  rw [ew, hf]
  refine kA (fun q => ?_) fun q => ?_
  · have q := of_decide_eq_true q
    simp only [acS, if_pos q] at hK ⊢
    exact hK
  · have q := of_decide_eq_false q
    simp only [acS, if_neg q] at hK ⊢
    exact hK
 refine kA (fun q => kA (fun r => ?_) fun r => ?_) fun q => ?_
 · have q := of_decide_eq_true q
   have r := of_decide_eq_true r
   have ef : (acS z u t s).f = acPush s.f (u - (atZ z s.fr).off) := by simp only [acS]; rw [if_pos ⟨q, r⟩]
   cases hf : s.f with
   | none => exact less _ (by rw [ef, hf]; rfl)
   | some p =>
    obtain ⟨n, g⟩ := p
    rw [hf] at hc
    have hn : (n : Int) ≤ s.fr - a := hc
    refine brcT ?_ (less _ (by rw [ef, hf]; rfl))
    have r1 : Nat.beq n n = true := by simp
    have r2 : roomB (n + 1) 8 = true := by
     unfold roomB
     rw [Bool.and_eq_true]
     exact ⟨Nat.ble_eq_true_of_le (by unfold maxLen; omega), Nat.ble_eq_true_of_le (by omega)⟩
    rw [r1, r2]; rfl
 · have r := of_decide_eq_false r
   refine less _ ?_
   simp only [acS]
   rw [if_neg (fun x => r x.2)]
 · have q := of_decide_eq_false q
   refine less _ ?_
   simp only [acS]
   rw [if_neg (fun x => q x.1)]
theorem acS_pos {z : Zt} {u t : Int} {s : Ac} (h : ∀ n g, s.f = some (n, g) → 0 < n) : ∀ n g, (acS z u t s).f = some (n, g) → 0 < n := fun n g e => by
 simp only [acS] at e
 split at e
 · unfold acPush at e
   split at e
   · simp only [Option.some.injEq, Prod.mk.injEq] at e; omega
   · simp only [Option.some.injEq, Prod.mk.injEq] at e; omega
 · exact h n g e
theorem in_next {z : Zt} {u a b t : Int} {s : Ac} (h : InC z u a b s) (ht : s.fr < t) (htb : t ≤ b) : InC z u a b (acS z u t s) := by
 have hc := h.cnt
 have hl := h.lo
 refine ⟨h.ok, h.bd, h.ea, h.eb, h.ask, h.aska, h.askb, ?_, htb, ?_, ?_, acS_pos h.pos⟩
 · show a ≤ t; omega
 · show (cntF (acS z u t s).f : Int) ≤ t - a
   simp only [acS]
   split
   · rw [cnt_push]; omega
   · omega
 · have h3 := h.off
   have h4 := h.l2
   simp only [acS]
   split
   · exact h3
   · exact h4
noncomputable def fin1 (z : Zt) (u b : Int) (k : Nat) (s : Ac) : Ac := acR z u (kz z b z.n - k) k s
noncomputable def inHx1 (z : Zt) (u a b : Int) (x : Nat × Ac) : St := inH1 z u a b (x.1 : Int) x.2.fr x.2.l0 x.2.l1 x.2.l2 x.2.f
def inMu1 (z : Zt) (x : Nat × Ac) : Nat := z.n - x.1
noncomputable def inG1 (z : Zt) (u a b : Int) (x : Nat × Ac) (Q : Ex → St → Prop) : Prop :=
 (InC z u a b x.2 ∧ x.1 ≤ kz z b z.n ∧ ∀ j, x.1 ≤ j → j < z.n → x.2.fr < z.ta j) ∧
 (((fin1 z u b x.1 x.2).f = none → Q (.exit 0) (inX z u a b (fin1 z u b x.1 x.2).fr (fin1 z u b x.1 x.2).l0 (fin1 z u b x.1 x.2).l1 (fin1 z u b x.1 x.2).l2 none)) ∧
  ∀ n c, (fin1 z u b x.1 x.2).f = some (n, c) → Q (.exit 0) (inX z u a b (fin1 z u b x.1 x.2).fr (fin1 z u b x.1 x.2).l0 (fin1 z u b x.1 x.2).l1 (fin1 z u b x.1 x.2).l2 (some (n, c))))
theorem in_vc1 {z : Zt} {u a b : Int} {x : Nat × Ac} {Q : Ex → St → Prop} (hG : inG1 z u a b x Q) : inVC1 z u a b (x.1 : Int) x.2.fr x.2.l0 x.2.l1 x.2.l2 x.2.f (again (inHx1 z u a b) (inMu1 z) (inG1 z u a b) x Q) (left Q) := by
 obtain ⟨k, s⟩ := x
 obtain ⟨⟨h, hk, hj⟩, q1, q2⟩ := hG
 simp only at h hk hj q1 q2
 have hle := kz_le z b z.n
 have hn := h.ok.2.2.1
 unfold inVC1
 simp only
 have stop : k = kz z b z.n → left Q (.exit 0) (some (inX z u a b s.fr s.l0 s.l1 s.l2 s.f)) := fun e => by
  have ef : fin1 z u b k s = s := by unfold fin1; rw [e, Nat.sub_self]; rfl
  rw [ef] at q1 q2
  refine ⟨_, rfl, ?_⟩
  cases hf : s.f with
  | none => exact q1 hf
  | some p => obtain ⟨n, c⟩ := p; exact q2 n c hf
 rw [Int.toNat_natCast]
 refine kA (fun c1 => ?_) fun c1 => stop (by have := of_decide_eq_false c1; omega)
 have c1 : k < z.n := by have := of_decide_eq_true c1; omega
 have iff := kz_iff h.ok.rows b z.n k (Nat.le_refl _) c1
 refine brcT (by simp; omega) (kA (fun c2 => brcT (by simp; omega) ?_) fun c2 => stop ?_)
 · have c2 := of_decide_eq_true c2
   have hlt := iff.2 c2
   have hfr := hj k (Nat.le_refl _) c1
   have hro := (h.ok.rows k (by omega) c1).2.1
   refine in_step h (jZ (by omega)) hfr (by omega) ?_
   refine ⟨(k + 1, acS z u (z.ta k) s), by unfold inMu1; simp only; omega, ⟨⟨in_next h hfr c2, by simp only; omega, fun j h1 h2 => ?_⟩, ?_⟩, ?_⟩
   · exact rows_lt' h.ok.rows (by simp only at h1; omega) h2
   · have ef : fin1 z u b (k + 1) (acS z u (z.ta k) s) = fin1 z u b k s := by
      unfold fin1
      rw [show kz z b z.n - k = (kz z b z.n - (k + 1)) + 1 by omega]
      rfl
     simp only
     rw [ef]
     exact ⟨q1, q2⟩
   · rw [jZ (by omega)]; rfl
 · have c2 := of_decide_eq_false c2
   have : ¬ k < kz z b z.n := fun q => c2 (iff.1 q)
   omega
noncomputable def fin2 (z : Zt) (u b : Int) (k : Int) (s : Ac) : Ac := acF z u (ix z.F b - ix z.F k).toNat (ix z.F k) s
noncomputable def inHx2 (z : Zt) (u a b : Int) (x : Int × Ac) : St := inH2 z u a b x.1 x.2.fr x.2.l0 x.2.l1 x.2.l2 x.2.f
def inMu2 (b : Int) (x : Int × Ac) : Nat := (b - x.1).toNat
noncomputable def inG2 (z : Zt) (u a b : Int) (x : Int × Ac) (Q : Ex → St → Prop) : Prop :=
 (InC z u a b x.2 ∧ z.F.z = true ∧ x.2.fr ≤ x.1) ∧
 (((fin2 z u b x.1 x.2).f = none → Q .ret (inY z u a b (fin2 z u b x.1 x.2).fr (fin2 z u b x.1 x.2).l0 (fin2 z u b x.1 x.2).l1 (fin2 z u b x.1 x.2).l2 none) ∧ Q (.exit 2) (inY z u a b (fin2 z u b x.1 x.2).fr (fin2 z u b x.1 x.2).l0 (fin2 z u b x.1 x.2).l1 (fin2 z u b x.1 x.2).l2 none)) ∧
  ∀ n c, (fin2 z u b x.1 x.2).f = some (n, c) → Q .ret (inY z u a b (fin2 z u b x.1 x.2).fr (fin2 z u b x.1 x.2).l0 (fin2 z u b x.1 x.2).l1 (fin2 z u b x.1 x.2).l2 (some (n, c))) ∧ Q (.exit 2) (inY z u a b (fin2 z u b x.1 x.2).fr (fin2 z u b x.1 x.2).l0 (fin2 z u b x.1 x.2).l1 (fin2 z u b x.1 x.2).l2 (some (n, c))))
theorem in_vc2 {z : Zt} {u a b : Int} {x : Int × Ac} {Q : Ex → St → Prop} (hG : inG2 z u a b x Q) : inVC2 z u a b x.1 x.2.fr x.2.l0 x.2.l1 x.2.l2 x.2.f (again (inHx2 z u a b) (inMu2 b) (inG2 z u a b) x Q) (left Q) := by
 obtain ⟨k, s⟩ := x
 obtain ⟨⟨h, hz, hk⟩, q1, q2⟩ := hG
 simp only at h hk q1 q2
 have hF : FtOk z.F := (h.ok.foot hz).1.1
 unfold inVC2
 simp only
 have stop : ix z.F b ≤ ix z.F k → left Q .ret (some (inY z u a b s.fr s.l0 s.l1 s.l2 s.f)) ∧ left Q (.exit 2) (some (inY z u a b s.fr s.l0 s.l1 s.l2 s.f)) := fun e => by
  have ef : fin2 z u b k s = s := by unfold fin2; rw [show (ix z.F b - ix z.F k).toNat = 0 by omega]; rfl
  rw [ef] at q1 q2
  cases hf : s.f with
  | none => exact ⟨⟨_, rfl, (q1 hf).1⟩, ⟨_, rfl, (q1 hf).2⟩⟩
  | some p => obtain ⟨n, c⟩ := p; exact ⟨⟨_, rfl, (q2 n c hf).1⟩, ⟨_, rfl, (q2 n c hf).2⟩⟩
 refine kA (fun c1 => ?_) fun c1 => (stop (ix_mono hF (by have := of_decide_eq_false c1; omega))).2
 have c1 := of_decide_eq_true c1
 have hask : Asked k := asked_mid h.aska h.askb (by have := h.lo; omega) (by omega)
 have hb := asked_bd hask
 refine brcT (dec6 h.bd (by omega) (by omega)) ?_
 have hA : AskOk z.F k := ⟨hF, hask.1, hask.2⟩
 have ht : (tZ z.F k (ix z.F k + 1)).t = (sI z.F (ix z.F k + 1)).t := by unfold tZ; simp only [if_pos hA]
 rw [ht]
 rintro _ rfl _ rfl _ rfl _ rfl
 refine kA (fun c2 => ?_) fun c2 => kA (fun c3 => ?_) fun c3 => ?_
 · rw [err_zero.2 hA] at c2; cases c2
 · refine (stop ?_).1
   have c3 := of_decide_eq_true c3
   have := next_le hF k b
   rcases Int.lt_or_le (ix z.F k) (ix z.F b) with q | q
   · have := this.2 (by omega); omega
   · exact q
 · have c3 := of_decide_eq_false c3
   have hle := (next_le hF k b).1 (by omega)
   have hgt := (ix_spec hF k).2
   have e1 := ix_next hF k
   have hbt : -9223372036854775808 ≤ (sI z.F (ix z.F k + 1)).t - 1 := by omega
   have hbb := asked_bd h.askb
   refine in_step h (jZ ⟨hbt, by omega⟩) (by omega) (by omega) ?_
   refine ⟨((sI z.F (ix z.F k + 1)).t, acS z u (sI z.F (ix z.F k + 1)).t s), by unfold inMu2; simp only; omega, ⟨⟨in_next h (by omega) (by omega), hz, Int.le_refl _⟩, ?_⟩, rfl⟩
   have ef : fin2 z u b (sI z.F (ix z.F k + 1)).t (acS z u (sI z.F (ix z.F k + 1)).t s) = fin2 z u b k s := by
    unfold fin2
    rw [e1, show (ix z.F b - ix z.F k).toNat = (ix z.F b - (ix z.F k + 1)).toNat + 1 by omega]
    rfl
   simp only
   rw [ef]
   exact ⟨q1, q2⟩
noncomputable def inHx3 (z : Zt) (u a b : Int) (x : Int × Ac) : St := inHf z u a b x.1 x.2.fr x.2.l0 x.2.l1 x.2.l2 x.2.f
noncomputable def inG3 (z : Zt) (u a b : Int) (x : Int × Ac) (Q : Ex → St → Prop) : Prop :=
 (InC z u a b x.2 ∧ z.F.z = true ∧ x.2.fr ≤ x.1 ∧ x.2.f ≠ none) ∧
 ∀ n c, (fin2 z u b x.1 x.2).f = some (n, c) → Q .ret (inZ z u a b (fin2 z u b x.1 x.2).fr (fin2 z u b x.1 x.2).l0 (fin2 z u b x.1 x.2).l1 (fin2 z u b x.1 x.2).l2 n c) ∧ Q (.exit 2) (inZ z u a b (fin2 z u b x.1 x.2).fr (fin2 z u b x.1 x.2).l0 (fin2 z u b x.1 x.2).l1 (fin2 z u b x.1 x.2).l2 n c)
theorem acS_some {z : Zt} {u t : Int} {s : Ac} (h : s.f ≠ none) : (acS z u t s).f ≠ none := fun e => by
 simp only [acS] at e
 split at e
 · unfold acPush at e
   split at e <;> cases e
 · exact h e
theorem in_vc3 {z : Zt} {u a b : Int} {x : Int × Ac} {n : Nat} {g : Nat → Int} (hf : x.2.f = some (n, g)) {Q : Ex → St → Prop} (hG : inG3 z u a b x Q) : inVC3 z u a b x.1 x.2.fr x.2.l0 x.2.l1 x.2.l2 n g (again (inHx3 z u a b) (inMu2 b) (inG3 z u a b) x Q) (left Q) := by
 obtain ⟨k, s⟩ := x
 obtain ⟨⟨h, hz, hk, hn⟩, q2⟩ := hG
 simp only at h hk hn q2 hf
 have hF : FtOk z.F := (h.ok.foot hz).1.1
 unfold inVC3
 simp only
 have stop : ix z.F b ≤ ix z.F k → left Q .ret (some (inZ z u a b s.fr s.l0 s.l1 s.l2 n g)) ∧ left Q (.exit 2) (some (inZ z u a b s.fr s.l0 s.l1 s.l2 n g)) := fun e => by
  have ef : fin2 z u b k s = s := by unfold fin2; rw [show (ix z.F b - ix z.F k).toNat = 0 by omega]; rfl
  rw [ef] at q2
  exact ⟨⟨_, rfl, (q2 n g hf).1⟩, ⟨_, rfl, (q2 n g hf).2⟩⟩
 refine kA (fun c1 => ?_) fun c1 => (stop (ix_mono hF (by have := of_decide_eq_false c1; omega))).2
 have c1 := of_decide_eq_true c1
 have hask : Asked k := asked_mid h.aska h.askb (by have := h.lo; omega) (by omega)
 have hb := asked_bd hask
 refine brcT (dec6 h.bd (by omega) (by omega)) ?_
 have hA : AskOk z.F k := ⟨hF, hask.1, hask.2⟩
 have ht : (tZ z.F k (ix z.F k + 1)).t = (sI z.F (ix z.F k + 1)).t := by unfold tZ; simp only [if_pos hA]
 rw [ht]
 rintro _ rfl _ rfl _ rfl _ rfl
 refine kA (fun c2 => ?_) fun c2 => kA (fun c3 => ?_) fun c3 => ?_
 · rw [err_zero.2 hA] at c2; cases c2
 · refine (stop ?_).1
   have c3 := of_decide_eq_true c3
   have := next_le hF k b
   rcases Int.lt_or_le (ix z.F k) (ix z.F b) with q | q
   · have := this.2 (by omega); omega
   · exact q
 · have c3 := of_decide_eq_false c3
   have hle := (next_le hF k b).1 (by omega)
   have hgt := (ix_spec hF k).2
   have e1 := ix_next hF k
   have hbt : -9223372036854775808 ≤ (sI z.F (ix z.F k + 1)).t - 1 := by omega
   have hbb := asked_bd h.askb
   rw [← hf]
   refine in_step h (jZ ⟨hbt, by omega⟩) (by omega) (by omega) ?_
   have hs := acS_some (z := z) (u := u) (t := (sI z.F (ix z.F k + 1)).t) hn
   cases hf2 : (acS z u (sI z.F (ix z.F k + 1)).t s).f with
   | none => exact (hs hf2).elim
   | some p =>
    obtain ⟨n2, g2⟩ := p
    refine ⟨((sI z.F (ix z.F k + 1)).t, acS z u (sI z.F (ix z.F k + 1)).t s), by unfold inMu2; simp only; omega, ⟨⟨in_next h (by omega) (by omega), hz, Int.le_refl _, hs⟩, ?_⟩, ?_⟩
    · have ef : fin2 z u b (sI z.F (ix z.F k + 1)).t (acS z u (sI z.F (ix z.F k + 1)).t s) = fin2 z u b k s := by
       unfold fin2
       rw [e1, show (ix z.F b - ix z.F k).toNat = (ix z.F b - (ix z.F k + 1)).toNat + 1 by omega]
       rfl
      simp only
      rw [ef]
      exact q2
    · unfold inHx3 inHf
      simp only [hf2]
      rfl
set_option maxRecDepth 100000 in
theorem in_noloops1 : Code.loops (loopOf Tryz.prog 150 0) = [] := by kernel_rfl
set_option maxRecDepth 100000 in
theorem in_noloops2 : Code.loops (loopOf Tryz.prog 150 1) = [] := by kernel_rfl
set_option maxRecDepth 100000 in
theorem loops_in : loopsOf Tryz.prog 150 = [loopOf Tryz.prog 150 0, loopOf Tryz.prog 150 1] := by kernel_rfl
set_option maxRecDepth 100000 in
theorem first_in1 : Code.first (loopOf Tryz.prog 150 0) = 2 := by kernel_rfl
set_option maxRecDepth 100000 in
theorem first_in2 : Code.first (loopOf Tryz.prog 150 1) = 7 := by kernel_rfl
theorem in_hround1 (z : Zt) (u a b : Int) (x : Nat × Ac) (Q : Ex → St → Prop) (hG : inG1 z u a b x Q) : aroundN PA Tryz.prog (tab [(80, zyAt0)]) noLoops 12 (loopOf Tryz.prog 150 0) (inHx1 z u a b x) (fun st' => again (inHx1 z u a b) (inMu1 z) (inG1 z u a b) x Q (canon inCS1 st')) (fun e st' => left Q e (canon inCX st')) := by
 have hq := in_vc1 hG
 obtain ⟨k, fr, l0, l1, l2, f⟩ := x
 cases f with
 | none => exact Eq.mpr (in_round1a z u a b k fr l0 l1 l2 (again (inHx1 z u a b) (inMu1 z) (inG1 z u a b) (k, ⟨fr, l0, l1, l2, none⟩) Q) (left Q)) hq
 | some p => obtain ⟨n, g⟩ := p; exact Eq.mpr (in_round1b z u a b k fr l0 l1 l2 n g (again (inHx1 z u a b) (inMu1 z) (inG1 z u a b) (k, ⟨fr, l0, l1, l2, some (n, g)⟩) Q) (left Q)) hq
theorem in_hround2 (z : Zt) (u a b : Int) (x : Int × Ac) (Q : Ex → St → Prop) (hG : inG2 z u a b x Q) : aroundN PA Tryz.prog (tab [(80, zyAt0), (152, cyStand 1)]) noLoops 12 (loopOf Tryz.prog 150 1) (inHx2 z u a b x) (fun st' => again (inHx2 z u a b) (inMu2 b) (inG2 z u a b) x Q (canon inCS2 st')) (fun e st' => left Q e (canon inCY st')) := by
 have hq := in_vc2 hG
 obtain ⟨k, fr, l0, l1, l2, f⟩ := x
 cases f with
 | none => exact Eq.mpr (in_round2a z u a b k fr l0 l1 l2 (again (inHx2 z u a b) (inMu2 b) (inG2 z u a b) (k, ⟨fr, l0, l1, l2, none⟩) Q) (left Q)) hq
 | some p => obtain ⟨n, g⟩ := p; exact Eq.mpr (in_round2b z u a b k fr l0 l1 l2 n g (again (inHx2 z u a b) (inMu2 b) (inG2 z u a b) (k, ⟨fr, l0, l1, l2, some (n, g)⟩) Q) (left Q)) hq
theorem in_lc1 (z : Zt) (u a b : Int) (x : Nat × Ac) : LcOk Tryz.prog (loopOf Tryz.prog 150 0) (lcOf inCS1 (inHx1 z u a b) (inG1 z u a b) x) :=
 lc_ok (T := tab [(80, zyAt0)]) mixed (kB zyAt0_ok bA) (LT := noLoops) (n := 12) (noLoops_in in_noloops1) (c := inCS1) (cX := inCX) rfl (in_hround1 z u a b) x
theorem in_lc2 (z : Zt) (u a b : Int) (x : Int × Ac) : LcOk Tryz.prog (loopOf Tryz.prog 150 1) (lcOf inCS2 (inHx2 z u a b) (inG2 z u a b) x) :=
 lc_ok (T := tab [(80, zyAt0), (152, cyStand 1)]) mixed (kB zyAt0_ok (kB cyNextF_ok bA)) (LT := noLoops) (n := 12) (noLoops_in in_noloops2) (c := inCS2) (cX := inCY) rfl (in_hround2 z u a b) x
theorem in_hround3 (z : Zt) (u a b : Int) (x : Int × Ac) (Q : Ex → St → Prop) (hG : inG3 z u a b x Q) : aroundN PA Tryz.prog (tab [(80, zyAt0), (152, cyStand 1)]) noLoops 12 (loopOf Tryz.prog 150 1) (inHx3 z u a b x) (fun st' => again (inHx3 z u a b) (inMu2 b) (inG3 z u a b) x Q (canon inCS3 st')) (fun e st' => left Q e (canon inCZ st')) := by
 obtain ⟨k, fr, l0, l1, l2, f⟩ := x
 cases f with
 | none => exact (hG.1.2.2.2 rfl).elim
 | some p => obtain ⟨n, g⟩ := p; exact Eq.mpr (in_round3 z u a b k fr l0 l1 l2 n g (again (inHx3 z u a b) (inMu2 b) (inG3 z u a b) (k, ⟨fr, l0, l1, l2, some (n, g)⟩) Q) (left Q)) (in_vc3 rfl hG)
theorem in_lc3 (z : Zt) (u a b : Int) (x : Int × Ac) : LcOk Tryz.prog (loopOf Tryz.prog 150 1) (lcOf inCS3 (inHx3 z u a b) (inG3 z u a b) x) :=
 lc_ok (T := tab [(80, zyAt0), (152, cyStand 1)]) mixed (kB zyAt0_ok (kB cyNextF_ok bA)) (LT := noLoops) (n := 12) (noLoops_in in_noloops2) (c := inCS3) (cX := inCZ) rfl (in_hround3 z u a b) x
noncomputable def lcTwo (lc1 lc2 : St → (Ex → St → Prop) → Prop) : St → (Ex → St → Prop) → Prop := fun st Q => brc (Nat.beq st.h.length 20) (lc1 st Q) (lc2 st Q)
theorem lcTwo_ok {P : Program} {b : Code} {lc1 lc2 : St → (Ex → St → Prop) → Prop} (h1 : LcOk P b lc1) (h2 : LcOk P b lc2) : LcOk P b (lcTwo lc1 lc2) := fun st Q ρ W w a h hs r n => by
 unfold lcTwo at h
 cases hb : Nat.beq st.h.length 20 with
 | true => rw [hb] at h; exact h1 st Q ρ W w a h hs r n
 | false => rw [hb] at h; exact h2 st Q ρ W w a h hs r n
noncomputable def inLG (z : Zt) (u a b : Int) (x1 : Nat × Ac) (x2 : Int × Ac) : FuncId → LTab Prop := fun g => if g = 150 then (fun k => if k = 2 then some (lcOf inCS1 (inHx1 z u a b) (inG1 z u a b) x1) else if k = 7 then some (lcTwo (lcOf inCS2 (inHx2 z u a b) (inG2 z u a b) x2) (lcOf inCS3 (inHx3 z u a b) (inG3 z u a b) x2)) else none) else fun _ => none
theorem inLG_ok (z : Zt) (u a b : Int) (x1 : Nat × Ac) (x2 : Int × Ac) (g : FuncId) : LtOk Tryz.prog g (inLG z u a b x1 x2 g) :=
 lg_ok (lt_two loops_in first_in1 first_in2 (by omega) (in_lc1 z u a b x1) (lcTwo_ok (in_lc2 z u a b x2) (in_lc3 z u a b x2))) g
@[irreducible] def AFLL (T : Tab) (LG : FuncId → LTab Prop) (n g : Nat) (args : List AV) (K : AV → Prop) : Prop := afnL PA Tryz.prog T LG n g args fun u h => nuK h u K
def curOf (z : Zt) (u : Int) : Int := if IntKind.wrap .i64 (z.F.fr - 1) > IntKind.wrap .i64 (u - 57600) then IntKind.wrap .i64 (z.F.fr - 1) else IntKind.wrap .i64 (u - 57600)
def x1Of (z : Zt) (u : Int) : Nat × Ac := (kz z (IntKind.wrap .i64 (u - 57600)) z.n, ⟨IntKind.wrap .i64 (u - 57600), 0, 0, 0, none⟩)
noncomputable def s1Of (z : Zt) (u : Int) : Ac := fin1 z u (IntKind.wrap .i64 (u + 57600)) (kz z (IntKind.wrap .i64 (u - 57600)) z.n) ⟨IntKind.wrap .i64 (u - 57600), 0, 0, 0, none⟩
noncomputable def x2Of (z : Zt) (u : Int) : Int × Ac := (curOf z u, s1Of z u)
noncomputable def s2Of (z : Zt) (u : Int) : Ac := fin2 z u (IntKind.wrap .i64 (u + 57600)) (curOf z u) (s1Of z u)
def inT (x : Int) (k : Int) : AV := .tup [.int .i64 x, .int .i64 k, .int .i64 0]
def inFin0 (z : Zt) (u : Int) (s : Ac) (K : AV → Prop) : Prop :=
 brc (tyR z.n (znRow z) && bdZ z.F && decide (ZtOk z ∧ Asked s.fr ∧ -9223372036854775808 ≤ s.fr ∧ s.fr ≤ 9223372036854775807)) (∀ m0 : Int, m0 = (atZ z s.fr).t → ∀ m1 : Int, m1 = (atZ z s.fr).off → ∀ m2 : Bool, m2 = (atZ z s.fr).dst →
  brc (decide (IntKind.wrap .i64 (u - m1) ≥ s.fr)) (brc (decide (IntKind.wrap .i64 (u - m1) ≤ IntKind.wrap .i64 (u + 57600))) (brc (decide (s.fr < IntKind.wrap .i64 (u - m1))) (K (inT (IntKind.wrap .i64 (u - m1)) 0)) (K (inT (IntKind.wrap .i64 (u - m1)) 0)))
   (brc (decide (s.fr < IntKind.wrap .i64 (u - m1))) (K (inT (IntKind.wrap .i64 (u - m1)) 2)) (K (inT (IntKind.wrap .i64 (u - s.l2)) 2)))) (brc (decide (s.fr < IntKind.wrap .i64 (u - m1))) (K (inT (IntKind.wrap .i64 (u - m1)) 2)) (K (inT (IntKind.wrap .i64 (u - s.l2)) 2)))) False
def inOne (n : Nat) (x : Int) (K : AV → Prop) : Prop := brc ((n : Int) == 1) (brc (decide (0 < (n : Int))) (brc (decide (Int.toNat 0 < n)) (K (inT x 0)) False) False) (brc (decide (0 < (n : Int))) (brc (decide (Int.toNat 0 < n)) (K (inT x 1)) False) False)
def inMany (n : Nat) (c : Nat → Int) (w : Int) (K : AV → Prop) : Prop := brc ((n : Int) == 0) (K (inT w 2)) (inOne n (c 0) K)
def inFin1 (z : Zt) (u : Int) (s : Ac) (n : Nat) (c : Nat → Int) (K : AV → Prop) : Prop :=
 brc (tyR z.n (znRow z) && bdZ z.F && decide (ZtOk z ∧ Asked s.fr ∧ -9223372036854775808 ≤ s.fr ∧ s.fr ≤ 9223372036854775807)) (∀ m0 : Int, m0 = (atZ z s.fr).t → ∀ m1 : Int, m1 = (atZ z s.fr).off → ∀ m2 : Bool, m2 = (atZ z s.fr).dst →
  brc (decide (IntKind.wrap .i64 (u - m1) ≥ s.fr)) (brc (decide (IntKind.wrap .i64 (u - m1) ≤ IntKind.wrap .i64 (u + 57600))) (brc (Nat.beq n n && roomB (n + 1) 8) (brc (decide (s.fr < IntKind.wrap .i64 (u - m1))) (inOne (n + 1) (if decide (Int.toNat 0 < n) = true then c 0 else IntKind.wrap .i64 (u - m1)) K) (inOne (n + 1) (if decide (Int.toNat 0 < n) = true then c 0 else IntKind.wrap .i64 (u - m1)) K)) False)
   (brc (decide (s.fr < IntKind.wrap .i64 (u - m1))) (inMany n c (IntKind.wrap .i64 (u - m1)) K) (inMany n c (IntKind.wrap .i64 (u - s.l2)) K))) (brc (decide (s.fr < IntKind.wrap .i64 (u - m1))) (inMany n c (IntKind.wrap .i64 (u - m1)) K) (inMany n c (IntKind.wrap .i64 (u - s.l2)) K))) False
def SHOWl1 (z : Zt) (u m : Int) (P : Prop) (B : Nat → (Nat → Int) → Prop) : Prop :=
 isH (some (inH1 z u (IntKind.wrap .i64 (u - 57600)) (IntKind.wrap .i64 (u + 57600)) m (IntKind.wrap .i64 (u - 57600)) 0 0 0 none)) (inHx1 z u (IntKind.wrap .i64 (u - 57600)) (IntKind.wrap .i64 (u + 57600)) (x1Of z u)) ∧
 ((InC z u (IntKind.wrap .i64 (u - 57600)) (IntKind.wrap .i64 (u + 57600)) (x1Of z u).2 ∧ (x1Of z u).1 ≤ kz z (IntKind.wrap .i64 (u + 57600)) z.n ∧ ∀ j, (x1Of z u).1 ≤ j → j < z.n → (x1Of z u).2.fr < z.ta j) ∧ (((s1Of z u).f = none → P) ∧ ∀ n c, (s1Of z u).f = some (n, c) → B n c))
def SHOWl2 (z : Zt) (u m : Int) (P1 P2 : Prop) (B1 B2 : Nat → (Nat → Int) → Prop) : Prop :=
 isH (some (inH2 z u (IntKind.wrap .i64 (u - 57600)) (IntKind.wrap .i64 (u + 57600)) m (s1Of z u).fr (s1Of z u).l0 (s1Of z u).l1 (s1Of z u).l2 none)) (inHx2 z u (IntKind.wrap .i64 (u - 57600)) (IntKind.wrap .i64 (u + 57600)) (x2Of z u)) ∧
 ((InC z u (IntKind.wrap .i64 (u - 57600)) (IntKind.wrap .i64 (u + 57600)) (x2Of z u).2 ∧ z.F.z = true ∧ (x2Of z u).2.fr ≤ (x2Of z u).1) ∧ (((s2Of z u).f = none → P1 ∧ P2) ∧ ∀ n c, (s2Of z u).f = some (n, c) → B1 n c ∧ B2 n c))
def SHOWl3 (z : Zt) (u m : Int) (f : Option (Nat × (Nat → Int))) (B1 B2 : Nat → (Nat → Int) → Prop) : Prop :=
 isH (some (inHf z u (IntKind.wrap .i64 (u - 57600)) (IntKind.wrap .i64 (u + 57600)) m (s1Of z u).fr (s1Of z u).l0 (s1Of z u).l1 (s1Of z u).l2 f)) (inHx3 z u (IntKind.wrap .i64 (u - 57600)) (IntKind.wrap .i64 (u + 57600)) (x2Of z u)) ∧
 ((InC z u (IntKind.wrap .i64 (u - 57600)) (IntKind.wrap .i64 (u + 57600)) (x2Of z u).2 ∧ z.F.z = true ∧ (x2Of z u).2.fr ≤ (x2Of z u).1 ∧ (x2Of z u).2.f ≠ none) ∧ ∀ n c, (s2Of z u).f = some (n, c) → B1 n c ∧ B2 n c)
set_option maxRecDepth 100000 in
theorem zinst_vc (z : Zt) (u : Int) (K : AV → Prop) : AFLL (tab [(49, zyRight), (80, zyAt0), (119, zySearch), (92, cyYear), (152, cyStand 1)]) (inLG z u (IntKind.wrap .i64 (u - 57600)) (IntKind.wrap .i64 (u + 57600)) (x1Of z u) (x2Of z u)) 12 36 [.agg (avZ z), .int .i64 u] K =
 (brc (tyR (Zt.n z) (znRow z) && bdZ (Zt.F z)) (∀ (m0 : Bool), m0 = decide (ZtOk z) → brc (!m0) (K (AV.tup [AV.int IntKind.i64 0, AV.int IntKind.i64 0, AV.int IntKind.i64 1])) (brc (decide (-9223372036854775808 ≤ u ∧ u ≤ 9223372036854775807)) (∀ (m1 : Int), m1 = yAt u → brc (decide (m1 ≥ -4714)) (brc (!decide (m1 ≤ 294278)) (K (AV.tup [AV.int IntKind.i64 0, AV.int IntKind.i64 0, AV.int IntKind.i64 10])) (brc (tyR (Zt.n z) (znRow z) && bdZ (Zt.F z)) (∀ (m2 : Bool), m2 = decide (ZtOk z) → brc (!m2) (K (AV.tup [AV.int IntKind.i64 0, AV.int IntKind.i64 0, AV.int IntKind.i64 1])) (brc (decide (-9223372036854775808 ≤ IntKind.wrap IntKind.i64 (u - 57600) ∧ IntKind.wrap IntKind.i64 (u - 57600) ≤ 9223372036854775807)) (∀ (m3 : Int), m3 = yAt (IntKind.wrap IntKind.i64 (u - 57600)) → brc (decide (m3 ≥ -4714)) (brc (!decide (m3 ≤ 294278)) (K (AV.tup [AV.int IntKind.i64 0, AV.int IntKind.i64 0, AV.int IntKind.i64 10])) (brc (decide (-9223372036854775808 ≤ IntKind.wrap IntKind.i64 (u + 57600) ∧ IntKind.wrap IntKind.i64 (u + 57600) ≤ 9223372036854775807)) (∀ (m4 : Int), m4 = yAt (IntKind.wrap IntKind.i64 (u + 57600)) → brc (decide (m4 ≥ -4714)) (brc (!decide (m4 ≤ 294278)) (K (AV.tup [AV.int IntKind.i64 0, AV.int IntKind.i64 0, AV.int IntKind.i64 10])) (brc (tyR (Zt.n z) (znRow z) && bdZ (Zt.F z) && decide (RowsOk z 0 ∧ ((Zt.n z : Nat) : Int) = ((Zt.n z : Nat) : Int) ∧ Zt.n z ≤ 8192)) (∀ (m5 : Int), m5 = ((kz z (IntKind.wrap IntKind.i64 (u - 57600)) (Zt.n z) : Nat) : Int) → SHOWl1 z u m5 (brc (!Ft.z (Zt.F z)) (inFin0 z u (s1Of z u) K) (SHOWl2 z u (curOf z u) (inFin0 z u (s2Of z u) K) (inFin0 z u (s2Of z u) K) (fun n c => inFin1 z u (s2Of z u) n c K) (fun n c => inFin1 z u (s2Of z u) n c K))) (fun n c => brc (!Ft.z (Zt.F z)) (inFin1 z u (s1Of z u) n c K) (SHOWl3 z u (curOf z u) (some (n, c)) (fun n c => inFin1 z u (s2Of z u) n c K) (fun n c => inFin1 z u (s2Of z u) n c K)))) False)) (K (AV.tup [AV.int IntKind.i64 0, AV.int IntKind.i64 0, AV.int IntKind.i64 10]))) False)) (K (AV.tup [AV.int IntKind.i64 0, AV.int IntKind.i64 0, AV.int IntKind.i64 10]))) False)) False)) (K (AV.tup [AV.int IntKind.i64 0, AV.int IntKind.i64 0, AV.int IntKind.i64 10]))) False)) False) := by kernel_rfl
theorem kz_mono (z : Zt) {u v : Int} (h : u ≤ v) : ∀ n, kz z u n ≤ kz z v n
 | 0 => Nat.le_refl _
 | n + 1 => by
  have ih := kz_mono z h n
  have hl := kz_le z u n
  unfold kz
  split
  · rw [if_pos (by omega)]; exact Nat.le_refl _
  · split
    · omega
    · exact ih
theorem acR_keep {z : Zt} {u a b : Int} : ∀ (m k : Nat) (s : Ac), InC z u a b s → k + m ≤ kz z b z.n → (∀ j, k ≤ j → j < z.n → s.fr < z.ta j) → InC z u a b (acR z u m k s)
 | 0, _, s, h, _, _ => h
 | m + 1, k, s, h, hk, hj => by
  have hle := kz_le z b z.n
  have ht := hj k (Nat.le_refl _) (by omega)
  have htb := (kz_iff h.ok.rows b z.n k (Nat.le_refl _) (by omega)).1 (by omega)
  exact acR_keep m (k + 1) _ (in_next h ht htb) (by omega) fun j h1 h2 => rows_lt' h.ok.rows (by omega) h2
theorem acR_fr (z : Zt) (u : Int) : ∀ (m k : Nat) (s : Ac), (acR z u m k s).fr = if m = 0 then s.fr else z.ta (k + m - 1)
 | 0, _, s => rfl
 | m + 1, k, s => by
  have ih := acR_fr z u m (k + 1) (acS z u (z.ta k) s)
  show (acR z u m (k + 1) (acS z u (z.ta k) s)).fr = _
  rw [ih]
  by_cases h : m = 0
  · subst h; rfl
  · rw [if_neg h, if_neg (by omega)]
    congr 1; omega
theorem acF_keep {z : Zt} {u a b : Int} (hF : FtOk z.F) : ∀ (m : Nat) (i : Int) (s : Ac), InC z u a b s → i + m ≤ ix z.F b → s.fr < (sI z.F (i + 1)).t → InC z u a b (acF z u m i s)
 | 0, _, s, h, _, _ => h
 | m + 1, i, s, h, hk, hs => by
  have h1 := sI_le hF (i := i + 1) (j := ix z.F b) (by omega)
  have h2 := (ix_spec hF b).1
  exact acF_keep hF m (i + 1) _ (in_next h hs (by omega)) (by omega) (sI_lt hF (by omega))
def instF (u : Int) (s : Ac) : Int × Int := match s.f with
 | none => (u - s.l2, 2)
 | some (n, g) => (g 0, if n = 1 then 0 else 1)
noncomputable def sEnd (z : Zt) (u : Int) : Ac := if z.F.z = true then s2Of z u else s1Of z u
noncomputable def instZ (z : Zt) (u : Int) : Int × Int := instF u (acS z u (u + 57601) (sEnd z u))
noncomputable def iErr (z : Zt) (u : Int) : Int := if ZtOk z then (if Asked u ∧ Asked (u - 57600) ∧ Asked (u + 57600) then 0 else 10) else 1
noncomputable def instE (z : Zt) (u : Int) : Int × Int := if iErr z u = 0 then instZ z u else (0, 0)
def resI (x : Int × Int) : AV := inT x.1 x.2
theorem in_end0 {z : Zt} {u a b : Int} {s : Ac} (h : InC z u a b s) (hf : s.f = none) {K : AV → Prop} (hK : K (resI (instF u (acS z u (u + 57601) s)))) : inFin0 z u s K := by
 have h1 := h.bdf
 have h2 := h.bdu
 have h3 := h.off
 have h4 := h.l2
 unfold inFin0
 refine brcT (by rw [tyZ z h.bd, decide_eq_true (show ZtOk z ∧ Asked s.fr ∧ -9223372036854775808 ≤ s.fr ∧ s.fr ≤ 9223372036854775807 from ⟨h.ok, h.askf, by omega, by omega⟩)]; rfl) ?_
 rintro _ rfl _ rfl _ rfl
 rw [show IntKind.wrap .i64 (u - (atZ z s.fr).off) = u - (atZ z s.fr).off from jZ (by omega), show IntKind.wrap .i64 (u - s.l2) = u - s.l2 from jZ (by omega), show IntKind.wrap .i64 (u + 57600) = u + 57600 from jZ (by omega)]
 have ef : (acS z u (u + 57601) s).f = if s.fr ≤ u - (atZ z s.fr).off ∧ u - (atZ z s.fr).off ≤ u + 57600 then some (1, fun _ => u - (atZ z s.fr).off) else none := by
  simp only [acS, hf, show u + 57601 - 1 = u + 57600 by omega]; rfl
 have el : (acS z u (u + 57601) s).l2 = if s.fr < u - (atZ z s.fr).off then (atZ z s.fr).off else s.l2 := rfl
 unfold instF at hK
 rw [ef, el] at hK
 have no : ¬ (s.fr ≤ u - (atZ z s.fr).off ∧ u - (atZ z s.fr).off ≤ u + 57600) → brc (decide (s.fr < u - (atZ z s.fr).off)) (K (inT (u - (atZ z s.fr).off) 2)) (K (inT (u - s.l2) 2)) := fun q => by
  rw [if_neg q] at hK
  refine kA (fun r => ?_) fun r => ?_
  · rw [if_pos (of_decide_eq_true r)] at hK; exact hK
  · rw [if_neg (of_decide_eq_false r)] at hK; exact hK
 refine kA (fun c1 => kA (fun c2 => ?_) fun c2 => no fun q => of_decide_eq_false c2 q.2) fun c1 => no fun q => of_decide_eq_false c1 q.1
 rw [if_pos ⟨of_decide_eq_true c1, of_decide_eq_true c2⟩] at hK
 exact kA (fun _ => hK) fun _ => hK
theorem in_one {n : Nat} {x : Int} {K : AV → Prop} (hn : 0 < n) (hK : K (resI (x, if n = 1 then 0 else 1))) : inOne n x K := by
 unfold inOne
 have t1 : decide (0 < (n : Int)) = true := decide_eq_true (by omega)
 have t2 : decide (Int.toNat 0 < n) = true := decide_eq_true (by simpa using hn)
 rw [t1, t2]
 refine kA (fun c => brcT rfl (brcT rfl ?_)) fun c => brcT rfl (brcT rfl ?_)
 · have : n = 1 := by simp at c; omega
   rw [if_pos this] at hK; exact hK
 · have : ¬ n = 1 := by simp at c; omega
   rw [if_neg this] at hK; exact hK
theorem in_many {n : Nat} {c : Nat → Int} {w : Int} {K : AV → Prop} (hn : 0 < n) (hK : K (resI (c 0, if n = 1 then 0 else 1))) : inMany n c w K := by
 unfold inMany
 refine kA (fun q => ?_) fun _ => in_one hn hK
 simp at q; omega
theorem in_end1 {z : Zt} {u a b : Int} {s : Ac} (h : InC z u a b s) {n : Nat} {c : Nat → Int} (hf : s.f = some (n, c)) {K : AV → Prop} (hK : K (resI (instF u (acS z u (u + 57601) s)))) : inFin1 z u s n c K := by
 have h1 := h.bdf
 have h2 := h.bdu
 have h3 := h.off
 have h4 := h.l2
 have hn := h.pos n c hf
 have hc := h.cnt
 rw [hf] at hc
 have hc : (n : Int) ≤ s.fr - a := hc
 have hhi := h.hi
 have hb := h.eb
 have ha := h.ea
 unfold inFin1
 refine brcT (by rw [tyZ z h.bd, decide_eq_true (show ZtOk z ∧ Asked s.fr ∧ -9223372036854775808 ≤ s.fr ∧ s.fr ≤ 9223372036854775807 from ⟨h.ok, h.askf, by omega, by omega⟩)]; rfl) ?_
 rintro _ rfl _ rfl _ rfl
 rw [show IntKind.wrap .i64 (u - (atZ z s.fr).off) = u - (atZ z s.fr).off from jZ (by omega), show IntKind.wrap .i64 (u - s.l2) = u - s.l2 from jZ (by omega), show IntKind.wrap .i64 (u + 57600) = u + 57600 from jZ (by omega)]
 have ef : (acS z u (u + 57601) s).f = if s.fr ≤ u - (atZ z s.fr).off ∧ u - (atZ z s.fr).off ≤ u + 57600 then some (n + 1, fun i => if decide (i < n) = true then c i else u - (atZ z s.fr).off) else some (n, c) := by
  simp only [acS, hf, show u + 57601 - 1 = u + 57600 by omega]; rfl
 unfold instF at hK
 rw [ef] at hK
 have no : ¬ (s.fr ≤ u - (atZ z s.fr).off ∧ u - (atZ z s.fr).off ≤ u + 57600) → K (resI (c 0, if n = 1 then 0 else 1)) := fun q => by
  rw [if_neg q] at hK; exact hK
 have nn : ¬ (s.fr ≤ u - (atZ z s.fr).off ∧ u - (atZ z s.fr).off ≤ u + 57600) → brc (decide (s.fr < u - (atZ z s.fr).off)) (inMany n c (u - (atZ z s.fr).off) K) (inMany n c (u - s.l2) K) := fun q => kA (fun _ => in_many hn (no q)) fun _ => in_many hn (no q)
 refine kA (fun c1 => kA (fun c2 => ?_) fun c2 => nn fun q => of_decide_eq_false c2 q.2) fun c1 => nn fun q => of_decide_eq_false c1 q.1
 rw [if_pos ⟨of_decide_eq_true c1, of_decide_eq_true c2⟩] at hK
 have hr : (Nat.beq n n && roomB (n + 1) 8) = true := by
  have r1 : Nat.beq n n = true := by simp
  have r2 : roomB (n + 1) 8 = true := by
   unfold roomB
   rw [Bool.and_eq_true]
   exact ⟨Nat.ble_eq_true_of_le (by unfold maxLen; omega), Nat.ble_eq_true_of_le (by omega)⟩
  rw [r1, r2]; rfl
 refine brcT hr ?_
 have hK := in_one (n := n + 1) (by omega) hK
 exact kA (fun _ => hK) fun _ => hK
theorem zinst_ok {z : Zt} {u : Int} (hb : bdZ z.F = true) (h1 : -9223372036854775808 ≤ u) (h2 : u ≤ 9223372036854775807) : AFLL (tab [(49, zyRight), (80, zyAt0), (119, zySearch), (92, cyYear), (152, cyStand 1)]) (inLG z u (IntKind.wrap .i64 (u - 57600)) (IntKind.wrap .i64 (u + 57600)) (x1Of z u) (x2Of z u)) 12 36 [.agg (avZ z), .int .i64 u] (Res (.tup [.int .i64 (instE z u).1, .int .i64 (instE z u).2, .int .i64 (iErr z u)])) := by
 rw [zinst_vc]
 have no : ∀ e : Int, iErr z u = e → e ≠ 0 → Res (.tup [.int .i64 (instE z u).1, .int .i64 (instE z u).2, .int .i64 (iErr z u)]) (AV.tup [AV.int IntKind.i64 0, AV.int IntKind.i64 0, AV.int IntKind.i64 e]) := fun e he h => by
  have : instE z u = (0, 0) := by unfold instE; rw [if_neg (by rw [he]; exact h)]
  rw [this, he]; exact res_rfl rfl
 refine brcT (tyZ z hb) ?_
 rintro _ rfl
 refine kA (fun a => ?_) fun a => ?_
 · exact no 1 (by unfold iErr; rw [if_neg (by simpa using a)]) (by omega)
 have hz : ZtOk z := by simpa using a
 have far : ¬ (Asked u ∧ Asked (u - 57600) ∧ Asked (u + 57600)) → Res (.tup [.int .i64 (instE z u).1, .int .i64 (instE z u).2, .int .i64 (iErr z u)]) (AV.tup [AV.int IntKind.i64 0, AV.int IntKind.i64 0, AV.int IntKind.i64 10]) := fun h => no 10 (by unfold iErr; rw [if_pos hz, if_neg h]) (by omega)
 refine brcT (decide_eq_true ⟨h1, h2⟩) ?_
 rintro _ rfl
 refine kA (fun b => ?_) fun b => far fun q => of_decide_eq_false b q.1.1
 refine kA (fun c => far fun q => by simp at c; have := q.1.2; omega) fun c => ?_
 have hk : Asked u := ⟨of_decide_eq_true b, by simpa using c⟩
 have hub := asked_bd hk
 have ea : IntKind.wrap .i64 (u - 57600) = u - 57600 := jZ (by omega)
 have eb : IntKind.wrap .i64 (u + 57600) = u + 57600 := jZ (by omega)
 refine brcT (tyZ z hb) ?_
 rintro _ rfl
 refine kA (fun a => by simp [hz] at a) fun _ => ?_
 refine brcT (decide_eq_true (by omega)) ?_
 rintro _ rfl
 refine kA (fun b => ?_) fun b => far fun q => of_decide_eq_false b (by rw [ea]; exact q.2.1.1)
 refine kA (fun c => far fun q => by simp at c; rw [ea] at c; have := q.2.1.2; omega) fun c => ?_
 have hka : Asked (IntKind.wrap .i64 (u - 57600)) := ⟨of_decide_eq_true b, by simpa using c⟩
 refine brcT (decide_eq_true (by omega)) ?_
 rintro _ rfl
 refine kA (fun b => ?_) fun b => far fun q => of_decide_eq_false b (by rw [eb]; exact q.2.2.1)
 refine kA (fun c => far fun q => by simp at c; rw [eb] at c; have := q.2.2.2; omega) fun c => ?_
 have hkb : Asked (IntKind.wrap .i64 (u + 57600)) := ⟨of_decide_eq_true b, by simpa using c⟩
 have e0 : iErr z u = 0 := by unfold iErr; rw [if_pos hz, if_pos ⟨hk, ea ▸ hka, eb ▸ hkb⟩]
 have ei : instE z u = instF u (acS z u (u + 57601) (sEnd z u)) := by unfold instE; rw [if_pos e0]; rfl
 have fin : Res (.tup [.int .i64 (instE z u).1, .int .i64 (instE z u).2, .int .i64 (iErr z u)]) (resI (instF u (acS z u (u + 57601) (sEnd z u)))) := by
  rw [← ei, e0]; exact res_rfl rfl
 refine brcT (by rw [tyZ z hb, decide_eq_true (show RowsOk z 0 ∧ ((Zt.n z : Nat) : Int) = ((Zt.n z : Nat) : Int) ∧ Zt.n z ≤ 8192 from ⟨hz.rows, rfl, hz.2.2.1⟩)]; rfl) ?_
 rintro _ rfl
 have i1 : InC z u (IntKind.wrap .i64 (u - 57600)) (IntKind.wrap .i64 (u + 57600)) (x1Of z u).2 := ⟨hz, hb, ea, eb, hk, hka, hkb, Int.le_refl _, by show IntKind.wrap .i64 (u - 57600) ≤ _; omega, by show (0 : Int) ≤ IntKind.wrap .i64 (u - 57600) - _; omega, by show (-57600 : Int) ≤ 0 ∧ (0 : Int) ≤ 57600; omega, fun n g e => by cases e⟩
 have m1 : (x1Of z u).1 ≤ kz z (IntKind.wrap .i64 (u + 57600)) z.n := kz_mono z (by omega) z.n
 have j1 : ∀ j, (x1Of z u).1 ≤ j → j < z.n → (x1Of z u).2.fr < z.ta j := fun j g1 g2 => by
  have := (kz_iff hz.rows (IntKind.wrap .i64 (u - 57600)) z.n j (Nat.le_refl _) g2)
  have g1 : kz z (IntKind.wrap .i64 (u - 57600)) z.n ≤ j := g1
  rcases Int.lt_or_le (IntKind.wrap .i64 (u - 57600)) (z.ta j) with q | q
  · exact q
  · have := this.2 q; omega
 have i2 : InC z u (IntKind.wrap .i64 (u - 57600)) (IntKind.wrap .i64 (u + 57600)) (s1Of z u) := acR_keep _ _ _ i1 (by have := m1; show kz z (IntKind.wrap .i64 (u - 57600)) z.n + (kz z (IntKind.wrap .i64 (u + 57600)) z.n - kz z (IntKind.wrap .i64 (u - 57600)) z.n) ≤ _; have : (x1Of z u).1 = kz z (IntKind.wrap .i64 (u - 57600)) z.n := rfl; omega) j1
 have c2 : z.F.z = true → (x2Of z u).2.fr ≤ (x2Of z u).1 := fun hF => by
  show (s1Of z u).fr ≤ curOf z u
  have hfo := hz.foot hF
  have hfa : Asked z.F.fr := ⟨by have := hfo.2.2.1; omega, by have := hfo.2.2.2.1; omega⟩
  have hfb := asked_bd hfa
  have efr : (s1Of z u).fr = _ := acR_fr z u (kz z (IntKind.wrap .i64 (u + 57600)) z.n - kz z (IntKind.wrap .i64 (u - 57600)) z.n) (kz z (IntKind.wrap .i64 (u - 57600)) z.n) _
  rw [efr]
  unfold curOf
  rw [show IntKind.wrap .i64 (z.F.fr - 1) = z.F.fr - 1 from jZ (by omega)]
  have hn := kz_le z (IntKind.wrap .i64 (u + 57600)) z.n
  split
  · show IntKind.wrap .i64 (u - 57600) ≤ _
    split <;> omega
  · rename_i hne
    have hle : z.ta (kz z (IntKind.wrap .i64 (u - 57600)) z.n + (kz z (IntKind.wrap .i64 (u + 57600)) z.n - kz z (IntKind.wrap .i64 (u - 57600)) z.n) - 1) ≤ z.F.fr - 1 := by
     have hla : z.ta (z.n - 1) < z.F.fr := by
      rcases hfo.2.2.2.2 with e | e
      · omega
      · exact e
     have hx : kz z (IntKind.wrap .i64 (u - 57600)) z.n + (kz z (IntKind.wrap .i64 (u + 57600)) z.n - kz z (IntKind.wrap .i64 (u - 57600)) z.n) - 1 ≤ z.n - 1 := by
      have := kz_mono z (show IntKind.wrap .i64 (u - 57600) ≤ IntKind.wrap .i64 (u + 57600) by omega) z.n
      omega
     rcases Nat.lt_or_eq_of_le hx with q | q
     · have := rows_lt' hz.rows q (by omega); omega
     · rw [q]; omega
    split <;> omega
 have i3 : z.F.z = true → InC z u (IntKind.wrap .i64 (u - 57600)) (IntKind.wrap .i64 (u + 57600)) (s2Of z u) := fun hF => by
  have hFo : FtOk z.F := (hz.foot hF).1.1
  show InC z u _ _ (acF z u (ix z.F (IntKind.wrap .i64 (u + 57600)) - ix z.F (curOf z u)).toNat (ix z.F (curOf z u)) (s1Of z u))
  rcases Int.lt_or_le (ix z.F (IntKind.wrap .i64 (u + 57600))) (ix z.F (curOf z u)) with q | q
  · rw [show (ix z.F (IntKind.wrap .i64 (u + 57600)) - ix z.F (curOf z u)).toNat = 0 by omega]; exact i2
  · refine acF_keep hFo _ _ _ i2 (by omega) ?_
    have := (ix_spec hFo (curOf z u)).2
    have := c2 hF
    have : (x2Of z u).2.fr = (s1Of z u).fr := rfl
    have : (x2Of z u).1 = curOf z u := rfl
    omega
 have e1 : z.F.z ≠ true → sEnd z u = s1Of z u := fun h => by unfold sEnd; rw [if_neg h]
 have e2 : z.F.z = true → sEnd z u = s2Of z u := fun h => by unfold sEnd; rw [if_pos h]
 refine ⟨isH_rfl _, ⟨i1, m1, j1⟩, fun hf => ?_, fun n c hf => ?_⟩
 · refine kA (fun q => ?_) fun q => ?_
   · refine in_end0 i2 hf ?_
     rw [← e1 (by simpa using q)]; exact fin
   · have hF : z.F.z = true := by simpa using q
     rw [e2 hF] at fin
     refine ⟨?_, ⟨i2, hF, c2 hF⟩, fun hf2 => ⟨in_end0 (i3 hF) hf2 fin, in_end0 (i3 hF) hf2 fin⟩, fun n c hf2 => ⟨in_end1 (i3 hF) hf2 fin, in_end1 (i3 hF) hf2 fin⟩⟩
     unfold isH inHx2 x2Of
     simp only [hf]
 · refine kA (fun q => ?_) fun q => ?_
   · refine in_end1 i2 hf ?_
     rw [← e1 (by simpa using q)]; exact fin
   · have hF : z.F.z = true := by simpa using q
     rw [e2 hF] at fin
     refine ⟨?_, ⟨i2, hF, c2 hF, ?_⟩, fun n c hf2 => ⟨in_end1 (i3 hF) hf2 fin, in_end1 (i3 hF) hf2 fin⟩⟩
     · unfold isH inHx3 x2Of
       simp only [hf]
     · show (s1Of z u).f ≠ none
       rw [hf]; intro e; cases e
noncomputable def zyInst : Con
 | [.agg l, .int .i64 u] => match rdZ l with
  | some (p, z) => some (p && decide (-9223372036854775808 ≤ u ∧ u ≤ 9223372036854775807), .tup [.int .i64 (instE z u).1, .int .i64 (instE z u).2, .int .i64 (iErr z u)])
  | none => none
 | _ => none
theorem afll_con {T : Tab} (hT : TabOk Tryz.prog T) {g : Nat} (hn : (Tryz.prog.funcs[g]?).any (fun fn => !(fn.name == "runtime.NumGoroutine")) = true) {con : Con}
 (h : ∀ args p v, con args = some (p, v) → p = true → ∃ args' n LG, (∀ w A, RL noNames w args A → RL noNames w args' A) ∧ (∀ g, LtOk Tryz.prog g (LG g)) ∧ AFLL T LG n g args' (Res v)) : COk Tryz.prog g con := by
 intro args p v hc hp w A hA
 obtain ⟨args', n, LG, h1, h2, h3⟩ := h args p v hc hp
 refine givesF_ok mixed hT hn h2 (n := n) ?_ (h1 w A hA)
 unfold AFLL at h3
 with_reducible exact h3
theorem zyInst_ok : COk Tryz.prog 36 zyInst := afll_con (kB zyRight_ok (kB zyAt0_ok (kB zySearch_ok (kB cyYear_ok (kB cyNextF_ok bA))))) (by kernel_rfl) fun args p v hc hp => by
 unfold zyInst at hc
 split at hc
 case h_2 => cases hc
 split at hc
 case h_2 => cases hc
 rename_i u _ q z hl
 simp only [Option.some.injEq, Prod.mk.injEq] at hc
 obtain ⟨rfl, rfl⟩ := hc
 rw [Bool.and_eq_true] at hp
 obtain ⟨rfl, hq⟩ := hp
 obtain ⟨h3, h4⟩ := of_decide_eq_true hq
 obtain ⟨k1, k2⟩ := rdZ_move hl
 exact ⟨_, _, _, fun w A hA => rl_1 (fun V h => k2 h) hA, inLG_ok z u _ _ _ _, zinst_ok k1 h3 h4⟩
end Go.Proofs.YtimgphlfaninnaaGreat.P
namespace Go.Proofs.YtimgphlfaninnaaGreat.P
open Go.RowKit Go.Proofs.YtimgphlfaninnaaGreat.Ft Go.Proofs.YtimgphlfaninnaaGreat.Zn
set_option linter.unusedVariables false
set_option linter.unusedSimpArgs false
def JF (z : Zt) (u a : Int) (s : Ac) : Prop := match s.f with
 | none => ∀ x, a ≤ x → x < s.fr → x + (atZ z x).off ≠ u
 | some (n, g) => (a ≤ g 0 ∧ g 0 < s.fr ∧ g 0 + (atZ z (g 0)).off = u) ∧ (∀ x, a ≤ x → x < s.fr → x + (atZ z x).off = u → g 0 ≤ x) ∧ (n = 1 → ∀ x, a ≤ x → x < s.fr → x + (atZ z x).off = u → x = g 0)
theorem JF_step {z : Zt} {u a t : Int} {s : Ac} (h : JF z u a s) (hlo : a ≤ s.fr) (ht : s.fr < t) (hp : ∀ n g, s.f = some (n, g) → 0 < n) (hc : ∀ x, s.fr ≤ x → x < t → atZ z x = atZ z s.fr) : JF z u a (acS z u t s) := by
 have key : ∀ x, s.fr ≤ x → x < t → x + (atZ z x).off = u → x = u - (atZ z s.fr).off := fun x h1 h2 h3 => by rw [hc x h1 h2] at h3; omega
 have ef : (acS z u t s).fr = t := rfl
 by_cases hw : s.fr ≤ u - (atZ z s.fr).off ∧ u - (atZ z s.fr).off ≤ t - 1
 · have hx : u - (atZ z s.fr).off + (atZ z (u - (atZ z s.fr).off)).off = u := by rw [hc _ hw.1 (by omega)]; omega
   have e1 : (acS z u t s).f = acPush s.f (u - (atZ z s.fr).off) := by simp only [acS]; rw [if_pos hw]
   unfold JF at h ⊢
   rw [e1, ef]
   cases hf : s.f with
   | none =>
    rw [hf] at h
    simp only at h
    have one : ∀ x, a ≤ x → x < t → x + (atZ z x).off = u → x = u - (atZ z s.fr).off := fun x h1 h2 h3 => by
     rcases Int.lt_or_le x s.fr with q | q
     · exact (h x h1 q h3).elim
     · exact key x q h2 h3
    exact ⟨⟨by show a ≤ u - (atZ z s.fr).off; omega, by show u - (atZ z s.fr).off < t; omega, hx⟩, fun x h1 h2 h3 => by rw [one x h1 h2 h3]; exact Int.le_refl _, fun _ x h1 h2 h3 => one x h1 h2 h3⟩
   | some p =>
    obtain ⟨n, g⟩ := p
    have hn := hp n g hf
    rw [hf] at h
    simp only at h
    obtain ⟨⟨h1, h2, h3⟩, h4, h5⟩ := h
    have e0 : (if decide (0 < n) = true then g 0 else u - (atZ z s.fr).off) = g 0 := if_pos (decide_eq_true hn)
    simp only [acPush, e0]
    refine ⟨⟨h1, by omega, h3⟩, fun x k1 k2 k3 => ?_, fun e => by omega⟩
    rcases Int.lt_or_le x s.fr with q | q
    · exact h4 x k1 q k3
    · omega
 · have e1 : (acS z u t s).f = s.f := by simp only [acS]; rw [if_neg hw]
   have no : ∀ x, s.fr ≤ x → x < t → x + (atZ z x).off = u → False := fun x h1 h2 h3 => hw (by have := key x h1 h2 h3; omega)
   unfold JF at h ⊢
   rw [e1, ef]
   cases hf : s.f with
   | none =>
    rw [hf] at h
    simp only at h ⊢
    intro x h1 h2 h3
    rcases Int.lt_or_le x s.fr with q | q
    · exact h x h1 q h3
    · exact no x q h2 h3
   | some p =>
    obtain ⟨n, g⟩ := p
    rw [hf] at h
    simp only at h ⊢
    obtain ⟨⟨h1, h2, h3⟩, h4, h5⟩ := h
    refine ⟨⟨h1, by omega, h3⟩, fun x k1 k2 k3 => ?_, fun e x k1 k2 k3 => ?_⟩
    · rcases Int.lt_or_le x s.fr with q | q
      · exact h4 x k1 q k3
      · exact (no x q k2 k3).elim
    · rcases Int.lt_or_le x s.fr with q | q
      · exact h5 e x k1 q k3
      · exact (no x q k2 k3).elim
theorem at_rows {z : Zt} (hz : ZtOk z) {k : Nat} (hk : k ≤ z.n) {x : Int} (h1 : k = 0 ∨ z.ta (k - 1) ≤ x) (h2 : k < z.n → x < z.ta k) (h3 : z.F.z = true → x < z.F.fr) : atZ z x = rowTr z k := by
 unfold atZ
 rw [if_neg (fun q => by have := h3 q.1; omega), kz_is hz.rows hk h1 h2]
theorem row_foot {z : Zt} (hz : ZtOk z) (hF : z.F.z = true) {k : Nat} (hk : k < z.n) : z.ta k < z.F.fr := by
 have hla : z.ta (z.n - 1) < z.F.fr := by
  rcases (hz.foot hF).2.2.2.2 with e | e
  · omega
  · exact e
 rcases Nat.lt_or_eq_of_le (show k ≤ z.n - 1 by omega) with q | q
 · have := rows_lt' hz.rows q (by omega); omega
 · rw [q]; exact hla
structure RowAt (z : Zt) (k : Nat) (s : Ac) : Prop where
 le : k ≤ z.n
 lo : k = 0 ∨ z.ta (k - 1) ≤ s.fr
 hi : ∀ j, k ≤ j → j < z.n → s.fr < z.ta j
theorem acR_J {z : Zt} {u a b : Int} : ∀ (m k : Nat) (s : Ac), InC z u a b s → k + m ≤ kz z b z.n → RowAt z k s → JF z u a s → JF z u a (acR z u m k s) ∧ RowAt z (k + m) (acR z u m k s)
 | 0, k, s, h, hk, hr, hj => ⟨hj, hr⟩
 | m + 1, k, s, h, hk, hr, hj => by
  have hle := kz_le z b z.n
  have hkn : k < z.n := by omega
  have ht := hr.hi k (Nat.le_refl _) hkn
  have htb := (kz_iff h.ok.rows b z.n k (Nat.le_refl _) hkn).1 (by omega)
  have hc : ∀ x, s.fr ≤ x → x < z.ta k → atZ z x = atZ z s.fr := fun x h1 h2 => by
   have lo : ∀ y, s.fr ≤ y → (k = 0 ∨ z.ta (k - 1) ≤ y) := fun y hy => by rcases hr.lo with e | e; exact .inl e; exact .inr (by omega)
   rw [at_rows h.ok hr.le (lo x h1) (fun _ => h2) (fun hF => by have := row_foot h.ok hF hkn; omega), at_rows h.ok hr.le (lo _ (Int.le_refl _)) (fun _ => ht) (fun hF => by have := row_foot h.ok hF hkn; omega)]
  have hr' : RowAt z (k + 1) (acS z u (z.ta k) s) := ⟨hkn, .inr (Int.le_refl _), fun j h1 h2 => rows_lt' h.ok.rows (by omega) h2⟩
  have := acR_J m (k + 1) (acS z u (z.ta k) s) (in_next h ht htb) (by omega) hr' (JF_step hj h.lo ht h.pos hc)
  rw [show k + (m + 1) = k + 1 + m by omega]
  exact this
theorem acF_J {z : Zt} {u a b : Int} (hF : FtOk z.F) (hz : z.F.z = true) : ∀ (m : Nat) (i : Int) (s : Ac), InC z u a b s → i + m ≤ ix z.F b → s.fr < (sI z.F (i + 1)).t → z.F.fr ≤ (sI z.F (i + 1)).t → (∀ x, s.fr ≤ x → x ≤ b → x < (sI z.F (i + 1)).t → atZ z x = atZ z s.fr) → JF z u a s →
 JF z u a (acF z u m i s) ∧ (∀ x, (acF z u m i s).fr ≤ x → x ≤ b → x < (sI z.F (i + m + 1)).t → atZ z x = atZ z (acF z u m i s).fr)
 | 0, i, s, h, hk, hs, hf, hc, hj => ⟨hj, fun x h1 h2 h3 => hc x h1 h2 (by simpa using h3)⟩
 | m + 1, i, s, h, hk, hs, hf, hc, hj => by
  have h1 := sI_le hF (i := i + 1) (j := ix z.F b) (by omega)
  have h2 := (ix_spec hF b).1
  have h3 := sI_lt hF (i := i + 1) (j := i + 1 + 1) (by omega)
  have hc' : ∀ x, (sI z.F (i + 1)).t ≤ x → x ≤ b → x < (sI z.F (i + 1 + 1)).t → atZ z x = atZ z (sI z.F (i + 1)).t := fun x k1 k2 k3 => by
   unfold atZ
   rw [if_pos ⟨hz, by omega⟩, if_pos ⟨hz, hf⟩, ix_is hF k1 k3, ix_is hF (Int.le_refl _) h3]
  have := acF_J hF hz m (i + 1) (acS z u (sI z.F (i + 1)).t s) (in_next h hs (by omega)) (by omega) h3 (by omega) hc' (JF_step hj h.lo hs h.pos fun x k1 k2 => hc x k1 (by omega) k2)
  rw [show i + ((m + 1 : Nat) : Int) + 1 = i + 1 + (m : Int) + 1 by omega]
  exact this
structure CanIn (z : Zt) (u : Int) : Prop where
 bd : bdZ z.F = true
 ok : iErr z u = 0
theorem CanIn.zt {z : Zt} {u : Int} (h : CanIn z u) : ZtOk z ∧ Asked u ∧ Asked (u - 57600) ∧ Asked (u + 57600) := by
 have h := h.ok
 unfold iErr at h
 split at h
 · rename_i hz
   split at h
   · rename_i ha; exact ⟨hz, ha⟩
   · omega
 · omega
theorem CanIn.start {z : Zt} {u : Int} (h : CanIn z u) : IntKind.wrap .i64 (u - 57600) = u - 57600 ∧ IntKind.wrap .i64 (u + 57600) = u + 57600 ∧ InC z u (u - 57600) (u + 57600) (x1Of z u).2 := by
 obtain ⟨hz, hk, hka, hkb⟩ := h.zt
 have hub := asked_bd hk
 have ea : IntKind.wrap .i64 (u - 57600) = u - 57600 := jZ (by omega)
 have eb : IntKind.wrap .i64 (u + 57600) = u + 57600 := jZ (by omega)
 refine ⟨ea, eb, ⟨hz, h.bd, rfl, rfl, hk, hka, hkb, ?_, ?_, ?_, by show (-57600 : Int) ≤ 0 ∧ (0 : Int) ≤ 57600; omega, fun n g e => by cases e⟩⟩
 · show u - 57600 ≤ IntKind.wrap .i64 (u - 57600); omega
 · show IntKind.wrap .i64 (u - 57600) ≤ _; omega
 · show (0 : Int) ≤ IntKind.wrap .i64 (u - 57600) - _; omega
theorem CanIn.rows {z : Zt} {u : Int} (h : CanIn z u) : InC z u (u - 57600) (u + 57600) (s1Of z u) ∧ JF z u (u - 57600) (s1Of z u) ∧ RowAt z (kz z (u + 57600) z.n) (s1Of z u) := by
 obtain ⟨ea, eb, hi⟩ := h.start
 obtain ⟨hz, hk, hka, hkb⟩ := h.zt
 have mono := kz_mono z (show u - 57600 ≤ u + 57600 by omega) z.n
 have hle := kz_le z (u - 57600) z.n
 have hr : RowAt z (kz z (u - 57600) z.n) (x1Of z u).2 := by
  have hfr : (x1Of z u).2.fr = u - 57600 := ea
  refine ⟨hle, ?_, fun j g1 g2 => ?_⟩
  · rw [hfr]
    rcases Nat.eq_zero_or_pos (kz z (u - 57600) z.n) with e | e
    · exact .inl e
    · exact .inr ((kz_iff hz.rows (u - 57600) z.n _ (Nat.le_refl _) (by omega)).1 (by omega))
  · rw [hfr]
    rcases Int.lt_or_le (u - 57600) (z.ta j) with q | q
    · exact q
    · have := (kz_iff hz.rows (u - 57600) z.n j (Nat.le_refl _) g2).2 q; omega
 have hj : JF z u (u - 57600) (x1Of z u).2 := fun x h1 h2 => by
  have : x < IntKind.wrap .i64 (u - 57600) := h2
  omega
 have es : s1Of z u = acR z u (kz z (u + 57600) z.n - kz z (u - 57600) z.n) (kz z (u - 57600) z.n) (x1Of z u).2 := by
  unfold s1Of fin1
  rw [ea, eb]
  show acR z u _ _ _ = acR z u _ _ ⟨IntKind.wrap .i64 (u - 57600), 0, 0, 0, none⟩
  rw [ea]
 have a1 := acR_keep (kz z (u + 57600) z.n - kz z (u - 57600) z.n) (kz z (u - 57600) z.n) _ hi (by omega) hr.hi
 have a2 := acR_J (kz z (u + 57600) z.n - kz z (u - 57600) z.n) (kz z (u - 57600) z.n) _ hi (by omega) hr hj
 rw [← es] at a1 a2
 rw [show kz z (u - 57600) z.n + (kz z (u + 57600) z.n - kz z (u - 57600) z.n) = kz z (u + 57600) z.n by omega] at a2
 exact ⟨a1, a2⟩
theorem CanIn.last {z : Zt} {u : Int} (h : CanIn z u) : InC z u (u - 57600) (u + 57600) (sEnd z u) ∧ JF z u (u - 57600) (sEnd z u) ∧ ∀ x, (sEnd z u).fr ≤ x → x ≤ u + 57600 → atZ z x = atZ z (sEnd z u).fr := by
 obtain ⟨ea, eb, hi⟩ := h.start
 obtain ⟨hz, hk, hka, hkb⟩ := h.zt
 obtain ⟨i2, j2, r2⟩ := h.rows
 have hle := kz_le z (u + 57600) z.n
 have rowc : ∀ x, (s1Of z u).fr ≤ x → x ≤ u + 57600 → (z.F.z = true → x < z.F.fr) → atZ z x = atZ z (s1Of z u).fr := fun x h1 h2 h3 => by
  have up : ∀ y, y ≤ u + 57600 → kz z (u + 57600) z.n < z.n → y < z.ta (kz z (u + 57600) z.n) := fun y hy hn => by
   have := kz_iff hz.rows (u + 57600) z.n (kz z (u + 57600) z.n) (Nat.le_refl _) hn
   rcases Int.lt_or_le (u + 57600) (z.ta (kz z (u + 57600) z.n)) with q | q
   · omega
   · have := this.2 q; omega
  have lo : ∀ y, (s1Of z u).fr ≤ y → (kz z (u + 57600) z.n = 0 ∨ z.ta (kz z (u + 57600) z.n - 1) ≤ y) := fun y hy => by rcases r2.lo with e | e; exact .inl e; exact .inr (by omega)
  rw [at_rows hz hle (lo x h1) (up x h2) h3, at_rows hz hle (lo _ (Int.le_refl _)) (up _ (by omega)) (fun q => by have := h3 q; omega)]
 unfold sEnd
 split
 · rename_i hF
   have hfo := hz.foot hF
   have hFo : FtOk z.F := hfo.1.1
   have hfa : Asked z.F.fr := ⟨by have := hfo.2.2.1; omega, by have := hfo.2.2.2.1; omega⟩
   have hfb := asked_bd hfa
   have ec : curOf z u = if z.F.fr - 1 > u - 57600 then z.F.fr - 1 else u - 57600 := by
    unfold curOf; rw [ea, show IntKind.wrap .i64 (z.F.fr - 1) = z.F.fr - 1 from jZ (by omega)]
   have cle : z.F.fr - 1 ≤ curOf z u ∧ u - 57600 ≤ curOf z u := by rw [ec]; split <;> omega
   have hcs := ix_spec hFo (curOf z u)
   have frle : (s1Of z u).fr ≤ curOf z u := by
    rcases r2.lo with e | e
    · have := acR_fr z u (kz z (IntKind.wrap .i64 (u + 57600)) z.n - kz z (IntKind.wrap .i64 (u - 57600)) z.n) (kz z (IntKind.wrap .i64 (u - 57600)) z.n) ⟨IntKind.wrap .i64 (u - 57600), 0, 0, 0, none⟩
      have es : (s1Of z u).fr = _ := this
      rw [eb, e, ea] at es
      simp at es
      omega
    · have es : (s1Of z u).fr = _ := acR_fr z u (kz z (IntKind.wrap .i64 (u + 57600)) z.n - kz z (IntKind.wrap .i64 (u - 57600)) z.n) (kz z (IntKind.wrap .i64 (u - 57600)) z.n) ⟨IntKind.wrap .i64 (u - 57600), 0, 0, 0, none⟩
      rw [es, ea, eb]
      split
      · show u - 57600 ≤ _; omega
      · rename_i hne
        have := row_foot hz hF (k := kz z (u - 57600) z.n + (kz z (u + 57600) z.n - kz z (u - 57600) z.n) - 1) (by omega)
        omega
   have hcur : ∀ x, (s1Of z u).fr ≤ x → x ≤ u + 57600 → x < (sI z.F (ix z.F (curOf z u) + 1)).t → atZ z x = atZ z (s1Of z u).fr := fun x h1 h2 h3 => by
    by_cases hx : x < z.F.fr
    · exact rowc x h1 h2 fun _ => hx
    · by_cases hs : (s1Of z u).fr < z.F.fr
      · -- then the next shift is the foot's first
        have hcu : curOf z u = z.F.fr - 1 := by
         rw [ec]
         split
         · rfl
         · exfalso
           rename_i g
           have hlo := i2.lo
           by_cases ge : z.F.fr - 1 = u - 57600
           · have hft := hfo.2.1
             have : ix z.F (curOf z u) + 1 = ix z.F z.F.fr := by
              rw [ec, if_neg g, ← ge]
              have : ix z.F (z.F.fr - 1) = ix z.F z.F.fr - 1 := ix_is hFo (by have := sI_lt hFo (i := ix z.F z.F.fr - 1) (j := ix z.F z.F.fr) (by omega); omega) (by rw [show ix z.F z.F.fr - 1 + 1 = ix z.F z.F.fr by omega]; omega)
              omega
             rw [this] at h3
             omega
           · omega
        have hft := hfo.2.1
        have e1 : ix z.F (z.F.fr - 1) = ix z.F z.F.fr - 1 := ix_is hFo (by have := sI_lt hFo (i := ix z.F z.F.fr - 1) (j := ix z.F z.F.fr) (by omega); omega) (by rw [show ix z.F z.F.fr - 1 + 1 = ix z.F z.F.fr by omega]; omega)
        rw [hcu, e1, show ix z.F z.F.fr - 1 + 1 = ix z.F z.F.fr by omega] at h3
        omega
      · unfold atZ
        have hcu : (s1Of z u).fr = curOf z u := by
         have : curOf z u = u - 57600 ∨ curOf z u = z.F.fr - 1 := by rw [ec]; split <;> omega
         have := i2.lo
         omega
        rw [if_pos ⟨hF, by omega⟩, if_pos ⟨hF, by omega⟩, hcu, ix_is hFo (by rw [hcu] at h1; exact Int.le_trans hcs.1 h1) h3]
   show InC z u _ _ (acF z u (ix z.F (IntKind.wrap .i64 (u + 57600)) - ix z.F (curOf z u)).toNat (ix z.F (curOf z u)) (s1Of z u)) ∧ JF z u _ (acF z u (ix z.F (IntKind.wrap .i64 (u + 57600)) - ix z.F (curOf z u)).toNat (ix z.F (curOf z u)) (s1Of z u)) ∧ _
   rw [eb]
   have hbs := ix_spec hFo (u + 57600)
   rcases Int.lt_or_le (ix z.F (u + 57600)) (ix z.F (curOf z u)) with q | q
   · have e2 : s2Of z u = s1Of z u := by
      unfold s2Of fin2
      rw [eb, show (ix z.F (u + 57600) - ix z.F (curOf z u)).toNat = 0 by omega]; rfl
     rw [show (ix z.F (u + 57600) - ix z.F (curOf z u)).toNat = 0 by omega, e2]
     refine ⟨i2, j2, fun x h1 h2 => hcur x h1 h2 ?_⟩
     have := sI_le hFo (i := ix z.F (u + 57600) + 1) (j := ix z.F (curOf z u) + 1) (by omega)
     omega
   · have a1 := acF_keep hFo (ix z.F (u + 57600) - ix z.F (curOf z u)).toNat (ix z.F (curOf z u)) _ i2 (by omega) (by omega)
     have a2 := acF_J hFo hF (ix z.F (u + 57600) - ix z.F (curOf z u)).toNat (ix z.F (curOf z u)) _ i2 (by omega) (by omega) (by omega) hcur j2
     have e2 : s2Of z u = acF z u (ix z.F (u + 57600) - ix z.F (curOf z u)).toNat (ix z.F (curOf z u)) (s1Of z u) := by
      unfold s2Of fin2
      rw [eb]
     rw [e2]
     rw [show ix z.F (curOf z u) + ((ix z.F (u + 57600) - ix z.F (curOf z u)).toNat : Int) = ix z.F (u + 57600) by omega] at a2
     exact ⟨a1, a2.1, fun x h1 h2 => a2.2 x h1 h2 (by omega)⟩
 · rename_i hF
   exact ⟨i2, j2, fun x h1 h2 => rowc x h1 h2 fun q => (hF q).elim⟩
theorem inst_law {z : Zt} {u : Int} (h : CanIn z u) : (u - 57600 ≤ (instE z u).1 ∧ (instE z u).1 ≤ u + 57600) ∧
 (((instE z u).2 = 2 ∧ ∀ y, u - 57600 ≤ y → y ≤ u + 57600 → y + (atZ z y).off ≠ u) ∨
  (((instE z u).2 = 0 ∨ (instE z u).2 = 1) ∧ (instE z u).1 + (atZ z (instE z u).1).off = u ∧ ∀ y, u - 57600 ≤ y → y ≤ u + 57600 → y + (atZ z y).off = u → (instE z u).1 ≤ y ∧ ((instE z u).2 = 0 → y = (instE z u).1))) := by
 obtain ⟨i, j, c⟩ := h.last
 have hhi := i.hi
 have hJ := JF_step (t := u + 57601) j i.lo (by omega) i.pos fun x h1 h2 => c x h1 (by omega)
 have hP := acS_pos (z := z) (u := u) (t := u + 57601) i.pos
 have e : instE z u = instF u (acS z u (u + 57601) (sEnd z u)) := by unfold instE instZ; rw [if_pos h.ok]
 have hl : -57600 ≤ (acS z u (u + 57601) (sEnd z u)).l2 ∧ (acS z u (u + 57601) (sEnd z u)).l2 ≤ 57600 := by
  have h3 := i.off
  have h4 := i.l2
  simp only [acS]
  split
  · exact h3
  · exact h4
 rw [e]
 unfold JF at hJ
 unfold instF
 have ef : (acS z u (u + 57601) (sEnd z u)).fr = u + 57601 := rfl
 rw [ef] at hJ
 generalize acS z u (u + 57601) (sEnd z u) = s at *
 cases hf : s.f with
 | none =>
  rw [hf] at hJ
  simp only at hJ ⊢
  exact ⟨by omega, .inl ⟨trivial, fun y h1 h2 => hJ y h1 (by omega)⟩⟩
 | some p =>
  obtain ⟨n, g⟩ := p
  have hn := hP n g hf
  rw [hf] at hJ
  simp only at hJ ⊢
  obtain ⟨⟨h1, h2, h3⟩, h4, h5⟩ := hJ
  refine ⟨by omega, .inr ⟨by split <;> simp, h3, fun y k1 k2 k3 => ⟨h4 y k1 (by omega) k3, fun hz => h5 ?_ y k1 (by omega) k3⟩⟩⟩
  rcases Nat.decEq n 1 with q | q
  · rw [if_neg q] at hz; omega
  · exact q
end Go.Proofs.YtimgphlfaninnaaGreat.P
namespace Go.Proofs.YtimgphlfaninnaaGreat.P
open Go.RowKit Go.Proofs.YtimgphlfaninnaaGreatW.PrintWords Go.Proofs.YtimgphlfaninnaaGreatW.PrintLast Go.Proofs.YtimgphlfaninnaaGreatW.PrintMore
open Go.Proofs.YtimgphlfaninnaaGreat.A
 attribute [local go_sem] bF bD bL bM kY kZ bC bE
set_option linter.unusedVariables false
set_option linter.unusedSimpArgs false
def kM.j0 : Nat → Int → Bool → Int → Int → Option (Int × Int × Int)
 | 0, _, _, _, _ => none
 | k + 1, x1, x19, x207000, x207001 => if x19 = true then (some (0, 0, 1)) else (if x207000 = 0 then ((bW.f k x207001 86400000000).bind fun bt209 => (if bt209.2 = 0 then ((jT.f bt209.1 x1).bind fun bt211 => (if bt211.2 = 0 then ((kI.f k 0 bt211.1).bind fun t214 => (if t214 = true then (some (0, bt211.1, 0)) else (some (0, 0, 10)))) else (some (0, 0, 10)))) else (some (0, 0, 10)))) else (some (x207000, 0, 0)))
def kM.f (k : Nat) (a0_0 : Int) (a0_1 : Int) (a1 : Int) : Option (Int × Int × Int) := (bX.f a0_0 a0_1).bind fun t208 => (if t208 = true then (if a1 < 0 then (kM.j0 k a1 true a0_0 a0_1) else (kM.j0 k a1 (decide (a1 > 86400000000)) a0_0 a0_1)) else (kM.j0 k a1 true a0_0 a0_1))
theorem kM.mono_l : ∀ k, (∀ y0 y1 y2 y3, LeO (kM.j0 k y0 y1 y2 y3) (kM.j0 (k + 1) y0 y1 y2 y3))
 | 0 => fun _ _ _ _ r h => by simp [kM.j0] at h
 | k + 1 => by
  have ih0 := kM.mono_l k
  · intro y0 y1 y2 y3
    unfold kM.j0
    repeat' first
    | (with_reducible exact ih0 _ _ _ _)
    | (with_reducible exact kI.mono _ _ _)
    | (with_reducible exact bW.mono _ _ _)
    | (with_reducible exact LeO.refl _)
    | (with_reducible exact LeO.none _)
    | (with_reducible refine LeO.ite ?_ ?_)
    | (with_reducible refine LeO.bind ?_ (fun _ => ?_))
    | exact ih0 _ _ _ _
    | exact kI.mono _ _ _
    | exact bW.mono _ _ _
    | exact LeO.none _
    | refine LeO.ite ?_ ?_
    | refine LeO.bind ?_ (fun _ => ?_)
theorem kM.mono : ∀ a0 a1 a2 k, LeO (kM.f k a0 a1 a2) (kM.f (k + 1) a0 a1 a2) := by
 intro a0 a1 a2 k
 have ih0 := kM.mono_l k
 unfold kM.f
 repeat' first
  | (with_reducible exact ih0 _ _ _ _)
  | (with_reducible exact kI.mono _ _ _)
  | (with_reducible exact bW.mono _ _ _)
  | (with_reducible exact LeO.refl _)
  | (with_reducible exact LeO.none _)
  | (with_reducible refine LeO.ite ?_ ?_)
  | (with_reducible refine LeO.bind ?_ (fun _ => ?_))
  | exact ih0 _ _ _ _
  | exact kI.mono _ _ _
  | exact bW.mono _ _ _
  | exact LeO.none _
  | refine LeO.ite ?_ ?_
  | refine LeO.bind ?_ (fun _ => ?_)
set_option maxRecDepth 100000 in
theorem kM.vc (k : Nat) (a0_0 : Int) (a0_1 : Int) (a1 : Int) (K : AV → Prop) : afv PA Tryz.prog (tab [(51, kI.con k), (67, jT.con), (78, bW.con k), (124, bX.con)]) noLoops 2 86 [.agg [.int .i64 a0_0, .int .i64 a0_1], .int .i64 a1] K = (brc (Option.isSome (bX.f a0_0 a0_1)) (∀ (m0 : Bool), m0 = gd (bX.f a0_0 a0_1) → brc (!m0) (K (AV.tup [AV.agg [AV.int IntKind.i64 0, AV.int IntKind.i64 0], AV.int IntKind.i64 1])) (brc (decide (a1 < 0)) (K (AV.tup [AV.agg [AV.int IntKind.i64 0, AV.int IntKind.i64 0], AV.int IntKind.i64 1])) (brc (decide (a1 > 86400000000)) (K (AV.tup [AV.agg [AV.int IntKind.i64 0, AV.int IntKind.i64 0], AV.int IntKind.i64 1])) (brc (a0_0 != 0) (K (AV.tup [AV.agg [AV.int IntKind.i64 a0_0, AV.int IntKind.i64 0], AV.int IntKind.i64 0])) (brc (Option.isSome (bW.f k a0_1 86400000000)) (∀ (m1 : Int), m1 = Prod.fst (gd (bW.f k a0_1 86400000000)) → ∀ (m2 : Int), m2 = Prod.snd (gd (bW.f k a0_1 86400000000)) → brc (m2 == 0) (brc (Option.isSome (jT.f m1 a1)) (∀ (m3 : Int), m3 = Prod.fst (gd (jT.f m1 a1)) → ∀ (m4 : Int), m4 = Prod.snd (gd (jT.f m1 a1)) → brc (m4 != 0) (K (AV.tup [AV.agg [AV.int IntKind.i64 0, AV.int IntKind.i64 0], AV.int IntKind.i64 10])) (brc (Option.isSome (kI.f k 0 m3)) (∀ (m5 : Bool), m5 = gd (kI.f k 0 m3) → brc (!m5) (K (AV.tup [AV.agg [AV.int IntKind.i64 0, AV.int IntKind.i64 0], AV.int IntKind.i64 10])) (K (AV.tup [AV.agg [AV.int IntKind.i64 0, AV.int IntKind.i64 m3], AV.int IntKind.i64 0]))) False)) False) (brc (m2 != 0) (K (AV.tup [AV.agg [AV.int IntKind.i64 0, AV.int IntKind.i64 0], AV.int IntKind.i64 10])) (brc (Option.isSome (kI.f k 0 m1)) (∀ (m3 : Bool), m3 = gd (kI.f k 0 m1) → brc (!m3) (K (AV.tup [AV.agg [AV.int IntKind.i64 0, AV.int IntKind.i64 0], AV.int IntKind.i64 10])) (K (AV.tup [AV.agg [AV.int IntKind.i64 0, AV.int IntKind.i64 m1], AV.int IntKind.i64 0]))) False))) False))))) False) := by kernel_rfl
set_option maxHeartbeats 1000000 in
set_option maxRecDepth 100000 in
theorem kM.calls (k : Nat) (a0_0 : Int) (a0_1 : Int) (a1 : Int) (r1 : Int) (r2 : Int) (r3 : Int) (w : World) (h : kM.f k a0_0 a0_1 a1 = some (r1, r2, r3)) :
 Calls Tryz.prog 86 #[.agg #[.int .i64 a0_0, .int .i64 a0_1], .int .i64 a1] w fun e w' => e = .returned (.tuple #[.agg #[.int .i64 r1, .int .i64 r2], .int .i64 r3]) ∧ Below w.heap.size w w' := by
 refine jG (A := [.agg #[.int .i64 a0_0, .int .i64 a0_1], .int .i64 a1]) (v := .tup [.agg [.int .i64 r1, .int .i64 r2], .int .i64 r3]) (kB (kI.cok k) (kB (jT.cok) (kB (bW.cok k) (kB (bX.cok) (bA))))) ((kM.vc k a0_0 a0_1 a1 _).mpr ?_) (by simp [kF, kJ, kK, kO, kW, kV, jS]) (fun ρ V' hV => by simpa [kF, kJ, kK, kO, kW, kV, bI] using hV)
 unfold kM.f at h
 cases k with
 | zero =>
  (try simp only [kM.j0] at h)
  (try simp only [bne, Option.bind_eq_some_iff, bQ] at h)
  (try simp only [bne, jW, wrap_i64])
  first
   | grind (splits := 60) [kG]
   | ((repeat' (first | (have or_ : Or _ _ := h; clear or_; rcases h with h | h) | (have or_ : Exists _ := h; clear or_; obtain ⟨_, h⟩ := h) | (have or_ : And _ _ := h; clear or_; obtain ⟨hq_, h⟩ := h))) <;> (try simp only [Option.some.injEq, Prod.mk.injEq, reduceCtorEq] at h) <;> (try subst_vars) <;> first | (simp_all [kG] <;> (try omega) <;> rcases hb0 : decide (a1 < 0) with _ | _ <;> rcases hb1 : decide (a1 > 86400000000) with _ | _ <;> simp_all [kG] <;> done) | grind (splits := 60) [kG])
   | (intros; subst_vars; simp_all [kG]; done)
 | succ k =>
  (try simp only [kM.j0] at h)
  (try simp only [bne, Option.bind_eq_some_iff, bQ] at h)
  (try simp only [bne, jW, wrap_i64])
  first
   | grind (splits := 60) [kG, kI.up, bW.up]
   | ((repeat' (first | (have or_ : Or _ _ := h; clear or_; rcases h with h | h) | (have or_ : Exists _ := h; clear or_; obtain ⟨_, h⟩ := h) | (have or_ : And _ _ := h; clear or_; obtain ⟨hq_, h⟩ := h; (try first | replace hq_ := kI.le (n := k + 1) hq_ (by omega) | replace hq_ := bW.le (n := k + 1) hq_ (by omega))))) <;> (try simp only [Option.some.injEq, Prod.mk.injEq, reduceCtorEq] at h) <;> (try subst_vars) <;> first | (simp_all [kG] <;> (try omega) <;> rcases hb0 : decide (a1 < 0) with _ | _ <;> rcases hb1 : decide (a1 > 86400000000) with _ | _ <;> simp_all [kG] <;> done) | grind (splits := 60) [kG, kI.up, bW.up])
   | (intros; subst_vars; simp_all [kG]; done)
noncomputable def kM.con (k : Nat) : Con
 | [.agg [.int .i64 a0_0, .int .i64 a0_1], .int .i64 a1] => some ((kM.f k a0_0 a0_1 a1).isSome, .tup [.agg [.int .i64 (gd (kM.f k a0_0 a0_1 a1)).1, .int .i64 (gd (kM.f k a0_0 a0_1 a1)).2.1], .int .i64 (gd (kM.f k a0_0 a0_1 a1)).2.2])
 | _ => none
set_option maxRecDepth 100000 in
theorem kM.cok (k : Nat) : COk Tryz.prog 86 (kM.con k) := by
 intro args p v hc hp w A hA
 unfold kM.con at hc
 split at hc
 · rename_i a0_0 a0_1 a1
   simp only [Option.some.injEq, Prod.mk.injEq] at hc
   obtain ⟨rfl, rfl⟩ := hc
   rcases hf : kM.f k a0_0 a0_1 a1 with _ | ⟨r1, r2, r3⟩
   · rw [hf] at hp; cases hp
   obtain rfl : A = [.agg #[.int .i64 a0_0, .int .i64 a0_1], .int .i64 a1] := by simpa [kF, kJ, kK, kO, kW, kV, jS] using hA
   exact kH (fn := Tryz.f86) Tryz.func86 (by kernel_rfl) (by kernel_rfl) (kM.calls _ _ _ _ _ _ _ w hf) (fun _ => by simp [kG, kF, kJ, kK, kO, kW, kV, bI]) (fun _ h => h)
 · cases hc
theorem kM.up {k : Nat} {a0_0 : Int} {a0_1 : Int} {a1 : Int} {r : Int × Int × Int} (h : kM.f k a0_0 a0_1 a1 = some r) : kM.f (k + 1) a0_0 a0_1 a1 = some r := kM.mono a0_0 a0_1 a1 k _ h
theorem kM.le {a0_0 : Int} {a0_1 : Int} {a1 : Int} {r : Int × Int × Int} {k n : Nat} (h : kM.f k a0_0 a0_1 a1 = some r) (hk : k ≤ n) : kM.f n a0_0 a0_1 a1 = some r := by
 induction hk with
 | refl => exact h
 | step _ ih => exact kM.up ih
end Go.Proofs.YtimgphlfaninnaaGreat.P

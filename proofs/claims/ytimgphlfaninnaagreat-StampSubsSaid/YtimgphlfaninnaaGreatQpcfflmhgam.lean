import Derived.Test.YtimgphlfaninnaaGreatQoobaoafdnj
import Derived.Test.YtimgphlfaninnaaGreatQlgomohghol
import Derived.Test.YtimgphlfaninnaaGreatQhninfjcbop
namespace Go.Proofs.YtimgphlfaninnaaGreat.P
open Go.RowKit Go.Proofs.YtimgphlfaninnaaGreatW.PrintWords Go.Proofs.YtimgphlfaninnaaGreatW.PrintLast Go.Proofs.YtimgphlfaninnaaGreatW.PrintMore
open Go.Proofs.YtimgphlfaninnaaGreat.A
 attribute [local go_sem] jQ jP zB zC jE jD jO jN
set_option linter.unusedVariables false
set_option linter.unusedSimpArgs false
open A in
noncomputable def sgF (k : Nat) : Con
 | [.agg [.int .i64 x, .int .i64 y]] => some ((qF.f k x y).isSome, .tup [.agg [.int .i64 (gd (qF.f k x y)).1, .int .i64 (gd (qF.f k x y)).2.1], .int .i64 (gd (qF.f k x y)).2.2.1, .int .i64 (gd (qF.f k x y)).2.2.2])
 | _ => none
set_option linter.unusedSimpArgs false in
open A in
theorem sgF_ok (k : Nat) : COk Tryz.prog 83 (sgF k) := by
 intro args p v hc hp w A hA
 unfold sgF at hc
 split at hc
 · rename_i x y
   simp only [Option.some.injEq, Prod.mk.injEq] at hc
   obtain ⟨rfl, rfl⟩ := hc
   rcases hf : qF.f k x y with _ | ⟨r1, r2, r3, r4⟩
   · rw [hf] at hp; cases hp
   obtain rfl : A = [.agg #[.int .i64 x, .int .i64 y]] := by simpa [kG, kK, kL, kH, kS, kM, jR] using hA
   exact kT (fn := Tryz.f83) Tryz.func83 (by kernel_rfl) (by kernel_rfl) (qF.calls _ _ _ _ _ _ _ w hf) (fun _ => by simp [kD, kG, kK, kL, kH, kS, kM, bU]) (fun _ h => h)
 · cases hc
open A in
noncomputable def sgP : Con
 | [.agg [.int .i64 x, .int .i64 y]] => some ((vA.f x y).isSome, .tup [.int .i64 (gd (vA.f x y)).1, .int .i64 (gd (vA.f x y)).2.1, .int .i64 (gd (vA.f x y)).2.2.1, .int .i64 (gd (vA.f x y)).2.2.2])
 | _ => none
set_option linter.unusedSimpArgs false in
open A in
theorem sgP_ok : COk Tryz.prog 104 (sgP) := by
 intro args p v hc hp w A hA
 unfold sgP at hc
 split at hc
 · rename_i x y
   simp only [Option.some.injEq, Prod.mk.injEq] at hc
   obtain ⟨rfl, rfl⟩ := hc
   rcases hf : vA.f x y with _ | ⟨r1, r2, r3, r4⟩
   · rw [hf] at hp; cases hp
   obtain rfl : A = [.agg #[.int .i64 x, .int .i64 y]] := by simpa [kG, kK, kL, kH, kS, kM, jR] using hA
   exact kT (fn := Tryz.f104) Tryz.func104 (by kernel_rfl) (by kernel_rfl) (vA.calls _ _ _ _ _ _ w hf) (fun _ => by simp [kD, kG, kK, kL, kH, kS, kM, bU]) (fun _ h => h)
 · cases hc
open A in
theorem stamp_month1_vc (k : Nat) (x y : Int) (K : AV → Prop) : afv PA Tryz.prog (tab [(83, sgF k), (104, sgP)]) noLoops 12 103 [.agg [.int .i64 x, .int .i64 y]] K = (sgQ4 (qF.f k x y) fun m0 m1 _ _ => sgQ4 (vA.f m0 m1) fun m4 m5 _ _ => K (.int .i64 (IntKind.wrap .i64 (IntKind.wrap .i64 (12 * m4) + m5)))) := by kernel_rfl
def vB.f (k : Nat) (x y : Int) : Option Int := (qF.f k x y).bind fun o => (vA.f o.1 o.2.1).bind fun p => some (wrap64 (wrap64 (12 * p.1) + p.2.1))
set_option linter.unusedSimpArgs false in
open A in
theorem vB.calls (k : Nat) (x : Int) (y : Int) (r1 : Int) (w : World) (h : vB.f k x y = some (r1)) :
 Calls Tryz.prog 103 #[.agg #[.int .i64 x, .int .i64 y]] w fun e w' => e = .returned (.int .i64 r1) ∧ Below w.heap.size w w' := by
 have hT : TabOk Tryz.prog (tab [(83, sgF k), (104, sgP)]) := kP (sgF_ok k) (kP (sgP_ok) (jV))
 have hA : RL noNames w [.agg [.int .i64 x, .int .i64 y]] [.agg #[.int .i64 x, .int .i64 y]] := by simp [kG, kK, kL, kM]
 have hV : ∀ ρ V', RV ρ w (AV.int .i64 r1) V' → V' = .int .i64 r1 := fun ρ V' hV => by simpa [kG, kK, kL, kM, bU] using hV
 refine bZ hT (n := 12) (g := 103) ?_ hA hV
 rw [stamp_month1_vc]
 simp only [wrap_i64]
 unfold vB.f at h
 simp only [Option.bind_eq_some_iff] at h
 obtain ⟨⟨o1, o2, o3, o4⟩, hO, ⟨p1, p2, p3, p4⟩, hP, h⟩ := h
 refine sgQ4_ok hO (sgQ4_ok hP ?_)
 simp only [Option.some.injEq] at h
 rw [h]
open A in
noncomputable def sgT (k : Nat) : Con
 | [.agg [.int .i64 x, .int .i64 y]] => some ((vB.f k x y).isSome, .int .i64 (gd (vB.f k x y)))
 | _ => none
set_option linter.unusedSimpArgs false in
open A in
theorem sgT_ok (k : Nat) : COk Tryz.prog 103 (sgT k) := by
 intro args p v hc hp w A hA
 unfold sgT at hc
 split at hc
 · rename_i x y
   simp only [Option.some.injEq, Prod.mk.injEq] at hc
   obtain ⟨rfl, rfl⟩ := hc
   rcases hf : vB.f k x y with _ | r1
   · rw [hf] at hp; cases hp
   obtain rfl : A = [.agg #[.int .i64 x, .int .i64 y]] := by simpa [kG, kK, kL, kH, kS, kM, jR] using hA
   exact kT (fn := Tryz.f103) Tryz.func103 (by kernel_rfl) (by kernel_rfl) (vB.calls _ _ _ _ w hf) (fun _ => by simp [kD, kG, kK, kL, kH, kS, kM, bU]) (fun _ h => h)
 · cases hc
open A in
theorem stamp_months_vc (k : Nat) (x y z t : Int) (K : AV → Prop) : afv PA Tryz.prog (tab [(103, sgT k)]) noLoops 12 57 [.agg [.int .i64 x, .int .i64 y], .agg [.int .i64 z, .int .i64 t]] K = (sgQ1 (vB.f k x y) fun m0 => sgQ1 (vB.f k z t) fun m1 => K (.int .i64 (if IntKind.wrap .i64 (IntKind.wrap .i64 (m0 - m1) - 1) > 0 then IntKind.wrap .i64 (IntKind.wrap .i64 (m0 - m1) - 1) else 0))) := by kernel_rfl
def vE.f (k : Nat) (x y z t : Int) : Option Int := (vB.f k x y).bind fun a => (vB.f k z t).bind fun b => some (if wrap64 (wrap64 (a - b) - 1) > 0 then wrap64 (wrap64 (a - b) - 1) else 0)
set_option linter.unusedSimpArgs false in
open A in
theorem vE.calls (k : Nat) (x : Int) (y : Int) (z : Int) (t : Int) (r1 : Int) (w : World) (h : vE.f k x y z t = some (r1)) :
 Calls Tryz.prog 57 #[.agg #[.int .i64 x, .int .i64 y], .agg #[.int .i64 z, .int .i64 t]] w fun e w' => e = .returned (.int .i64 r1) ∧ Below w.heap.size w w' := by
 have hT : TabOk Tryz.prog (tab [(103, sgT k)]) := kP (sgT_ok k) (jV)
 have hA : RL noNames w [.agg [.int .i64 x, .int .i64 y], .agg [.int .i64 z, .int .i64 t]] [.agg #[.int .i64 x, .int .i64 y], .agg #[.int .i64 z, .int .i64 t]] := by simp [kG, kK, kL, kM]
 have hV : ∀ ρ V', RV ρ w (AV.int .i64 r1) V' → V' = .int .i64 r1 := fun ρ V' hV => by simpa [kG, kK, kL, kM, bU] using hV
 refine bZ hT (n := 12) (g := 57) ?_ hA hV
 rw [stamp_months_vc]
 simp only [wrap_i64]
 unfold vE.f at h
 simp only [Option.bind_eq_some_iff] at h
 obtain ⟨m0, h0, m1, h1, h⟩ := h
 refine sgQ1_ok h0 (sgQ1_ok h1 ?_)
 simp only [Option.some.injEq] at h
 rw [h]
open A in
noncomputable def sgM (k : Nat) : Con
 | [.agg [.int .i64 x, .int .i64 y], .agg [.int .i64 z, .int .i64 t]] => some ((vE.f k x y z t).isSome, .int .i64 (gd (vE.f k x y z t)))
 | _ => none
set_option linter.unusedSimpArgs false in
open A in
theorem sgM_ok (k : Nat) : COk Tryz.prog 57 (sgM k) := by
 intro args p v hc hp w A hA
 unfold sgM at hc
 split at hc
 · rename_i x y z t
   simp only [Option.some.injEq, Prod.mk.injEq] at hc
   obtain ⟨rfl, rfl⟩ := hc
   rcases hf : vE.f k x y z t with _ | r1
   · rw [hf] at hp; cases hp
   obtain rfl : A = [.agg #[.int .i64 x, .int .i64 y], .agg #[.int .i64 z, .int .i64 t]] := by simpa [kG, kK, kL, kH, kS, kM, jR] using hA
   exact kT (fn := Tryz.f57) Tryz.func57 (by kernel_rfl) (by kernel_rfl) (vE.calls _ _ _ _ _ _ w hf) (fun _ => by simp [kD, kG, kK, kL, kH, kS, kM, bU]) (fun _ h => h)
 · cases hc
open A in
noncomputable def sgC (k : Nat) : Con
 | [.agg [.int .i64 x, .int .i64 y], .agg [.int .i64 z, .int .i64 t]] => some ((jJ.f k x y z t).isSome, .int .i64 (gd (jJ.f k x y z t)))
 | _ => none
set_option linter.unusedSimpArgs false in
open A in
theorem sgC_ok (k : Nat) : COk Tryz.prog 55 (sgC k) := by
 intro args p v hc hp w A hA
 unfold sgC at hc
 split at hc
 · rename_i x y z t
   simp only [Option.some.injEq, Prod.mk.injEq] at hc
   obtain ⟨rfl, rfl⟩ := hc
   rcases hf : jJ.f k x y z t with _ | r1
   · rw [hf] at hp; cases hp
   obtain rfl : A = [.agg #[.int .i64 x, .int .i64 y], .agg #[.int .i64 z, .int .i64 t]] := by simpa [kG, kK, kL, kH, kS, kM, jR] using hA
   exact kT (fn := Tryz.f55) Tryz.func55 (by kernel_rfl) (by kernel_rfl) (jJ.calls _ _ _ _ _ _ w hf) (fun _ => by simp [kD, kG, kK, kL, kH, kS, kM, bU]) (fun _ h => h)
 · cases hc
open A in
noncomputable def sgG : Con
 | [.agg [.int .i64 x, .int .i64 y, .int .i64 z, .int .i64 t]] => some ((span_Neg.f x y z t).isSome, .tup [.agg [.int .i64 (gd (span_Neg.f x y z t)).1, .int .i64 (gd (span_Neg.f x y z t)).2.1, .int .i64 (gd (span_Neg.f x y z t)).2.2.1, .int .i64 (gd (span_Neg.f x y z t)).2.2.2.1], .int .i64 (gd (span_Neg.f x y z t)).2.2.2.2])
 | _ => none
set_option linter.unusedSimpArgs false in
open A in
theorem sgG_ok : COk Tryz.prog 56 (sgG) := by
 intro args p v hc hp w A hA
 unfold sgG at hc
 split at hc
 · rename_i x y z t
   simp only [Option.some.injEq, Prod.mk.injEq] at hc
   obtain ⟨rfl, rfl⟩ := hc
   rcases hf : span_Neg.f x y z t with _ | ⟨r1, r2, r3, r4, r5⟩
   · rw [hf] at hp; cases hp
   obtain rfl : A = [.agg #[.int .i64 x, .int .i64 y, .int .i64 z, .int .i64 t]] := by simpa [kG, kK, kL, kH, kS, kM, jR] using hA
   exact kT (fn := Tryz.f56) Tryz.func56 (by kernel_rfl) (by kernel_rfl) (span_Neg.calls _ _ _ _ _ _ _ _ _ w hf) (fun _ => by simp [kD, kG, kK, kL, kH, kS, kM, bU]) (fun _ h => h)
 · cases hc
open A in
noncomputable def sgA (k : Nat) : Con
 | [.agg [.int .i64 x, .int .i64 y], .agg [.int .i64 a, .int .i64 b, .int .i64 c, .int .i64 d]] => some ((stamp_Add.f k x y a b c d).isSome, .tup [.agg [.int .i64 (gd (stamp_Add.f k x y a b c d)).1, .int .i64 (gd (stamp_Add.f k x y a b c d)).2.1], .int .i64 (gd (stamp_Add.f k x y a b c d)).2.2])
 | _ => none
set_option linter.unusedSimpArgs false in
open A in
theorem sgA_ok (k : Nat) : COk Tryz.prog 17 (sgA k) := by
 intro args p v hc hp w A hA
 unfold sgA at hc
 split at hc
 · rename_i x y a b c d
   simp only [Option.some.injEq, Prod.mk.injEq] at hc
   obtain ⟨rfl, rfl⟩ := hc
   rcases hf : stamp_Add.f k x y a b c d with _ | ⟨r1, r2, r3⟩
   · rw [hf] at hp; cases hp
   obtain rfl : A = [.agg #[.int .i64 x, .int .i64 y], .agg #[.int .i64 a, .int .i64 b, .int .i64 c, .int .i64 d]] := by simpa [kG, kK, kL, kH, kS, kM, jR] using hA
   exact kT (fn := Tryz.f17) Tryz.func17 (by kernel_rfl) (by kernel_rfl) (stamp_Add.calls _ _ _ _ _ _ _ _ _ _ w hf) (fun _ => by simp [kD, kG, kK, kL, kH, kS, kM, bU]) (fun _ h => h)
 · cases hc
open A in
noncomputable def sgS (k : Nat) : Con
 | [.agg [.int .i64 x, .int .i64 y], .agg [.int .i64 z, .int .i64 t]] => some ((jY.f k x y z t).isSome, .tup [.agg [.int .i64 (gd (jY.f k x y z t)).1, .int .i64 (gd (jY.f k x y z t)).2.1, .int .i64 (gd (jY.f k x y z t)).2.2.1, .int .i64 (gd (jY.f k x y z t)).2.2.2.1], .int .i64 (gd (jY.f k x y z t)).2.2.2.2])
 | _ => none
set_option linter.unusedSimpArgs false in
open A in
theorem sgS_ok (k : Nat) : COk Tryz.prog 21 (sgS k) := by
 intro args p v hc hp w A hA
 unfold sgS at hc
 split at hc
 · rename_i x y z t
   simp only [Option.some.injEq, Prod.mk.injEq] at hc
   obtain ⟨rfl, rfl⟩ := hc
   rcases hf : jY.f k x y z t with _ | ⟨r1, r2, r3, r4, r5⟩
   · rw [hf] at hp; cases hp
   obtain rfl : A = [.agg #[.int .i64 x, .int .i64 y], .agg #[.int .i64 z, .int .i64 t]] := by simpa [kG, kK, kL, kH, kS, kM, jR] using hA
   exact kT (fn := Tryz.f21) Tryz.func21 (by kernel_rfl) (by kernel_rfl) (jY.calls _ _ _ _ _ _ _ _ _ _ w hf) (fun _ => by simp [kD, kG, kK, kL, kH, kS, kM, bU]) (fun _ h => h)
 · cases hc
open A in
def sgX : Con := fun _ => some (false, .undef)
open A in
theorem sgX_ok (g : FuncId) : COk Tryz.prog g sgX := by
 intro args p v hc hp
 simp only [sgX, Option.some.injEq, Prod.mk.injEq] at hc
 rw [← hc.1] at hp; cases hp
open A in
def sgEnd (k : Nat) (x y z t q : Int) (K : AV → Prop) : Prop := sgQ3 (stamp_Add.f k z t 0 q 0 0) fun a b e => brc (e != 0) (sgK5 K 0 0 0 0 e) (sgQ5 (jY.f k x y a b) fun i _ c d e => sgK5 K i q c d e)
open A in
def sgRnd (k : Nat) (x y z t q : Int) (K : AV → Prop) (R : Prop) : Prop := sgQ3 (stamp_Add.f k z t 0 (IntKind.wrap .i64 (q + 1)) 0 0) fun a b e => brc (e != 0) (sgEnd k x y z t q K) (sgQ1 (jJ.f k a b x y) fun c => brc (decide (c > 0)) (sgEnd k x y z t q K) R)
open A in
def sgAge (k : Nat) (x y z t : Int) (K : AV → Prop) (R : Prop) : Prop := sgQb (kU.f k x y) fun m0 => brc (!m0) (sgQ5 (jY.f k x y z t) (sgK5 K)) (sgQb (kU.f k z t) fun m1 => brc (!m1) (sgQ5 (jY.f k x y z t) (sgK5 K)) (brc (x != 0) (sgQ5 (jY.f k x y z t) (sgK5 K)) (brc (z != 0) (sgQ5 (jY.f k x y z t) (sgK5 K)) (sgQ1 (jJ.f k x y z t) fun m2 => brc (decide (m2 < 0)) R (sgQ1 (vE.f k x y z t) fun m3 => sgRnd k x y z t m3 K (sgRnd k x y z t (IntKind.wrap .i64 (m3 + 1)) K False))))))
def stamp_AgeEnd (k : Nat) (x y z t q : Int) : Option (Int × Int × Int × Int × Int) := (stamp_Add.f k z t 0 q 0 0).bind fun a => if a.2.2 = 0 then ((jY.f k x y a.1 a.2.1).bind fun s => some (s.1, q, s.2.2.1, s.2.2.2.1, s.2.2.2.2)) else some (0, 0, 0, 0, a.2.2)
def stamp_AgeRnd (k : Nat) (x y z t q : Int) (R : Option (Int × Int × Int × Int × Int)) : Option (Int × Int × Int × Int × Int) := (stamp_Add.f k z t 0 (wrap64 (q + 1)) 0 0).bind fun a => if a.2.2 = 0 then ((jJ.f k a.1 a.2.1 x y).bind fun c => if c > 0 then stamp_AgeEnd k x y z t q else R) else stamp_AgeEnd k x y z t q
def stamp_AgeG (k : Nat) (x y z t : Int) (R : Option (Int × Int × Int × Int × Int)) : Option (Int × Int × Int × Int × Int) :=
 (kU.f k x y).bind fun a => if a = true then ((kU.f k z t).bind fun b => if b = true then (if x = 0 then (if z = 0 then ((jJ.f k x y z t).bind fun c => if c < 0 then R else (vE.f k x y z t).bind fun m => stamp_AgeRnd k x y z t m (stamp_AgeRnd k x y z t (wrap64 (m + 1)) none)) else jY.f k x y z t) else jY.f k x y z t) else jY.f k x y z t) else jY.f k x y z t
def stamp_AgeUp.f (k : Nat) (x y z t : Int) : Option (Int × Int × Int × Int × Int) := stamp_AgeG k x y z t none
def qQ.f (k : Nat) (a0_0 : Int) (a0_1 : Int) (a1_0 : Int) (a1_1 : Int) : Option (Int × Int × Int × Int × Int) := stamp_AgeG k a0_0 a0_1 a1_0 a1_1 ((stamp_AgeUp.f k a1_0 a1_1 a0_0 a0_1).bind fun s => if s.2.2.2.2 = 0 then span_Neg.f s.1 s.2.1 s.2.2.1 s.2.2.2.1 else some (0, 0, 0, 0, s.2.2.2.2))
theorem sgEnd_ok {k : Nat} {x y z t q r1 r2 r3 r4 r5 : Int} (h : stamp_AgeEnd k x y z t q = some (r1, r2, r3, r4, r5)) : sgEnd k x y z t q (fun v => v = .tup [.agg [.int .i64 r1, .int .i64 r2, .int .i64 r3, .int .i64 r4], .int .i64 r5]) := by
 simp only [stamp_AgeEnd, Option.bind_eq_some_iff] at h
 obtain ⟨⟨a1, a2, a3⟩, ha, h⟩ := h
 refine sgQ3_ok ha ?_
 simp only at h
 by_cases h3 : a3 = 0
 · rw [if_pos h3] at h
   simp only [Option.bind_eq_some_iff] at h
   obtain ⟨⟨s1, s2, s3, s4, s5⟩, hs, h⟩ := h
   refine sgNo (by simp [h3]) (sgQ5_ok hs ?_)
   (simp only [Option.some.injEq, Prod.mk.injEq] at h; obtain ⟨rfl, rfl, rfl, rfl, rfl⟩ := h; rfl)
 · rw [if_neg h3] at h
   refine sgY (by simp [h3]) ?_
   (simp only [Option.some.injEq, Prod.mk.injEq] at h; obtain ⟨rfl, rfl, rfl, rfl, rfl⟩ := h; rfl)
theorem sgRnd_ok {k : Nat} {x y z t q r1 r2 r3 r4 r5 : Int} {R : Option (Int × Int × Int × Int × Int)} {S : Prop} (h : stamp_AgeRnd k x y z t q R = some (r1, r2, r3, r4, r5)) (hR : R = some (r1, r2, r3, r4, r5) → S) : sgRnd k x y z t q (fun v => v = .tup [.agg [.int .i64 r1, .int .i64 r2, .int .i64 r3, .int .i64 r4], .int .i64 r5]) S := by
 simp only [stamp_AgeRnd, Option.bind_eq_some_iff] at h
 obtain ⟨⟨a1, a2, a3⟩, ha, h⟩ := h
 rw [← A.wrap_i64] at ha
 refine sgQ3_ok ha ?_
 simp only at h
 by_cases h3 : a3 = 0
 · rw [if_pos h3] at h
   simp only [Option.bind_eq_some_iff] at h
   obtain ⟨c, hc, h⟩ := h
   refine sgNo (by simp [h3]) (sgQ1_ok hc ?_)
   by_cases h4 : c > 0
   · rw [if_pos h4] at h
     exact sgY (by simpa using h4) (sgEnd_ok h)
   · rw [if_neg h4] at h
     exact sgNo (by simpa using h4) (hR h)
 · rw [if_neg h3] at h
   exact sgY (by simp [h3]) (sgEnd_ok h)
theorem sgAge_ok {k : Nat} {x y z t r1 r2 r3 r4 r5 : Int} {R : Option (Int × Int × Int × Int × Int)} {S : Prop} (h : stamp_AgeG k x y z t R = some (r1, r2, r3, r4, r5)) (hR : R = some (r1, r2, r3, r4, r5) → S) : sgAge k x y z t (fun v => v = .tup [.agg [.int .i64 r1, .int .i64 r2, .int .i64 r3, .int .i64 r4], .int .i64 r5]) S := by
 simp only [stamp_AgeG, Option.bind_eq_some_iff] at h
 obtain ⟨a, ha, h⟩ := h
 refine sgQb_ok ha ?_
 cases a
 · rw [if_neg (by decide)] at h
   exact sgY rfl (sgQ5_ok h rfl)
 rw [if_pos rfl] at h
 refine sgNo rfl ?_
 simp only [Option.bind_eq_some_iff] at h
 obtain ⟨b, hb, h⟩ := h
 refine sgQb_ok hb ?_
 cases b
 · rw [if_neg (by decide)] at h
   exact sgY rfl (sgQ5_ok h rfl)
 rw [if_pos rfl] at h
 refine sgNo rfl ?_
 by_cases hx : x = 0
 case neg =>
  rw [if_neg hx] at h
  exact sgY (by simp [hx]) (sgQ5_ok h rfl)
 rw [if_pos hx] at h
 refine sgNo (by simp [hx]) ?_
 by_cases hz : z = 0
 case neg =>
  rw [if_neg hz] at h
  exact sgY (by simp [hz]) (sgQ5_ok h rfl)
 rw [if_pos hz] at h
 refine sgNo (by simp [hz]) ?_
 simp only [Option.bind_eq_some_iff] at h
 obtain ⟨c, hc, h⟩ := h
 refine sgQ1_ok hc ?_
 by_cases h0 : c < 0
 · rw [if_pos h0] at h
   exact sgY (by simpa using h0) (hR h)
 rw [if_neg h0] at h
 refine sgNo (by simpa using h0) ?_
 simp only [Option.bind_eq_some_iff] at h
 obtain ⟨m, hm, h⟩ := h
 refine sgQ1_ok hm (sgRnd_ok h fun h => ?_)
 rw [A.wrap_i64]
 exact sgRnd_ok h fun h => by cases h
open A in
theorem stamp_AgeUp_vc (k : Nat) (x y z t : Int) (K : AV → Prop) : afv PA Tryz.prog (tab [(51, sgR k), (55, sgC k), (56, sgG), (17, sgA k), (21, sgS k), (57, sgM k), (23, sgX)]) noLoops 2 23 [.agg [.int .i64 x, .int .i64 y], .agg [.int .i64 z, .int .i64 t]] K = (sgAge k x y z t K False) := by kernel_rfl
set_option linter.unusedSimpArgs false in
open A in
theorem stamp_AgeUp.calls (k : Nat) (x : Int) (y : Int) (z : Int) (t : Int) (r1 : Int) (r2 : Int) (r3 : Int) (r4 : Int) (r5 : Int) (w : World) (h : stamp_AgeUp.f k x y z t = some (r1, r2, r3, r4, r5)) :
 Calls Tryz.prog 23 #[.agg #[.int .i64 x, .int .i64 y], .agg #[.int .i64 z, .int .i64 t]] w fun e w' => e = .returned (.tuple #[.agg #[.int .i64 r1, .int .i64 r2, .int .i64 r3, .int .i64 r4], .int .i64 r5]) ∧ Below w.heap.size w w' := by
 have hT : TabOk Tryz.prog (tab [(51, sgR k), (55, sgC k), (56, sgG), (17, sgA k), (21, sgS k), (57, sgM k), (23, sgX)]) := kP (sgR_ok k) (kP (sgC_ok k) (kP (sgG_ok) (kP (sgA_ok k) (kP (sgS_ok k) (kP (sgM_ok k) (kP (sgX_ok _) (jV)))))))
 have hA : RL noNames w [.agg [.int .i64 x, .int .i64 y], .agg [.int .i64 z, .int .i64 t]] [.agg #[.int .i64 x, .int .i64 y], .agg #[.int .i64 z, .int .i64 t]] := by simp [kG, kK, kL, kM]
 have hV : ∀ ρ V', RV ρ w (AV.tup [.agg [.int .i64 r1, .int .i64 r2, .int .i64 r3, .int .i64 r4], .int .i64 r5]) V' → V' = .tuple #[.agg #[.int .i64 r1, .int .i64 r2, .int .i64 r3, .int .i64 r4], .int .i64 r5] := fun ρ V' hV => by simpa [kG, kK, kL, kM, bU] using hV
 refine bZ hT (n := 2) (g := 23) ?_ hA hV
 rw [stamp_AgeUp_vc]
 exact sgAge_ok h fun h => by cases h
open A in
noncomputable def sgU (k : Nat) : Con
 | [.agg [.int .i64 x, .int .i64 y], .agg [.int .i64 z, .int .i64 t]] => some ((stamp_AgeUp.f k x y z t).isSome, .tup [.agg [.int .i64 (gd (stamp_AgeUp.f k x y z t)).1, .int .i64 (gd (stamp_AgeUp.f k x y z t)).2.1, .int .i64 (gd (stamp_AgeUp.f k x y z t)).2.2.1, .int .i64 (gd (stamp_AgeUp.f k x y z t)).2.2.2.1], .int .i64 (gd (stamp_AgeUp.f k x y z t)).2.2.2.2])
 | _ => none
set_option linter.unusedSimpArgs false in
open A in
theorem sgU_ok (k : Nat) : COk Tryz.prog 23 (sgU k) := by
 intro args p v hc hp w A hA
 unfold sgU at hc
 split at hc
 · rename_i x y z t
   simp only [Option.some.injEq, Prod.mk.injEq] at hc
   obtain ⟨rfl, rfl⟩ := hc
   rcases hf : stamp_AgeUp.f k x y z t with _ | ⟨r1, r2, r3, r4, r5⟩
   · rw [hf] at hp; cases hp
   obtain rfl : A = [.agg #[.int .i64 x, .int .i64 y], .agg #[.int .i64 z, .int .i64 t]] := by simpa [kG, kK, kL, kH, kS, kM, jR] using hA
   exact kT (fn := Tryz.f23) Tryz.func23 (by kernel_rfl) (by kernel_rfl) (stamp_AgeUp.calls _ _ _ _ _ _ _ _ _ _ w hf) (fun _ => by simp [kD, kG, kK, kL, kH, kS, kM, bU]) (fun _ h => h)
 · cases hc
open A in
theorem stamp_Age_vc (k : Nat) (x y z t : Int) (K : AV → Prop) : afv PA Tryz.prog (tab [(51, sgR k), (55, sgC k), (56, sgG), (17, sgA k), (21, sgS k), (57, sgM k), (23, sgU k)]) noLoops 2 23 [.agg [.int .i64 x, .int .i64 y], .agg [.int .i64 z, .int .i64 t]] K = (sgAge k x y z t K (sgQ5 (stamp_AgeUp.f k z t x y) fun a b c d e => brc (e != 0) (sgK5 K 0 0 0 0 e) (sgQ5 (span_Neg.f a b c d) (sgK5 K)))) := by kernel_rfl
set_option linter.unusedSimpArgs false in
open A in
theorem qQ.calls (k : Nat) (a0_0 : Int) (a0_1 : Int) (a1_0 : Int) (a1_1 : Int) (r1 : Int) (r2 : Int) (r3 : Int) (r4 : Int) (r5 : Int) (w : World) (h : qQ.f k a0_0 a0_1 a1_0 a1_1 = some (r1, r2, r3, r4, r5)) :
 Calls Tryz.prog 23 #[.agg #[.int .i64 a0_0, .int .i64 a0_1], .agg #[.int .i64 a1_0, .int .i64 a1_1]] w fun e w' => e = .returned (.tuple #[.agg #[.int .i64 r1, .int .i64 r2, .int .i64 r3, .int .i64 r4], .int .i64 r5]) ∧ Below w.heap.size w w' := by
 have hT : TabOk Tryz.prog (tab [(51, sgR k), (55, sgC k), (56, sgG), (17, sgA k), (21, sgS k), (57, sgM k), (23, sgU k)]) := kP (sgR_ok k) (kP (sgC_ok k) (kP (sgG_ok) (kP (sgA_ok k) (kP (sgS_ok k) (kP (sgM_ok k) (kP (sgU_ok k) (jV)))))))
 have hA : RL noNames w [.agg [.int .i64 a0_0, .int .i64 a0_1], .agg [.int .i64 a1_0, .int .i64 a1_1]] [.agg #[.int .i64 a0_0, .int .i64 a0_1], .agg #[.int .i64 a1_0, .int .i64 a1_1]] := by simp [kG, kK, kL, kM]
 have hV : ∀ ρ V', RV ρ w (AV.tup [.agg [.int .i64 r1, .int .i64 r2, .int .i64 r3, .int .i64 r4], .int .i64 r5]) V' → V' = .tuple #[.agg #[.int .i64 r1, .int .i64 r2, .int .i64 r3, .int .i64 r4], .int .i64 r5] := fun ρ V' hV => by simpa [kG, kK, kL, kM, bU] using hV
 refine bZ hT (n := 2) (g := 23) ?_ hA hV
 rw [stamp_Age_vc]
 refine sgAge_ok h fun h => ?_
 simp only [Option.bind_eq_some_iff] at h
 obtain ⟨⟨s1, s2, s3, s4, s5⟩, hs, h⟩ := h
 refine sgQ5_ok hs ?_
 simp only at h
 by_cases h5 : s5 = 0
 · rw [if_pos h5] at h
   exact sgNo (by simp [h5]) (sgQ5_ok h rfl)
 · rw [if_neg h5] at h
   refine sgY (by simp [h5]) ?_
   (simp only [Option.some.injEq, Prod.mk.injEq] at h; obtain ⟨rfl, rfl, rfl, rfl, rfl⟩ := h; rfl)
noncomputable def qQ.con (k : Nat) : Con
 | [.agg [.int .i64 a0_0, .int .i64 a0_1], .agg [.int .i64 a1_0, .int .i64 a1_1]] => some ((qQ.f k a0_0 a0_1 a1_0 a1_1).isSome, .tup [.agg [.int .i64 (gd (qQ.f k a0_0 a0_1 a1_0 a1_1)).1, .int .i64 (gd (qQ.f k a0_0 a0_1 a1_0 a1_1)).2.1, .int .i64 (gd (qQ.f k a0_0 a0_1 a1_0 a1_1)).2.2.1, .int .i64 (gd (qQ.f k a0_0 a0_1 a1_0 a1_1)).2.2.2.1], .int .i64 (gd (qQ.f k a0_0 a0_1 a1_0 a1_1)).2.2.2.2])
 | _ => none
set_option maxRecDepth 100000 in
theorem qQ.cok (k : Nat) : COk Tryz.prog 23 (qQ.con k) := by
 intro args p v hc hp w A hA
 unfold qQ.con at hc
 split at hc
 · rename_i a0_0 a0_1 a1_0 a1_1
   simp only [Option.some.injEq, Prod.mk.injEq] at hc
   obtain ⟨rfl, rfl⟩ := hc
   rcases hf : qQ.f k a0_0 a0_1 a1_0 a1_1 with _ | ⟨r1, r2, r3, r4, r5⟩
   · rw [hf] at hp; cases hp
   obtain rfl : A = [.agg #[.int .i64 a0_0, .int .i64 a0_1], .agg #[.int .i64 a1_0, .int .i64 a1_1]] := by simpa [kG, kK, kL, kH, kS, kM, jR] using hA
   exact kT (fn := Tryz.f23) Tryz.func23 (by kernel_rfl) (by kernel_rfl) (qQ.calls _ _ _ _ _ _ _ _ _ _ w hf) (fun _ => by simp [kD, kG, kK, kL, kH, kS, kM, bU]) (fun _ h => h)
 · cases hc
def zE.f (a0 : Int) : Option (Bool) := (bT.f a0 4).bind fun t318 => (if t318 = 0 then ((bT.f a0 100).bind fun t319 => (if t319 = 0 then ((bT.f a0 400).bind fun t320 => (some (t320 == 0))) else (some true))) else (some false))
set_option maxHeartbeats 8000000 in
set_option maxRecDepth 100000 in
theorem zE.calls (a0 : Int) (r : Bool) (w : World) (h : zE.f a0 = some r) :
 Calls Tryz.prog 142 #[.int .i64 a0] w fun e w' => e = .returned (.bool r) ∧ Drawn0 w w' := by
 have H : ((bT.f a0 4).bind fun t318 => (if t318 = 0 then ((bT.f a0 100).bind fun t319 => (if t319 = 0 then ((bT.f a0 400).bind fun t320 => (some (t320 == 0))) else (some true))) else (some false))) = some r := h
 clear h
 replace H := Option.bind_eq_some_iff.mp H
 obtain ⟨t318, A20, H⟩ := H
 replace H : (if t318 = 0 then ((bT.f a0 100).bind fun t319 => (if t319 = 0 then ((bT.f a0 400).bind fun t320 => (some (t320 == 0))) else (some true))) else (some false)) = some r := H
 have A2 := Aside0.mk A20
 clear A20
 by_cases c3 : t318 = 0
 · rw [if_pos c3] at H
   have c3b0 : (t318 == 0) = true := beq_iff_eq.mpr c3
   have c3b1 : (t318 != 0) = false := bne_eq_false_iff_eq.mpr c3
   clear c3
   replace H := Option.bind_eq_some_iff.mp H
   obtain ⟨t319, A40, H⟩ := H
   replace H : (if t319 = 0 then ((bT.f a0 400).bind fun t320 => (some (t320 == 0))) else (some true)) = some r := H
   have A4 := Aside0.mk A40
   clear A40
   by_cases c5 : t319 = 0
   · rw [if_pos c5] at H
     have c5b0 : (t319 == 0) = true := beq_iff_eq.mpr c5
     have c5b1 : (t319 != 0) = false := bne_eq_false_iff_eq.mpr c5
     clear c5
     replace H := Option.bind_eq_some_iff.mp H
     obtain ⟨t320, A60, H⟩ := H
     replace H : (some (t320 == 0)) = some r := H
     have A6 := Aside0.mk A60
     clear A60
     obtain rfl := Option.some.inj H
     go_enter Tryz.func142, Tryz.ntmps142
     go_wp2_with (first | ((with_reducible refine kW (f := 141) rfl ?_); refine jI (some 4) rfl rfl Tryz.func141 (by kernel_rfl) rfl #[.int .i64 a0, .int .i64 4] rfl (by (try simp only [List.map_toArray, List.map_cons, List.map_nil]); first | done | rfl | (simp only [List.length_drop, List.length_take]; rfl)) ?_; (with_reducible refine (bT.calls a0 4 t318 _ A2.out).mono ?_); rintro e w' ⟨rfl, ⟨nd, rfl⟩⟩; refine ⟨_, rfl, ?_⟩) | (go_at_call 141; (with_reducible refine (bT.calls a0 100 t319 _ A4.out).mono ?_); rintro e w' ⟨rfl, ⟨nd, rfl⟩⟩) | (go_at_call 141; (with_reducible refine (bT.calls a0 400 t320 _ A6.out).mono ?_); rintro e w' ⟨rfl, ⟨nd, rfl⟩⟩))
     go_ret
     exact ⟨by first | rfl | (simp; done) | (simp [*]; done), by repeat (first | exact Drawn0.refl _ | apply Drawn0.step)⟩
   · rw [if_neg c5] at H
     have c5b0 : (t319 == 0) = false := beq_eq_false_iff_ne.mpr c5
     have c5b1 : (t319 != 0) = true := bne_iff_ne.mpr c5
     obtain rfl := Option.some.inj H
     go_enter Tryz.func142, Tryz.ntmps142
     go_wp2_with (first | ((with_reducible refine kW (f := 141) rfl ?_); refine jI (some 4) rfl rfl Tryz.func141 (by kernel_rfl) rfl #[.int .i64 a0, .int .i64 4] rfl (by (try simp only [List.map_toArray, List.map_cons, List.map_nil]); first | done | rfl | (simp only [List.length_drop, List.length_take]; rfl)) ?_; (with_reducible refine (bT.calls a0 4 t318 _ A2.out).mono ?_); rintro e w' ⟨rfl, ⟨nd, rfl⟩⟩; refine ⟨_, rfl, ?_⟩) | (go_at_call 141; (with_reducible refine (bT.calls a0 100 t319 _ A4.out).mono ?_); rintro e w' ⟨rfl, ⟨nd, rfl⟩⟩))
     go_ret
     exact ⟨by first | rfl | (simp; done) | (simp [*]; done), by repeat (first | exact Drawn0.refl _ | apply Drawn0.step)⟩
 · rw [if_neg c3] at H
   have c3b0 : (t318 == 0) = false := beq_eq_false_iff_ne.mpr c3
   have c3b1 : (t318 != 0) = true := bne_iff_ne.mpr c3
   obtain rfl := Option.some.inj H
   go_enter Tryz.func142, Tryz.ntmps142
   go_wp2_with (first | ((with_reducible refine kW (f := 141) rfl ?_); refine jI (some 4) rfl rfl Tryz.func141 (by kernel_rfl) rfl #[.int .i64 a0, .int .i64 4] rfl (by (try simp only [List.map_toArray, List.map_cons, List.map_nil]); first | done | rfl | (simp only [List.length_drop, List.length_take]; rfl)) ?_; (with_reducible refine (bT.calls a0 4 t318 _ A2.out).mono ?_); rintro e w' ⟨rfl, ⟨nd, rfl⟩⟩; refine ⟨_, rfl, ?_⟩))
   go_ret
   exact ⟨by first | rfl | (simp; done) | (simp [*]; done), by repeat (first | exact Drawn0.refl _ | apply Drawn0.step)⟩
mutual
def kC.j0 : Nat → Int → Int → Bool → Option (Int)
 | 0, _, _, _ => none
 | k + 1, x0, x5, x6 => if x6 = true then (some 31) else (if x5 = 4 then (kC.j1 k x0 x5 (x5 == 4)) else (if x5 = 6 then (kC.j1 k x0 x5 (x5 == 6)) else (if x5 = 9 then (kC.j1 k x0 x5 (x5 == 9)) else (kC.j1 k x0 x5 (x5 == 11)))))
def kC.j1 : Nat → Int → Int → Bool → Option (Int)
 | 0, _, _, _ => none
 | k + 1, x0, x5, x14 => if x14 = true then (some 30) else (if x5 = 2 then ((zE.f x0).bind fun t321 => (if t321 = true then (some 29) else (some 28))) else (some 0))
end
def kC.f (k : Nat) (a0 : Int) (a1 : Int) : Option (Int) := if a1 = 1 then (kC.j0 k a0 a1 (a1 == 1)) else (if a1 = 3 then (kC.j0 k a0 a1 (a1 == 3)) else (if a1 = 5 then (kC.j0 k a0 a1 (a1 == 5)) else (if a1 = 7 then (kC.j0 k a0 a1 (a1 == 7)) else (if a1 = 8 then (kC.j0 k a0 a1 (a1 == 8)) else (if a1 = 10 then (kC.j0 k a0 a1 (a1 == 10)) else (kC.j0 k a0 a1 (a1 == 12)))))))
theorem kC.mono_l : ∀ k, (∀ y0 y1 y2, LeO (kC.j0 k y0 y1 y2) (kC.j0 (k + 1) y0 y1 y2)) ∧ (∀ y0 y1 y2, LeO (kC.j1 k y0 y1 y2) (kC.j1 (k + 1) y0 y1 y2))
 | 0 => ⟨fun _ _ _ r h => by simp [kC.j0] at h, fun _ _ _ r h => by simp [kC.j1] at h⟩
 | k + 1 => by
  obtain ⟨ih0, ih1⟩ := kC.mono_l k
  refine ⟨?_, ?_⟩
  · intro y0 y1 y2
    unfold kC.j0
    repeat' first
    | (with_reducible exact ih0 _ _ _)
    | (with_reducible exact ih1 _ _ _)
    | (with_reducible exact LeO.refl _)
    | (with_reducible exact LeO.none _)
    | (with_reducible refine LeO.ite ?_ ?_)
    | (with_reducible refine LeO.bind ?_ (fun _ => ?_))
    | exact ih0 _ _ _
    | exact ih1 _ _ _
    | exact LeO.none _
    | refine LeO.ite ?_ ?_
    | refine LeO.bind ?_ (fun _ => ?_)
  · intro y0 y1 y2
    unfold kC.j1
    repeat' first
    | (with_reducible exact ih0 _ _ _)
    | (with_reducible exact ih1 _ _ _)
    | (with_reducible exact LeO.refl _)
    | (with_reducible exact LeO.none _)
    | (with_reducible refine LeO.ite ?_ ?_)
    | (with_reducible refine LeO.bind ?_ (fun _ => ?_))
    | exact ih0 _ _ _
    | exact ih1 _ _ _
    | exact LeO.none _
    | refine LeO.ite ?_ ?_
    | refine LeO.bind ?_ (fun _ => ?_)
theorem kC.mono : ∀ a0 a1 k, LeO (kC.f k a0 a1) (kC.f (k + 1) a0 a1) := by
 intro a0 a1 k
 obtain ⟨ih0, ih1⟩ := kC.mono_l k
 unfold kC.f
 repeat' first
  | (with_reducible exact ih0 _ _ _)
  | (with_reducible exact ih1 _ _ _)
  | (with_reducible exact LeO.refl _)
  | (with_reducible exact LeO.none _)
  | (with_reducible refine LeO.ite ?_ ?_)
  | (with_reducible refine LeO.bind ?_ (fun _ => ?_))
  | exact ih0 _ _ _
  | exact ih1 _ _ _
  | exact LeO.none _
  | refine LeO.ite ?_ ?_
  | refine LeO.bind ?_ (fun _ => ?_)
set_option maxHeartbeats 8000000 in
set_option maxRecDepth 100000 in
theorem kC.calls (k : Nat) (a0 : Int) (a1 : Int) (r : Int) (w : World) (h : kC.f k a0 a1 = some r) :
 Calls Tryz.prog 143 #[.int .i64 a0, .int .i64 a1] w fun e w' => e = .returned (.int .i64 r) ∧ Drawn0 w w' := by
 have H : (if a1 = 1 then (kC.j0 k a0 a1 (a1 == 1)) else (if a1 = 3 then (kC.j0 k a0 a1 (a1 == 3)) else (if a1 = 5 then (kC.j0 k a0 a1 (a1 == 5)) else (if a1 = 7 then (kC.j0 k a0 a1 (a1 == 7)) else (if a1 = 8 then (kC.j0 k a0 a1 (a1 == 8)) else (if a1 = 10 then (kC.j0 k a0 a1 (a1 == 10)) else (kC.j0 k a0 a1 (a1 == 12)))))))) = some r := h
 clear h
 have HC3 := Aside0.mk H
 clear H
 go_enter Tryz.func143, Tryz.ntmps143
 go_upto_if 6 with (fail)
 go_cut [6] (fun v6 wc => ∃ (kq : Nat) (x6_2 : Bool), v6 = .bool x6_2 ∧ Aside0 (kC.j0 kq a0 a1 x6_2 = some r) ∧ Aside0 (kq ≤ k) ∧ Drawn0 w wc)
 case first =>
  have H := HC3.out
  clear HC3
  by_cases c4 : a1 = 1
  · rw [if_pos c4] at H
    have c4b0 : (a1 == 1) = true := beq_iff_eq.mpr c4
    have c4b1 : (a1 != 1) = false := bne_eq_false_iff_eq.mpr c4
    clear c4
    (first | rw [c4b0] | (simp only [qJ, qL]; rw [c4b0]) | skip)
    have H' := Aside0.mk H
    clear H
    go_wp2
    go_meet
    case rel => exact ⟨_, ((a1 == 1)), (by first | rfl | (simp; done) | (simp [*]; done)), H', ⟨by first | omega | exact Nat.le_refl _⟩, by repeat (first | exact Drawn0.refl _ | apply Drawn0.step)⟩
  · rw [if_neg c4] at H
    have c4b0 : (a1 == 1) = false := beq_eq_false_iff_ne.mpr c4
    have c4b1 : (a1 != 1) = true := bne_iff_ne.mpr c4
    (first | rw [c4b0] | (simp only [qJ, qL]; rw [c4b0]) | skip)
    by_cases c5 : a1 = 3
    · rw [if_pos c5] at H
      have c5b0 : (a1 == 3) = true := beq_iff_eq.mpr c5
      have c5b1 : (a1 != 3) = false := bne_eq_false_iff_eq.mpr c5
      clear c5
      have H' := Aside0.mk H
      clear H
      go_wp2
      go_meet
      case rel => exact ⟨_, ((a1 == 3)), (by first | rfl | (simp; done) | (simp [*]; done)), H', ⟨by first | omega | exact Nat.le_refl _⟩, by repeat (first | exact Drawn0.refl _ | apply Drawn0.step)⟩
    · rw [if_neg c5] at H
      have c5b0 : (a1 == 3) = false := beq_eq_false_iff_ne.mpr c5
      have c5b1 : (a1 != 3) = true := bne_iff_ne.mpr c5
      by_cases c6 : a1 = 5
      · rw [if_pos c6] at H
        have c6b0 : (a1 == 5) = true := beq_iff_eq.mpr c6
        have c6b1 : (a1 != 5) = false := bne_eq_false_iff_eq.mpr c6
        clear c6
        have H' := Aside0.mk H
        clear H
        go_wp2
        go_meet
        case rel => exact ⟨_, ((a1 == 5)), (by first | rfl | (simp; done) | (simp [*]; done)), H', ⟨by first | omega | exact Nat.le_refl _⟩, by repeat (first | exact Drawn0.refl _ | apply Drawn0.step)⟩
      · rw [if_neg c6] at H
        have c6b0 : (a1 == 5) = false := beq_eq_false_iff_ne.mpr c6
        have c6b1 : (a1 != 5) = true := bne_iff_ne.mpr c6
        by_cases c7 : a1 = 7
        · rw [if_pos c7] at H
          have c7b0 : (a1 == 7) = true := beq_iff_eq.mpr c7
          have c7b1 : (a1 != 7) = false := bne_eq_false_iff_eq.mpr c7
          clear c7
          have H' := Aside0.mk H
          clear H
          go_wp2
          go_meet
          case rel => exact ⟨_, ((a1 == 7)), (by first | rfl | (simp; done) | (simp [*]; done)), H', ⟨by first | omega | exact Nat.le_refl _⟩, by repeat (first | exact Drawn0.refl _ | apply Drawn0.step)⟩
        · rw [if_neg c7] at H
          have c7b0 : (a1 == 7) = false := beq_eq_false_iff_ne.mpr c7
          have c7b1 : (a1 != 7) = true := bne_iff_ne.mpr c7
          by_cases c8 : a1 = 8
          · rw [if_pos c8] at H
            have c8b0 : (a1 == 8) = true := beq_iff_eq.mpr c8
            have c8b1 : (a1 != 8) = false := bne_eq_false_iff_eq.mpr c8
            clear c8
            have H' := Aside0.mk H
            clear H
            go_wp2
            go_meet
            case rel => exact ⟨_, ((a1 == 8)), (by first | rfl | (simp; done) | (simp [*]; done)), H', ⟨by first | omega | exact Nat.le_refl _⟩, by repeat (first | exact Drawn0.refl _ | apply Drawn0.step)⟩
          · rw [if_neg c8] at H
            have c8b0 : (a1 == 8) = false := beq_eq_false_iff_ne.mpr c8
            have c8b1 : (a1 != 8) = true := bne_iff_ne.mpr c8
            by_cases c9 : a1 = 10
            · rw [if_pos c9] at H
              have c9b0 : (a1 == 10) = true := beq_iff_eq.mpr c9
              have c9b1 : (a1 != 10) = false := bne_eq_false_iff_eq.mpr c9
              clear c9
              have H' := Aside0.mk H
              clear H
              go_wp2
              go_meet
              case rel => exact ⟨_, ((a1 == 10)), (by first | rfl | (simp; done) | (simp [*]; done)), H', ⟨by first | omega | exact Nat.le_refl _⟩, by repeat (first | exact Drawn0.refl _ | apply Drawn0.step)⟩
            · rw [if_neg c9] at H
              have c9b0 : (a1 == 10) = false := beq_eq_false_iff_ne.mpr c9
              have c9b1 : (a1 != 10) = true := bne_iff_ne.mpr c9
              have H' := Aside0.mk H
              clear H
              go_wp2
              go_meet
              case rel => exact ⟨_, ((a1 == 12)), (by first | rfl | (simp; done) | (simp [*]; done)), H', ⟨by first | omega | exact Nat.le_refl _⟩, by repeat (first | exact Drawn0.refl _ | apply Drawn0.step)⟩
 case rest =>
  clear HC3
  try clear c1
  try clear p2
  try clear c4
  try clear c4b0
  try clear c4b1
  try clear c5
  try clear c5b0
  try clear c5b1
  try clear c6
  try clear c6b0
  try clear c6b1
  try clear c7
  try clear c7b0
  try clear c7b1
  try clear c8
  try clear c8b0
  try clear c8b1
  try clear c9
  try clear c9b0
  try clear c9b1
  obtain ⟨kq, x6_2, rfl, HA, HJ2, ⟨mc2, rfl⟩⟩ := hcut
  cases kq with
  | zero => exact absurd HA.out (by simp [kC.j0])
  | succ kj2 =>
   have H := HA.out
   clear HA
   simp only [kC.j0] at H
   by_cases c10 : x6_2 = true
   · subst c10
     have H1 : (some 31) = some r := by rw [if_pos rfl] at H; exact H
     clear H
     have H := H1
     clear H1
     obtain rfl := Option.some.inj H
     go_wp2
     go_ret
     exact ⟨by first | rfl | (simp; done) | (simp [*]; done), by repeat (first | exact Drawn0.refl _ | apply Drawn0.step)⟩
   · replace c10 := Bool.eq_false_iff.mpr c10
     subst c10
     have H1 : (if a1 = 4 then (kC.j1 kj2 a0 a1 (a1 == 4)) else (if a1 = 6 then (kC.j1 kj2 a0 a1 (a1 == 6)) else (if a1 = 9 then (kC.j1 kj2 a0 a1 (a1 == 9)) else (kC.j1 kj2 a0 a1 (a1 == 11))))) = some r := by rw [if_neg (show ¬ (false = true) by decide)] at H; exact H
     clear H
     have H := H1
     clear H1
     have HC11 := Aside0.mk H
     clear H
     go_upto_if 14 with (fail)
     go_cut [14] (fun v14 wc => ∃ (kq : Nat) (x14_10 : Bool), v14 = .bool x14_10 ∧ Aside0 (kC.j1 kq a0 a1 x14_10 = some r) ∧ Aside0 (kq ≤ kj2) ∧ Drawn0 w wc)
     case first =>
      have H := HC11.out
      clear HC11
      by_cases c12 : a1 = 4
      · rw [if_pos c12] at H
        have c12b0 : (a1 == 4) = true := beq_iff_eq.mpr c12
        have c12b1 : (a1 != 4) = false := bne_eq_false_iff_eq.mpr c12
        clear c12
        (first | rw [c12b0] | (simp only [qJ, qL]; rw [c12b0]) | skip)
        have H' := Aside0.mk H
        clear H
        go_wp2
        go_meet
        case rel => exact ⟨_, ((a1 == 4)), (by first | rfl | (simp; done) | (simp [*]; done)), H', ⟨by have := HJ2.out; first | omega | exact Nat.le_refl _⟩, by repeat (first | exact Drawn0.refl _ | apply Drawn0.step)⟩
      · rw [if_neg c12] at H
        have c12b0 : (a1 == 4) = false := beq_eq_false_iff_ne.mpr c12
        have c12b1 : (a1 != 4) = true := bne_iff_ne.mpr c12
        (first | rw [c12b0] | (simp only [qJ, qL]; rw [c12b0]) | skip)
        by_cases c13 : a1 = 6
        · rw [if_pos c13] at H
          have c13b0 : (a1 == 6) = true := beq_iff_eq.mpr c13
          have c13b1 : (a1 != 6) = false := bne_eq_false_iff_eq.mpr c13
          clear c13
          have H' := Aside0.mk H
          clear H
          go_wp2
          go_meet
          case rel => exact ⟨_, ((a1 == 6)), (by first | rfl | (simp; done) | (simp [*]; done)), H', ⟨by have := HJ2.out; first | omega | exact Nat.le_refl _⟩, by repeat (first | exact Drawn0.refl _ | apply Drawn0.step)⟩
        · rw [if_neg c13] at H
          have c13b0 : (a1 == 6) = false := beq_eq_false_iff_ne.mpr c13
          have c13b1 : (a1 != 6) = true := bne_iff_ne.mpr c13
          by_cases c14 : a1 = 9
          · rw [if_pos c14] at H
            have c14b0 : (a1 == 9) = true := beq_iff_eq.mpr c14
            have c14b1 : (a1 != 9) = false := bne_eq_false_iff_eq.mpr c14
            clear c14
            have H' := Aside0.mk H
            clear H
            go_wp2
            go_meet
            case rel => exact ⟨_, ((a1 == 9)), (by first | rfl | (simp; done) | (simp [*]; done)), H', ⟨by have := HJ2.out; first | omega | exact Nat.le_refl _⟩, by repeat (first | exact Drawn0.refl _ | apply Drawn0.step)⟩
          · rw [if_neg c14] at H
            have c14b0 : (a1 == 9) = false := beq_eq_false_iff_ne.mpr c14
            have c14b1 : (a1 != 9) = true := bne_iff_ne.mpr c14
            have H' := Aside0.mk H
            clear H
            go_wp2
            go_meet
            case rel => exact ⟨_, ((a1 == 11)), (by first | rfl | (simp; done) | (simp [*]; done)), H', ⟨by have := HJ2.out; first | omega | exact Nat.le_refl _⟩, by repeat (first | exact Drawn0.refl _ | apply Drawn0.step)⟩
     case rest =>
      clear HC11
      try clear c1
      try clear c2
      try clear p2
      try clear c4
      try clear c4b0
      try clear c4b1
      try clear c5
      try clear c5b0
      try clear c5b1
      try clear c6
      try clear c6b0
      try clear c6b1
      try clear c7
      try clear c7b0
      try clear c7b1
      try clear c8
      try clear c8b0
      try clear c8b1
      try clear c9
      try clear c9b0
      try clear c9b1
      try clear c10
      try clear c12
      try clear c12b0
      try clear c12b1
      try clear c13
      try clear c13b0
      try clear c13b1
      try clear c14
      try clear c14b0
      try clear c14b1
      try clear p2
      obtain ⟨kq, x14_10, rfl, HA, HJ10, ⟨mc10, rfl⟩⟩ := hcut
      cases kq with
      | zero => exact absurd HA.out (by simp [kC.j1])
      | succ kj10 =>
       have H := HA.out
       clear HA
       simp only [kC.j1] at H
       by_cases c15 : x14_10 = true
       · subst c15
         have H1 : (some 30) = some r := by rw [if_pos rfl] at H; exact H
         clear H
         have H := H1
         clear H1
         obtain rfl := Option.some.inj H
         go_wp2
         go_ret
         exact ⟨by first | rfl | (simp; done) | (simp [*]; done), by repeat (first | exact Drawn0.refl _ | apply Drawn0.step)⟩
       · replace c15 := Bool.eq_false_iff.mpr c15
         subst c15
         have H1 : (if a1 = 2 then ((zE.f a0).bind fun t321 => (if t321 = true then (some 29) else (some 28))) else (some 0)) = some r := by rw [if_neg (show ¬ (false = true) by decide)] at H; exact H
         clear H
         have H := H1
         clear H1
         by_cases c16 : a1 = 2
         · rw [if_pos c16] at H
           have c16b0 : (a1 == 2) = true := beq_iff_eq.mpr c16
           have c16b1 : (a1 != 2) = false := bne_eq_false_iff_eq.mpr c16
           clear c16
           replace H := Option.bind_eq_some_iff.mp H
           obtain ⟨t321, A170, H⟩ := H
           replace H : (if t321 = true then (some 29) else (some 28)) = some r := H
           have A17 := Aside0.mk A170
           clear A170
           by_cases c18 : t321 = true
           · subst c18
             have H1 : (some 29) = some r := by rw [if_pos rfl] at H; exact H
             clear H
             have H := H1
             clear H1
             obtain rfl := Option.some.inj H
             go_wp2_with (first | ((with_reducible refine kW (f := 142) rfl ?_); refine jI (some 22) rfl rfl Tryz.func142 (by kernel_rfl) rfl #[.int .i64 a0] rfl (by (try simp only [List.map_toArray, List.map_cons, List.map_nil]); first | done | rfl | (simp only [List.length_drop, List.length_take]; rfl)) ?_; (with_reducible refine (zE.calls a0 true _ A17.out).mono ?_); rintro e w' ⟨rfl, ⟨nd, rfl⟩⟩; refine ⟨_, rfl, ?_⟩))
             go_ret
             exact ⟨by first | rfl | (simp; done) | (simp [*]; done), by repeat (first | exact Drawn0.refl _ | apply Drawn0.step)⟩
           · replace c18 := Bool.eq_false_iff.mpr c18
             subst c18
             have H1 : (some 28) = some r := by rw [if_neg (show ¬ (false = true) by decide)] at H; exact H
             clear H
             have H := H1
             clear H1
             obtain rfl := Option.some.inj H
             go_wp2_with (first | ((with_reducible refine kW (f := 142) rfl ?_); refine jI (some 22) rfl rfl Tryz.func142 (by kernel_rfl) rfl #[.int .i64 a0] rfl (by (try simp only [List.map_toArray, List.map_cons, List.map_nil]); first | done | rfl | (simp only [List.length_drop, List.length_take]; rfl)) ?_; (with_reducible refine (zE.calls a0 false _ A17.out).mono ?_); rintro e w' ⟨rfl, ⟨nd, rfl⟩⟩; refine ⟨_, rfl, ?_⟩))
             go_ret
             exact ⟨by first | rfl | (simp; done) | (simp [*]; done), by repeat (first | exact Drawn0.refl _ | apply Drawn0.step)⟩
         · rw [if_neg c16] at H
           have c16b0 : (a1 == 2) = false := beq_eq_false_iff_ne.mpr c16
           have c16b1 : (a1 != 2) = true := bne_iff_ne.mpr c16
           obtain rfl := Option.some.inj H
           go_wp2
           go_ret
           exact ⟨by first | rfl | (simp; done) | (simp [*]; done), by repeat (first | exact Drawn0.refl _ | apply Drawn0.step)⟩
def zV.f (a0 : Int) (a1 : Int) : Option (Int) := if a1 = 0 then (none) else (if (Int.tmod a0 a1) < 0 then (some (wrap64 ((wrap64 (Int.tdiv a0 a1)) - 1))) else (some (wrap64 (Int.tdiv a0 a1))))
set_option maxHeartbeats 8000000 in
set_option maxRecDepth 100000 in
theorem zV.calls (a0 : Int) (a1 : Int) (r : Int) (w : World) (h : zV.f a0 a1 = some r) :
 Calls Tryz.prog 140 #[.int .i64 a0, .int .i64 a1] w fun e w' => e = .returned (.int .i64 r) ∧ Drawn0 w w' := by
 have H : (if a1 = 0 then (none) else (if (Int.tmod a0 a1) < 0 then (some (wrap64 ((wrap64 (Int.tdiv a0 a1)) - 1))) else (some (wrap64 (Int.tdiv a0 a1))))) = some r := h
 clear h
 by_cases c3 : a1 = 0
 · rw [if_pos c3] at H
   exact absurd H (by simp)
 · rw [if_neg c3] at H
   have c3b0 : (a1 == 0) = false := beq_eq_false_iff_ne.mpr c3
   have c3b1 : (a1 != 0) = true := bne_iff_ne.mpr c3
   by_cases c4 : (Int.tmod a0 a1) < 0
   · rw [if_pos c4] at H
     have c4b0 : decide ((Int.tmod a0 a1) < 0) = true := decide_eq_true c4
     clear c4
     obtain rfl := Option.some.inj H
     go_enter Tryz.func140, Tryz.ntmps140
     go_wp2
     go_ret
     exact ⟨by first | rfl | (simp; done) | (simp [*]; done), by repeat (first | exact Drawn0.refl _ | apply Drawn0.step)⟩
   · rw [if_neg c4] at H
     have c4b0 : decide ((Int.tmod a0 a1) < 0) = false := decide_eq_false c4
     clear c4
     obtain rfl := Option.some.inj H
     go_enter Tryz.func140, Tryz.ntmps140
     go_wp2
     go_ret
     exact ⟨by first | rfl | (simp; done) | (simp [*]; done), by repeat (first | exact Drawn0.refl _ | apply Drawn0.step)⟩
def bF.l0 : Nat → Int → Int → Int → Option (Int)
 | 0, _, _, _ => none
 | k + 1, x0, x3, x4 => (bT.f (wrap64 (x0 - 2000)) 400).bind fun t323 => (if x4 < t323 then ((zE.f (wrap64 (2000 + x4))).bind fun t324 => (if t324 = true then (bF.l0 k x0 (wrap64 ((wrap64 (x3 + 365)) + 1)) (wrap64 (x4 + 1))) else (bF.l0 k x0 (wrap64 (x3 + 365)) (wrap64 (x4 + 1))))) else (some x3))
def bF.f (k : Nat) (a0 : Int) : Option (Int) := (zV.f (wrap64 (a0 - 2000)) 400).bind fun t322 => (bF.l0 k a0 (wrap64 (t322 * 146097)) 0)
theorem bF.mono_l : ∀ k, (∀ y0 y1 y2, LeO (bF.l0 k y0 y1 y2) (bF.l0 (k + 1) y0 y1 y2))
 | 0 => fun _ _ _ r h => by simp [bF.l0] at h
 | k + 1 => by
  have ih0 := bF.mono_l k
  · intro y0 y1 y2
    unfold bF.l0
    repeat' first
    | (with_reducible exact ih0 _ _ _)
    | (with_reducible exact LeO.refl _)
    | (with_reducible exact LeO.none _)
    | (with_reducible refine LeO.ite ?_ ?_)
    | (with_reducible refine LeO.bind ?_ (fun _ => ?_))
    | exact ih0 _ _ _
    | exact LeO.none _
    | refine LeO.ite ?_ ?_
    | refine LeO.bind ?_ (fun _ => ?_)
theorem bF.mono : ∀ a0 k, LeO (bF.f k a0) (bF.f (k + 1) a0) := by
 intro a0 k
 have ih0 := bF.mono_l k
 unfold bF.f
 repeat' first
  | (with_reducible exact ih0 _ _ _)
  | (with_reducible exact LeO.refl _)
  | (with_reducible exact LeO.none _)
  | (with_reducible refine LeO.ite ?_ ?_)
  | (with_reducible refine LeO.bind ?_ (fun _ => ?_))
  | exact ih0 _ _ _
  | exact LeO.none _
  | refine LeO.ite ?_ ?_
  | refine LeO.bind ?_ (fun _ => ?_)
set_option maxHeartbeats 8000000 in
set_option maxRecDepth 100000 in
theorem bF.calls (k : Nat) (a0 : Int) (r : Int) (w : World) (h : bF.f k a0 = some r) :
 Calls Tryz.prog 167 #[.int .i64 a0] w fun e w' => e = .returned (.int .i64 r) ∧ Drawn0 w w' := by
 have H : ((zV.f (wrap64 (a0 - 2000)) 400).bind fun t322 => (bF.l0 k a0 (wrap64 (t322 * 146097)) 0)) = some r := h
 clear h
 replace H := Option.bind_eq_some_iff.mp H
 obtain ⟨t322, A20, H⟩ := H
 replace H : (bF.l0 k a0 (wrap64 (t322 * 146097)) 0) = some r := H
 have A2 := Aside0.mk A20
 clear A20
 have H' := Aside0.mk H
 clear H
 go_enter Tryz.func167, Tryz.ntmps167
 go_wp2_with (first | ((with_reducible refine kW (f := 140) rfl ?_); refine jI (some 7) rfl rfl Tryz.func140 (by kernel_rfl) rfl #[.int .i64 (wrap64 (a0 - 2000)), .int .i64 400] rfl (by (try simp only [List.map_toArray, List.map_cons, List.map_nil]); first | done | rfl | (simp only [List.length_drop, List.length_take]; rfl)) ?_; (with_reducible refine (zV.calls (wrap64 (a0 - 2000)) 400 t322 _ A2.out).mono ?_); rintro e w' ⟨rfl, ⟨nd, rfl⟩⟩; refine ⟨_, rfl, ?_⟩))
 go_loopg [3, 4] k (fun kq v3 v4 w' => ∃ (x3_1 : Int) (x4_1 : Int), v3 = .int .i64 x3_1 ∧ v4 = .int .i64 x4_1 ∧ Aside0 (bF.l0 kq a0 x3_1 x4_1 = some r) ∧ Aside0 (kq ≤ k) ∧ Drawn0 w w')
 case atStart => exact ⟨(wrap64 (t322 * 146097)), (0), (by first | rfl | (simp; done) | (simp [*]; done)), (by first | rfl | (simp; done) | (simp [*]; done)), H', ⟨Nat.le_refl _⟩, by repeat (first | exact Drawn0.refl _ | apply Drawn0.step)⟩
 case round =>
  clear H'
  try clear c1
  try clear p2
  obtain ⟨x3_1, x4_1, rfl, rfl, HA, HK1, ⟨m1, rfl⟩⟩ := hrel
  cases gk with
  | zero => exact absurd HA.out (by simp [bF.l0])
  | succ k1 =>
   have H := HA.out
   clear HA
   simp only [bF.l0] at H
   replace H := Option.bind_eq_some_iff.mp H
   obtain ⟨t323, A30, H⟩ := H
   replace H : (if x4_1 < t323 then ((zE.f (wrap64 (2000 + x4_1))).bind fun t324 => (if t324 = true then (bF.l0 k1 a0 (wrap64 ((wrap64 (x3_1 + 365)) + 1)) (wrap64 (x4_1 + 1))) else (bF.l0 k1 a0 (wrap64 (x3_1 + 365)) (wrap64 (x4_1 + 1))))) else (some x3_1)) = some r := H
   have A3 := Aside0.mk A30
   clear A30
   by_cases c4 : x4_1 < t323
   · rw [if_pos c4] at H
     have c4b0 : decide (x4_1 < t323) = true := decide_eq_true c4
     clear c4
     replace H := Option.bind_eq_some_iff.mp H
     obtain ⟨t324, A50, H⟩ := H
     replace H : (if t324 = true then (bF.l0 k1 a0 (wrap64 ((wrap64 (x3_1 + 365)) + 1)) (wrap64 (x4_1 + 1))) else (bF.l0 k1 a0 (wrap64 (x3_1 + 365)) (wrap64 (x4_1 + 1)))) = some r := H
     have A5 := Aside0.mk A50
     clear A50
     by_cases c6 : t324 = true
     · subst c6
       have H1 : (bF.l0 k1 a0 (wrap64 ((wrap64 (x3_1 + 365)) + 1)) (wrap64 (x4_1 + 1))) = some r := by rw [if_pos rfl] at H; exact H
       clear H
       have H := H1
       clear H1
       have H' := Aside0.mk H
       clear H
       go_wp2_with (first | ((with_reducible refine kW (f := 141) rfl ?_); refine jI (some 12) rfl rfl Tryz.func141 (by kernel_rfl) rfl #[.int .i64 (wrap64 (a0 - 2000)), .int .i64 400] rfl (by (try simp only [List.map_toArray, List.map_cons, List.map_nil]); first | done | rfl | (simp only [List.length_drop, List.length_take]; rfl)) ?_; (with_reducible refine (bT.calls (wrap64 (a0 - 2000)) 400 t323 _ A3.out).mono ?_); rintro e w' ⟨rfl, ⟨nd, rfl⟩⟩; refine ⟨_, rfl, ?_⟩) | ((with_reducible refine kW (f := 142) rfl ?_); refine jI (some 20) rfl rfl Tryz.func142 (by kernel_rfl) rfl #[.int .i64 (wrap64 (2000 + x4_1))] rfl (by (try simp only [List.map_toArray, List.map_cons, List.map_nil]); first | done | rfl | (simp only [List.length_drop, List.length_take]; rfl)) ?_; (with_reducible refine (zE.calls (wrap64 (2000 + x4_1)) true _ A5.out).mono ?_); rintro e w' ⟨rfl, ⟨nd, rfl⟩⟩; refine ⟨_, rfl, ?_⟩))
       go_roundg k1
       case measure => have := HK1.out; omega
       case rel => exact ⟨(wrap64 ((wrap64 (x3_1 + 365)) + 1)), (wrap64 (x4_1 + 1)), (by first | rfl | (simp; done) | (simp [*]; done)), (by first | rfl | (simp; done) | (simp [*]; done)), H', ⟨by have := HK1.out; omega⟩, by repeat (first | exact Drawn0.refl _ | apply Drawn0.step)⟩
     · replace c6 := Bool.eq_false_iff.mpr c6
       subst c6
       have H1 : (bF.l0 k1 a0 (wrap64 (x3_1 + 365)) (wrap64 (x4_1 + 1))) = some r := by rw [if_neg (show ¬ (false = true) by decide)] at H; exact H
       clear H
       have H := H1
       clear H1
       have H' := Aside0.mk H
       clear H
       go_wp2_with (first | ((with_reducible refine kW (f := 141) rfl ?_); refine jI (some 12) rfl rfl Tryz.func141 (by kernel_rfl) rfl #[.int .i64 (wrap64 (a0 - 2000)), .int .i64 400] rfl (by (try simp only [List.map_toArray, List.map_cons, List.map_nil]); first | done | rfl | (simp only [List.length_drop, List.length_take]; rfl)) ?_; (with_reducible refine (bT.calls (wrap64 (a0 - 2000)) 400 t323 _ A3.out).mono ?_); rintro e w' ⟨rfl, ⟨nd, rfl⟩⟩; refine ⟨_, rfl, ?_⟩) | ((with_reducible refine kW (f := 142) rfl ?_); refine jI (some 20) rfl rfl Tryz.func142 (by kernel_rfl) rfl #[.int .i64 (wrap64 (2000 + x4_1))] rfl (by (try simp only [List.map_toArray, List.map_cons, List.map_nil]); first | done | rfl | (simp only [List.length_drop, List.length_take]; rfl)) ?_; (with_reducible refine (zE.calls (wrap64 (2000 + x4_1)) false _ A5.out).mono ?_); rintro e w' ⟨rfl, ⟨nd, rfl⟩⟩; refine ⟨_, rfl, ?_⟩))
       go_roundg k1
       case measure => have := HK1.out; omega
       case rel => exact ⟨(wrap64 (x3_1 + 365)), (wrap64 (x4_1 + 1)), (by first | rfl | (simp; done) | (simp [*]; done)), (by first | rfl | (simp; done) | (simp [*]; done)), H', ⟨by have := HK1.out; omega⟩, by repeat (first | exact Drawn0.refl _ | apply Drawn0.step)⟩
   · rw [if_neg c4] at H
     have c4b0 : decide (x4_1 < t323) = false := decide_eq_false c4
     clear c4
     obtain rfl := Option.some.inj H
     go_wp2_with (first | ((with_reducible refine kW (f := 141) rfl ?_); refine jI (some 12) rfl rfl Tryz.func141 (by kernel_rfl) rfl #[.int .i64 (wrap64 (a0 - 2000)), .int .i64 400] rfl (by (try simp only [List.map_toArray, List.map_cons, List.map_nil]); first | done | rfl | (simp only [List.length_drop, List.length_take]; rfl)) ?_; (with_reducible refine (bT.calls (wrap64 (a0 - 2000)) 400 t323 _ A3.out).mono ?_); rintro e w' ⟨rfl, ⟨nd, rfl⟩⟩; refine ⟨_, rfl, ?_⟩))
     go_ret
     exact ⟨by first | rfl | (simp; done) | (simp [*]; done), by repeat (first | exact Drawn0.refl _ | apply Drawn0.step)⟩
def bH.l0 : Nat → Int → Int → Int → Int → Option (Int)
 | 0, _, _, _, _ => none
 | k + 1, x0, x1, x7, x8 => if x8 < x1 then ((kC.f k x0 x8).bind fun t326 => (bH.l0 k x0 x1 (wrap64 (x7 + t326)) (wrap64 (x8 + 1)))) else (some x7)
def bH.f (k : Nat) (a0 : Int) (a1 : Int) (a2 : Int) : Option (Int) := (bF.f k a0).bind fun t325 => (bH.l0 k a0 a1 (wrap64 ((wrap64 (t325 + a2)) - 1)) 1)
theorem bH.mono_l : ∀ k, (∀ y0 y1 y2 y3, LeO (bH.l0 k y0 y1 y2 y3) (bH.l0 (k + 1) y0 y1 y2 y3))
 | 0 => fun _ _ _ _ r h => by simp [bH.l0] at h
 | k + 1 => by
  have ih0 := bH.mono_l k
  · intro y0 y1 y2 y3
    unfold bH.l0
    repeat' first
    | (with_reducible exact ih0 _ _ _ _)
    | (with_reducible exact kC.mono _ _ _)
    | (with_reducible exact bF.mono _ _)
    | (with_reducible exact LeO.refl _)
    | (with_reducible exact LeO.none _)
    | (with_reducible refine LeO.ite ?_ ?_)
    | (with_reducible refine LeO.bind ?_ (fun _ => ?_))
    | exact ih0 _ _ _ _
    | exact kC.mono _ _ _
    | exact bF.mono _ _
    | exact LeO.none _
    | refine LeO.ite ?_ ?_
    | refine LeO.bind ?_ (fun _ => ?_)
theorem bH.mono : ∀ a0 a1 a2 k, LeO (bH.f k a0 a1 a2) (bH.f (k + 1) a0 a1 a2) := by
 intro a0 a1 a2 k
 have ih0 := bH.mono_l k
 unfold bH.f
 repeat' first
  | (with_reducible exact ih0 _ _ _ _)
  | (with_reducible exact kC.mono _ _ _)
  | (with_reducible exact bF.mono _ _)
  | (with_reducible exact LeO.refl _)
  | (with_reducible exact LeO.none _)
  | (with_reducible refine LeO.ite ?_ ?_)
  | (with_reducible refine LeO.bind ?_ (fun _ => ?_))
  | exact ih0 _ _ _ _
  | exact kC.mono _ _ _
  | exact bF.mono _ _
  | exact LeO.none _
  | refine LeO.ite ?_ ?_
  | refine LeO.bind ?_ (fun _ => ?_)
set_option maxHeartbeats 8000000 in
set_option maxRecDepth 100000 in
theorem bH.calls (k : Nat) (a0 : Int) (a1 : Int) (a2 : Int) (r : Int) (w : World) (h : bH.f k a0 a1 a2 = some r) :
 Calls Tryz.prog 144 #[.int .i64 a0, .int .i64 a1, .int .i64 a2] w fun e w' => e = .returned (.int .i64 r) ∧ Drawn0 w w' := by
 have H : ((bF.f k a0).bind fun t325 => (bH.l0 k a0 a1 (wrap64 ((wrap64 (t325 + a2)) - 1)) 1)) = some r := h
 clear h
 replace H := Option.bind_eq_some_iff.mp H
 obtain ⟨t325, A40, H⟩ := H
 replace H : (bH.l0 k a0 a1 (wrap64 ((wrap64 (t325 + a2)) - 1)) 1) = some r := H
 have A4 := Aside0.mk A40
 clear A40
 have H' := Aside0.mk H
 clear H
 go_enter Tryz.func144, Tryz.ntmps144
 go_wp2_with (first | ((with_reducible refine kW (f := 167) rfl ?_); refine jI (some 10) rfl rfl Tryz.func167 (by kernel_rfl) rfl #[.int .i64 a0] rfl (by (try simp only [List.map_toArray, List.map_cons, List.map_nil]); first | done | rfl | (simp only [List.length_drop, List.length_take]; rfl)) ?_; (with_reducible refine (bF.calls k a0 t325 _ A4.out).mono ?_); rintro e w' ⟨rfl, ⟨nd, rfl⟩⟩; refine ⟨_, rfl, ?_⟩))
 go_loopg [7, 8] k (fun kq v7 v8 w' => ∃ (x7_1 : Int) (x8_1 : Int), v7 = .int .i64 x7_1 ∧ v8 = .int .i64 x8_1 ∧ Aside0 (bH.l0 kq a0 a1 x7_1 x8_1 = some r) ∧ Aside0 (kq ≤ k) ∧ Drawn0 w w')
 case atStart => exact ⟨(wrap64 ((wrap64 (t325 + a2)) - 1)), (1), (by first | rfl | (simp; done) | (simp [*]; done)), (by first | rfl | (simp; done) | (simp [*]; done)), H', ⟨Nat.le_refl _⟩, by repeat (first | exact Drawn0.refl _ | apply Drawn0.step)⟩
 case round =>
  clear H'
  try clear c1
  try clear p2
  obtain ⟨x7_1, x8_1, rfl, rfl, HA, HK1, ⟨m1, rfl⟩⟩ := hrel
  cases gk with
  | zero => exact absurd HA.out (by simp [bH.l0])
  | succ k1 =>
   have H := HA.out
   clear HA
   simp only [bH.l0] at H
   by_cases c5 : x8_1 < a1
   · rw [if_pos c5] at H
     have c5b0 : decide (x8_1 < a1) = true := decide_eq_true c5
     clear c5
     replace H := Option.bind_eq_some_iff.mp H
     obtain ⟨t326, A60, H⟩ := H
     replace H : (bH.l0 k1 a0 a1 (wrap64 (x7_1 + t326)) (wrap64 (x8_1 + 1))) = some r := H
     have A6 := Aside0.mk A60
     clear A60
     have H' := Aside0.mk H
     clear H
     go_wp2_with (first | ((with_reducible refine kW (f := 143) rfl ?_); refine jI (some 22) rfl rfl Tryz.func143 (by kernel_rfl) rfl #[.int .i64 a0, .int .i64 x8_1] rfl (by (try simp only [List.map_toArray, List.map_cons, List.map_nil]); first | done | rfl | (simp only [List.length_drop, List.length_take]; rfl)) ?_; (with_reducible refine (kC.calls k1 a0 x8_1 t326 _ A6.out).mono ?_); rintro e w' ⟨rfl, ⟨nd, rfl⟩⟩; refine ⟨_, rfl, ?_⟩))
     go_roundg k1
     case measure => have := HK1.out; omega
     case rel => exact ⟨(wrap64 (x7_1 + t326)), (wrap64 (x8_1 + 1)), (by first | rfl | (simp; done) | (simp [*]; done)), (by first | rfl | (simp; done) | (simp [*]; done)), H', ⟨by have := HK1.out; omega⟩, by repeat (first | exact Drawn0.refl _ | apply Drawn0.step)⟩
   · rw [if_neg c5] at H
     have c5b0 : decide (x8_1 < a1) = false := decide_eq_false c5
     clear c5
     obtain rfl := Option.some.inj H
     go_wp2
     go_ret
     exact ⟨by first | rfl | (simp; done) | (simp [*]; done), by repeat (first | exact Drawn0.refl _ | apply Drawn0.step)⟩
def zW.f (k : Nat)  : Option (Int) := (bH.f k (-4718) 1 1).bind fun t327 => (some t327)
theorem zW.mono : ∀ k, LeO (zW.f k ) (zW.f (k + 1) ) := by
 intro  k
 unfold zW.f
 repeat' first
  | (with_reducible exact bH.mono _ _ _ _)
  | (with_reducible exact LeO.refl _)
  | (with_reducible exact LeO.none _)
  | (with_reducible refine LeO.ite ?_ ?_)
  | (with_reducible refine LeO.bind ?_ (fun _ => ?_))
  | exact bH.mono _ _ _ _
  | exact LeO.none _
  | refine LeO.ite ?_ ?_
  | refine LeO.bind ?_ (fun _ => ?_)
set_option maxHeartbeats 8000000 in
set_option maxRecDepth 100000 in
theorem zW.calls (k : Nat)  (r : Int) (w : World) (h : zW.f k  = some r) :
 Calls Tryz.prog 108 #[] w fun e w' => e = .returned (.int .i64 r) ∧ Drawn0 w w' := by
 have H : ((bH.f k (-4718) 1 1).bind fun t327 => (some t327)) = some r := h
 clear h
 replace H := Option.bind_eq_some_iff.mp H
 obtain ⟨t327, A10, H⟩ := H
 replace H : (some t327) = some r := H
 have A1 := Aside0.mk A10
 clear A10
 obtain rfl := Option.some.inj H
 go_enter Tryz.func108, Tryz.ntmps108
 go_wp2_with (first | ((with_reducible refine kW (f := 144) rfl ?_); refine jI (some 1) rfl rfl Tryz.func144 (by kernel_rfl) rfl #[.int .i64 (-4718), .int .i64 1, .int .i64 1] rfl (by (try simp only [List.map_toArray, List.map_cons, List.map_nil]); first | done | rfl | (simp only [List.length_drop, List.length_take]; rfl)) ?_; (with_reducible refine (bH.calls k (-4718) 1 1 t327 _ A1.out).mono ?_); rintro e w' ⟨rfl, ⟨nd, rfl⟩⟩; refine ⟨_, rfl, ?_⟩))
 go_ret
 exact ⟨by first | rfl | (simp; done) | (simp [*]; done), by repeat (first | exact Drawn0.refl _ | apply Drawn0.step)⟩
def zZ.f (k : Nat)  : Option (Int) := (bH.f k 294282 12 31).bind fun t328 => (some t328)
theorem zZ.mono : ∀ k, LeO (zZ.f k ) (zZ.f (k + 1) ) := by
 intro  k
 unfold zZ.f
 repeat' first
  | (with_reducible exact bH.mono _ _ _ _)
  | (with_reducible exact LeO.refl _)
  | (with_reducible exact LeO.none _)
  | (with_reducible refine LeO.ite ?_ ?_)
  | (with_reducible refine LeO.bind ?_ (fun _ => ?_))
  | exact bH.mono _ _ _ _
  | exact LeO.none _
  | refine LeO.ite ?_ ?_
  | refine LeO.bind ?_ (fun _ => ?_)
set_option maxHeartbeats 8000000 in
set_option maxRecDepth 100000 in
theorem zZ.calls (k : Nat)  (r : Int) (w : World) (h : zZ.f k  = some r) :
 Calls Tryz.prog 166 #[] w fun e w' => e = .returned (.int .i64 r) ∧ Drawn0 w w' := by
 have H : ((bH.f k 294282 12 31).bind fun t328 => (some t328)) = some r := h
 clear h
 replace H := Option.bind_eq_some_iff.mp H
 obtain ⟨t328, A10, H⟩ := H
 replace H : (some t328) = some r := H
 have A1 := Aside0.mk A10
 clear A10
 obtain rfl := Option.some.inj H
 go_enter Tryz.func166, Tryz.ntmps166
 go_wp2_with (first | ((with_reducible refine kW (f := 144) rfl ?_); refine jI (some 1) rfl rfl Tryz.func144 (by kernel_rfl) rfl #[.int .i64 294282, .int .i64 12, .int .i64 31] rfl (by (try simp only [List.map_toArray, List.map_cons, List.map_nil]); first | done | rfl | (simp only [List.length_drop, List.length_take]; rfl)) ?_; (with_reducible refine (bH.calls k 294282 12 31 t328 _ A1.out).mono ?_); rintro e w' ⟨rfl, ⟨nd, rfl⟩⟩; refine ⟨_, rfl, ?_⟩))
 go_ret
 exact ⟨by first | rfl | (simp; done) | (simp [*]; done), by repeat (first | exact Drawn0.refl _ | apply Drawn0.step)⟩
def zK.f (k : Nat) (a0 : Int) (a1 : Int) (a2 : Int) : Option (Bool) := if a0 ≥ (-4718) then (if a0 ≤ 294282 then (if a1 ≥ 1 then (if a1 ≤ 12 then (if a2 ≥ 1 then ((kC.f k a0 a1).bind fun t350 => (some (decide (a2 ≤ t350)))) else (some false)) else (some false)) else (some false)) else (some false)) else (some false)
theorem zK.mono : ∀ a0 a1 a2 k, LeO (zK.f k a0 a1 a2) (zK.f (k + 1) a0 a1 a2) := by
 intro a0 a1 a2 k
 unfold zK.f
 repeat' first
  | (with_reducible exact kC.mono _ _ _)
  | (with_reducible exact LeO.refl _)
  | (with_reducible exact LeO.none _)
  | (with_reducible refine LeO.ite ?_ ?_)
  | (with_reducible refine LeO.bind ?_ (fun _ => ?_))
  | exact kC.mono _ _ _
  | exact LeO.none _
  | refine LeO.ite ?_ ?_
  | refine LeO.bind ?_ (fun _ => ?_)
set_option maxHeartbeats 8000000 in
set_option maxRecDepth 100000 in
theorem zK.calls (k : Nat) (a0 : Int) (a1 : Int) (a2 : Int) (r : Bool) (w : World) (h : zK.f k a0 a1 a2 = some r) :
 Calls Tryz.prog 155 #[.int .i64 a0, .int .i64 a1, .int .i64 a2] w fun e w' => e = .returned (.bool r) ∧ Drawn0 w w' := by
 have H : (if a0 ≥ (-4718) then (if a0 ≤ 294282 then (if a1 ≥ 1 then (if a1 ≤ 12 then (if a2 ≥ 1 then ((kC.f k a0 a1).bind fun t350 => (some (decide (a2 ≤ t350)))) else (some false)) else (some false)) else (some false)) else (some false)) else (some false)) = some r := h
 clear h
 by_cases c4 : a0 ≥ (-4718)
 · rw [if_pos c4] at H
   have c4b0 : decide ((-4718) ≤ a0) = true := decide_eq_true c4
   clear c4
   by_cases c5 : a0 ≤ 294282
   · rw [if_pos c5] at H
     have c5b0 : decide (a0 ≤ 294282) = true := decide_eq_true c5
     clear c5
     by_cases c6 : a1 ≥ 1
     · rw [if_pos c6] at H
       have c6b0 : decide (1 ≤ a1) = true := decide_eq_true c6
       clear c6
       by_cases c7 : a1 ≤ 12
       · rw [if_pos c7] at H
         have c7b0 : decide (a1 ≤ 12) = true := decide_eq_true c7
         clear c7
         by_cases c8 : a2 ≥ 1
         · rw [if_pos c8] at H
           have c8b0 : decide (1 ≤ a2) = true := decide_eq_true c8
           clear c8
           replace H := Option.bind_eq_some_iff.mp H
           obtain ⟨t350, A90, H⟩ := H
           replace H : (some (decide (a2 ≤ t350))) = some r := H
           have A9 := Aside0.mk A90
           clear A90
           obtain rfl := Option.some.inj H
           go_enter Tryz.func155, Tryz.ntmps155
           go_wp2_with (first | (go_at_call 143; (with_reducible refine (kC.calls k a0 a1 t350 _ A9.out).mono ?_); rintro e w' ⟨rfl, ⟨nd, rfl⟩⟩))
           go_ret
           exact ⟨by first | rfl | (simp; done) | (simp [*]; done), by repeat (first | exact Drawn0.refl _ | apply Drawn0.step)⟩
         · rw [if_neg c8] at H
           have c8b0 : decide (1 ≤ a2) = false := decide_eq_false c8
           clear c8
           obtain rfl := Option.some.inj H
           go_enter Tryz.func155, Tryz.ntmps155
           go_wp2
           go_ret
           exact ⟨by first | rfl | (simp; done) | (simp [*]; done), by repeat (first | exact Drawn0.refl _ | apply Drawn0.step)⟩
       · rw [if_neg c7] at H
         have c7b0 : decide (a1 ≤ 12) = false := decide_eq_false c7
         clear c7
         obtain rfl := Option.some.inj H
         go_enter Tryz.func155, Tryz.ntmps155
         go_wp2
         go_ret
         exact ⟨by first | rfl | (simp; done) | (simp [*]; done), by repeat (first | exact Drawn0.refl _ | apply Drawn0.step)⟩
     · rw [if_neg c6] at H
       have c6b0 : decide (1 ≤ a1) = false := decide_eq_false c6
       clear c6
       obtain rfl := Option.some.inj H
       go_enter Tryz.func155, Tryz.ntmps155
       go_wp2
       go_ret
       exact ⟨by first | rfl | (simp; done) | (simp [*]; done), by repeat (first | exact Drawn0.refl _ | apply Drawn0.step)⟩
   · rw [if_neg c5] at H
     have c5b0 : decide (a0 ≤ 294282) = false := decide_eq_false c5
     clear c5
     obtain rfl := Option.some.inj H
     go_enter Tryz.func155, Tryz.ntmps155
     go_wp2
     go_ret
     exact ⟨by first | rfl | (simp; done) | (simp [*]; done), by repeat (first | exact Drawn0.refl _ | apply Drawn0.step)⟩
 · rw [if_neg c4] at H
   have c4b0 : decide ((-4718) ≤ a0) = false := decide_eq_false c4
   clear c4
   obtain rfl := Option.some.inj H
   go_enter Tryz.func155, Tryz.ntmps155
   go_wp2
   go_ret
   exact ⟨by first | rfl | (simp; done) | (simp [*]; done), by repeat (first | exact Drawn0.refl _ | apply Drawn0.step)⟩
def jA.f (k : Nat) (a0 : Int) (a1 : Int) (a2 : Int) : Option (Int × Int) := (zK.f k a0 a1 a2).bind fun t351 => (if t351 = true then ((bH.f k a0 a1 a2).bind fun t352 => (some (t352, 0))) else (some (0, 10)))
theorem jA.mono : ∀ a0 a1 a2 k, LeO (jA.f k a0 a1 a2) (jA.f (k + 1) a0 a1 a2) := by
 intro a0 a1 a2 k
 unfold jA.f
 repeat' first
  | (with_reducible exact zK.mono _ _ _ _)
  | (with_reducible exact bH.mono _ _ _ _)
  | (with_reducible exact LeO.refl _)
  | (with_reducible exact LeO.none _)
  | (with_reducible refine LeO.ite ?_ ?_)
  | (with_reducible refine LeO.bind ?_ (fun _ => ?_))
  | exact zK.mono _ _ _ _
  | exact bH.mono _ _ _ _
  | exact LeO.none _
  | refine LeO.ite ?_ ?_
  | refine LeO.bind ?_ (fun _ => ?_)
set_option maxHeartbeats 8000000 in
set_option maxRecDepth 100000 in
theorem jA.calls (k : Nat) (a0 : Int) (a1 : Int) (a2 : Int) (r1 : Int) (r2 : Int) (w : World) (h : jA.f k a0 a1 a2 = some (r1, r2)) :
 Calls Tryz.prog 121 #[.int .i64 a0, .int .i64 a1, .int .i64 a2] w fun e w' => e = .returned (.tuple #[.int .i64 r1, .int .i64 r2]) ∧ Drawn0 w w' := by
 have H : ((zK.f k a0 a1 a2).bind fun t351 => (if t351 = true then ((bH.f k a0 a1 a2).bind fun t352 => (some (t352, 0))) else (some (0, 10)))) = some (r1, r2) := h
 clear h
 replace H := Option.bind_eq_some_iff.mp H
 obtain ⟨t351, A40, H⟩ := H
 replace H : (if t351 = true then ((bH.f k a0 a1 a2).bind fun t352 => (some (t352, 0))) else (some (0, 10))) = some (r1, r2) := H
 have A4 := Aside0.mk A40
 clear A40
 by_cases c5 : t351 = true
 · subst c5
   have H1 : ((bH.f k a0 a1 a2).bind fun t352 => (some (t352, 0))) = some (r1, r2) := by rw [if_pos rfl] at H; exact H
   clear H
   have H := H1
   clear H1
   replace H := Option.bind_eq_some_iff.mp H
   obtain ⟨t352, A60, H⟩ := H
   replace H : (some (t352, 0)) = some (r1, r2) := H
   have A6 := Aside0.mk A60
   clear A60
   simp only [Option.some.injEq, Prod.mk.injEq] at H
   obtain ⟨rfl, rfl⟩ := H
   go_enter Tryz.func121, Tryz.ntmps121
   go_wp2_with (first | ((with_reducible refine kW (f := 155) rfl ?_); refine jI (some 11) rfl rfl Tryz.func155 (by kernel_rfl) rfl #[.int .i64 a0, .int .i64 a1, .int .i64 a2] rfl (by (try simp only [List.map_toArray, List.map_cons, List.map_nil]); first | done | rfl | (simp only [List.length_drop, List.length_take]; rfl)) ?_; (with_reducible refine (zK.calls k a0 a1 a2 true _ A4.out).mono ?_); rintro e w' ⟨rfl, ⟨nd, rfl⟩⟩; refine ⟨_, rfl, ?_⟩) | ((with_reducible refine kW (f := 144) rfl ?_); refine jI (some 16) rfl rfl Tryz.func144 (by kernel_rfl) rfl #[.int .i64 a0, .int .i64 a1, .int .i64 a2] rfl (by (try simp only [List.map_toArray, List.map_cons, List.map_nil]); first | done | rfl | (simp only [List.length_drop, List.length_take]; rfl)) ?_; (with_reducible refine (bH.calls k a0 a1 a2 t352 _ A6.out).mono ?_); rintro e w' ⟨rfl, ⟨nd, rfl⟩⟩; refine ⟨_, rfl, ?_⟩))
   go_ret2
   exact ⟨by first | rfl | (simp; done) | (simp [*]; done), by repeat (first | exact Drawn0.refl _ | apply Drawn0.step)⟩
 · replace c5 := Bool.eq_false_iff.mpr c5
   subst c5
   have H1 : (some (0, 10)) = some (r1, r2) := by rw [if_neg (show ¬ (false = true) by decide)] at H; exact H
   clear H
   have H := H1
   clear H1
   simp only [Option.some.injEq, Prod.mk.injEq] at H
   obtain ⟨rfl, rfl⟩ := H
   go_enter Tryz.func121, Tryz.ntmps121
   go_wp2_with (first | ((with_reducible refine kW (f := 155) rfl ?_); refine jI (some 11) rfl rfl Tryz.func155 (by kernel_rfl) rfl #[.int .i64 a0, .int .i64 a1, .int .i64 a2] rfl (by (try simp only [List.map_toArray, List.map_cons, List.map_nil]); first | done | rfl | (simp only [List.length_drop, List.length_take]; rfl)) ?_; (with_reducible refine (zK.calls k a0 a1 a2 false _ A4.out).mono ?_); rintro e w' ⟨rfl, ⟨nd, rfl⟩⟩; refine ⟨_, rfl, ?_⟩))
   go_ret2
   exact ⟨by first | rfl | (simp; done) | (simp [*]; done), by repeat (first | exact Drawn0.refl _ | apply Drawn0.step)⟩
end Go.Proofs.YtimgphlfaninnaaGreat.P

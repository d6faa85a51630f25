-- Written by a program of the session (a print of the seat's translation, functions given by hand among it). Lean checks it.
import Derived.Test.YtimgphlfaninnaaGreatQngfoghndhl
import Derived.Test.YtimgphlfaninnaaGreatQgomobcgpci
import Derived.Test.YtimgphlfaninnaaGreatQnkbfebbbcm
namespace Go.Proofs.YtimgphlfaninnaaGreat.P
open Go.RowKit Go.Proofs.YtimgphlfaninnaaGreatW.PrintWords Go.Proofs.YtimgphlfaninnaaGreatW.PrintLast Go.Proofs.YtimgphlfaninnaaGreatW.PrintMore
open Go.Proofs.YtimgphlfaninnaaGreat.A
attribute [local go_sem] max2_int min2_int max_two min_two kM kL max_four min_four   -- for this text's walks alone
set_option linter.unusedVariables false
set_option linter.unusedSimpArgs false
open A in
noncomputable def sgF (k : Nat) : Con
  | [.agg [.int .i64 x, .int .i64 y]] => some ((day_Of.f k x y).isSome, .tup [.agg [.int .i64 (gd (day_Of.f k x y)).1, .int .i64 (gd (day_Of.f k x y)).2.1], .int .i64 (gd (day_Of.f k x y)).2.2.1, .int .i64 (gd (day_Of.f k x y)).2.2.2])
  | _ => none
set_option linter.unusedSimpArgs false in
open A in
theorem sgF_ok (k : Nat) : COk Tryz.prog 83 (sgF k) := by
  intro args p v hc hp w A hA
  unfold sgF at hc
  split at hc
  · rename_i x y
    simp only [Option.some.injEq, Prod.mk.injEq] at hc
    obtain ⟨rfl, rfl⟩ := hc
    rcases hf : day_Of.f k x y with _ | ⟨r1, r2, r3, r4⟩
    · rw [hf] at hp; cases hp
    obtain rfl : A = [.agg #[.int .i64 x, .int .i64 y]] := by simpa [rl_cons, rl_nil, rv_int, rv_bool, rv_str, rv_agg, rv_fn] using hA
    exact gives_of_calls (fn := Tryz.f83) Tryz.func83 (by kernel_rfl) (by kernel_rfl) (day_Of.calls _ _ _ _ _ _ _ w hf) (fun _ => by simp [gd_some, rl_cons, rl_nil, rv_int, rv_bool, rv_str, rv_agg, rv_tup]) (fun _ h => h)
  · cases hc
open A in
noncomputable def sgP : Con
  | [.agg [.int .i64 x, .int .i64 y]] => some ((day_Parts.f x y).isSome, .tup [.int .i64 (gd (day_Parts.f x y)).1, .int .i64 (gd (day_Parts.f x y)).2.1, .int .i64 (gd (day_Parts.f x y)).2.2.1, .int .i64 (gd (day_Parts.f x y)).2.2.2])
  | _ => none
set_option linter.unusedSimpArgs false in
open A in
theorem sgP_ok : COk Tryz.prog 104 (sgP) := by
  intro args p v hc hp w A hA
  unfold sgP at hc
  split at hc
  · rename_i x y
    simp only [Option.some.injEq, Prod.mk.injEq] at hc
    obtain ⟨rfl, rfl⟩ := hc
    rcases hf : day_Parts.f x y with _ | ⟨r1, r2, r3, r4⟩
    · rw [hf] at hp; cases hp
    obtain rfl : A = [.agg #[.int .i64 x, .int .i64 y]] := by simpa [rl_cons, rl_nil, rv_int, rv_bool, rv_str, rv_agg, rv_fn] using hA
    exact gives_of_calls (fn := Tryz.f104) Tryz.func104 (by kernel_rfl) (by kernel_rfl) (day_Parts.calls _ _ _ _ _ _ w hf) (fun _ => by simp [gd_some, rl_cons, rl_nil, rv_int, rv_bool, rv_str, rv_agg, rv_tup]) (fun _ h => h)
  · cases hc
open A in
theorem stamp_month1_vc (k : Nat) (x y : Int) (K : AV → Prop) : afv PA Tryz.prog (tab [(83, sgF k), (104, sgP)]) noLoops 12 103 [.agg [.int .i64 x, .int .i64 y]] K = (sgQ4 (day_Of.f k x y) fun m0 m1 _ _ => sgQ4 (day_Parts.f m0 m1) fun m4 m5 _ _ => K (.int .i64 (IntKind.wrap .i64 (IntKind.wrap .i64 (12 * m4) + m5)))) := by kernel_rfl
def stamp_month1.f (k : Nat) (x y : Int) : Option Int := (day_Of.f k x y).bind fun o => (day_Parts.f o.1 o.2.1).bind fun p => some (wrap64 (wrap64 (12 * p.1) + p.2.1))
set_option linter.unusedSimpArgs false in
open A in
theorem stamp_month1.calls (k : Nat) (x : Int) (y : Int) (r1 : Int) (w : World) (h : stamp_month1.f k x y = some (r1)) :
    Calls Tryz.prog 103 #[.agg #[.int .i64 x, .int .i64 y]] w fun e w' => e = .returned (.int .i64 r1) ∧ Below w.heap.size w w' := by
  have hT : TabOk Tryz.prog (tab [(83, sgF k), (104, sgP)]) := tab_cons (sgF_ok k) (tab_cons (sgP_ok) (tab_nil))
  have hA : RL noNames w [.agg [.int .i64 x, .int .i64 y]] [.agg #[.int .i64 x, .int .i64 y]] := by simp [rl_cons, rl_nil, rv_int, rv_agg]
  have hV : ∀ ρ V', RV ρ w (AV.int .i64 r1) V' → V' = .int .i64 r1 := fun ρ V' hV => by simpa [rl_cons, rl_nil, rv_int, rv_agg, rv_tup] using hV
  refine calls_of_vc hT (n := 12) (g := 103) ?_ hA hV
  rw [stamp_month1_vc]
  simp only [wrap_i64]
  unfold stamp_month1.f at h
  simp only [Option.bind_eq_some_iff] at h
  obtain ⟨⟨o1, o2, o3, o4⟩, hO, ⟨p1, p2, p3, p4⟩, hP, h⟩ := h
  refine sgQ4_ok hO (sgQ4_ok hP ?_)
  simp only [Option.some.injEq] at h
  rw [h]
open A in
noncomputable def sgT (k : Nat) : Con
  | [.agg [.int .i64 x, .int .i64 y]] => some ((stamp_month1.f k x y).isSome, .int .i64 (gd (stamp_month1.f k x y)))
  | _ => none
set_option linter.unusedSimpArgs false in
open A in
theorem sgT_ok (k : Nat) : COk Tryz.prog 103 (sgT k) := by
  intro args p v hc hp w A hA
  unfold sgT at hc
  split at hc
  · rename_i x y
    simp only [Option.some.injEq, Prod.mk.injEq] at hc
    obtain ⟨rfl, rfl⟩ := hc
    rcases hf : stamp_month1.f k x y with _ | r1
    · rw [hf] at hp; cases hp
    obtain rfl : A = [.agg #[.int .i64 x, .int .i64 y]] := by simpa [rl_cons, rl_nil, rv_int, rv_bool, rv_str, rv_agg, rv_fn] using hA
    exact gives_of_calls (fn := Tryz.f103) Tryz.func103 (by kernel_rfl) (by kernel_rfl) (stamp_month1.calls _ _ _ _ w hf) (fun _ => by simp [gd_some, rl_cons, rl_nil, rv_int, rv_bool, rv_str, rv_agg, rv_tup]) (fun _ h => h)
  · cases hc
open A in
theorem stamp_months_vc (k : Nat) (x y z t : Int) (K : AV → Prop) : afv PA Tryz.prog (tab [(103, sgT k)]) noLoops 12 57 [.agg [.int .i64 x, .int .i64 y], .agg [.int .i64 z, .int .i64 t]] K = (sgQ1 (stamp_month1.f k x y) fun m0 => sgQ1 (stamp_month1.f k z t) fun m1 => K (.int .i64 (if IntKind.wrap .i64 (IntKind.wrap .i64 (m0 - m1) - 1) > 0 then IntKind.wrap .i64 (IntKind.wrap .i64 (m0 - m1) - 1) else 0))) := by kernel_rfl
def stamp_months.f (k : Nat) (x y z t : Int) : Option Int := (stamp_month1.f k x y).bind fun a => (stamp_month1.f k z t).bind fun b => some (if wrap64 (wrap64 (a - b) - 1) > 0 then wrap64 (wrap64 (a - b) - 1) else 0)
set_option linter.unusedSimpArgs false in
open A in
theorem stamp_months.calls (k : Nat) (x : Int) (y : Int) (z : Int) (t : Int) (r1 : Int) (w : World) (h : stamp_months.f k x y z t = some (r1)) :
    Calls Tryz.prog 57 #[.agg #[.int .i64 x, .int .i64 y], .agg #[.int .i64 z, .int .i64 t]] w fun e w' => e = .returned (.int .i64 r1) ∧ Below w.heap.size w w' := by
  have hT : TabOk Tryz.prog (tab [(103, sgT k)]) := tab_cons (sgT_ok k) (tab_nil)
  have hA : RL noNames w [.agg [.int .i64 x, .int .i64 y], .agg [.int .i64 z, .int .i64 t]] [.agg #[.int .i64 x, .int .i64 y], .agg #[.int .i64 z, .int .i64 t]] := by simp [rl_cons, rl_nil, rv_int, rv_agg]
  have hV : ∀ ρ V', RV ρ w (AV.int .i64 r1) V' → V' = .int .i64 r1 := fun ρ V' hV => by simpa [rl_cons, rl_nil, rv_int, rv_agg, rv_tup] using hV
  refine calls_of_vc hT (n := 12) (g := 57) ?_ hA hV
  rw [stamp_months_vc]
  simp only [wrap_i64]
  unfold stamp_months.f at h
  simp only [Option.bind_eq_some_iff] at h
  obtain ⟨m0, h0, m1, h1, h⟩ := h
  refine sgQ1_ok h0 (sgQ1_ok h1 ?_)
  simp only [Option.some.injEq] at h
  rw [h]
open A in
noncomputable def sgM (k : Nat) : Con
  | [.agg [.int .i64 x, .int .i64 y], .agg [.int .i64 z, .int .i64 t]] => some ((stamp_months.f k x y z t).isSome, .int .i64 (gd (stamp_months.f k x y z t)))
  | _ => none
set_option linter.unusedSimpArgs false in
open A in
theorem sgM_ok (k : Nat) : COk Tryz.prog 57 (sgM k) := by
  intro args p v hc hp w A hA
  unfold sgM at hc
  split at hc
  · rename_i x y z t
    simp only [Option.some.injEq, Prod.mk.injEq] at hc
    obtain ⟨rfl, rfl⟩ := hc
    rcases hf : stamp_months.f k x y z t with _ | r1
    · rw [hf] at hp; cases hp
    obtain rfl : A = [.agg #[.int .i64 x, .int .i64 y], .agg #[.int .i64 z, .int .i64 t]] := by simpa [rl_cons, rl_nil, rv_int, rv_bool, rv_str, rv_agg, rv_fn] using hA
    exact gives_of_calls (fn := Tryz.f57) Tryz.func57 (by kernel_rfl) (by kernel_rfl) (stamp_months.calls _ _ _ _ _ _ w hf) (fun _ => by simp [gd_some, rl_cons, rl_nil, rv_int, rv_bool, rv_str, rv_agg, rv_tup]) (fun _ h => h)
  · cases hc
open A in
noncomputable def sgC (k : Nat) : Con
  | [.agg [.int .i64 x, .int .i64 y], .agg [.int .i64 z, .int .i64 t]] => some ((day_CmpStamp.f k x y z t).isSome, .int .i64 (gd (day_CmpStamp.f k x y z t)))
  | _ => none
set_option linter.unusedSimpArgs false in
open A in
theorem sgC_ok (k : Nat) : COk Tryz.prog 55 (sgC k) := by
  intro args p v hc hp w A hA
  unfold sgC at hc
  split at hc
  · rename_i x y z t
    simp only [Option.some.injEq, Prod.mk.injEq] at hc
    obtain ⟨rfl, rfl⟩ := hc
    rcases hf : day_CmpStamp.f k x y z t with _ | r1
    · rw [hf] at hp; cases hp
    obtain rfl : A = [.agg #[.int .i64 x, .int .i64 y], .agg #[.int .i64 z, .int .i64 t]] := by simpa [rl_cons, rl_nil, rv_int, rv_bool, rv_str, rv_agg, rv_fn] using hA
    exact gives_of_calls (fn := Tryz.f55) Tryz.func55 (by kernel_rfl) (by kernel_rfl) (day_CmpStamp.calls _ _ _ _ _ _ w hf) (fun _ => by simp [gd_some, rl_cons, rl_nil, rv_int, rv_bool, rv_str, rv_agg, rv_tup]) (fun _ h => h)
  · cases hc
open A in
noncomputable def sgG : Con
  | [.agg [.int .i64 x, .int .i64 y, .int .i64 z, .int .i64 t]] => some ((span_Neg.f x y z t).isSome, .tup [.agg [.int .i64 (gd (span_Neg.f x y z t)).1, .int .i64 (gd (span_Neg.f x y z t)).2.1, .int .i64 (gd (span_Neg.f x y z t)).2.2.1, .int .i64 (gd (span_Neg.f x y z t)).2.2.2.1], .int .i64 (gd (span_Neg.f x y z t)).2.2.2.2])
  | _ => none
set_option linter.unusedSimpArgs false in
open A in
theorem sgG_ok : COk Tryz.prog 56 (sgG) := by
  intro args p v hc hp w A hA
  unfold sgG at hc
  split at hc
  · rename_i x y z t
    simp only [Option.some.injEq, Prod.mk.injEq] at hc
    obtain ⟨rfl, rfl⟩ := hc
    rcases hf : span_Neg.f x y z t with _ | ⟨r1, r2, r3, r4, r5⟩
    · rw [hf] at hp; cases hp
    obtain rfl : A = [.agg #[.int .i64 x, .int .i64 y, .int .i64 z, .int .i64 t]] := by simpa [rl_cons, rl_nil, rv_int, rv_bool, rv_str, rv_agg, rv_fn] using hA
    exact gives_of_calls (fn := Tryz.f56) Tryz.func56 (by kernel_rfl) (by kernel_rfl) (span_Neg.calls _ _ _ _ _ _ _ _ _ w hf) (fun _ => by simp [gd_some, rl_cons, rl_nil, rv_int, rv_bool, rv_str, rv_agg, rv_tup]) (fun _ h => h)
  · cases hc
open A in
noncomputable def sgA (k : Nat) : Con
  | [.agg [.int .i64 x, .int .i64 y], .agg [.int .i64 a, .int .i64 b, .int .i64 c, .int .i64 d]] => some ((stamp_Add.f k x y a b c d).isSome, .tup [.agg [.int .i64 (gd (stamp_Add.f k x y a b c d)).1, .int .i64 (gd (stamp_Add.f k x y a b c d)).2.1], .int .i64 (gd (stamp_Add.f k x y a b c d)).2.2])
  | _ => none
set_option linter.unusedSimpArgs false in
open A in
theorem sgA_ok (k : Nat) : COk Tryz.prog 17 (sgA k) := by
  intro args p v hc hp w A hA
  unfold sgA at hc
  split at hc
  · rename_i x y a b c d
    simp only [Option.some.injEq, Prod.mk.injEq] at hc
    obtain ⟨rfl, rfl⟩ := hc
    rcases hf : stamp_Add.f k x y a b c d with _ | ⟨r1, r2, r3⟩
    · rw [hf] at hp; cases hp
    obtain rfl : A = [.agg #[.int .i64 x, .int .i64 y], .agg #[.int .i64 a, .int .i64 b, .int .i64 c, .int .i64 d]] := by simpa [rl_cons, rl_nil, rv_int, rv_bool, rv_str, rv_agg, rv_fn] using hA
    exact gives_of_calls (fn := Tryz.f17) Tryz.func17 (by kernel_rfl) (by kernel_rfl) (stamp_Add.calls _ _ _ _ _ _ _ _ _ _ w hf) (fun _ => by simp [gd_some, rl_cons, rl_nil, rv_int, rv_bool, rv_str, rv_agg, rv_tup]) (fun _ h => h)
  · cases hc
open A in
noncomputable def sgS (k : Nat) : Con
  | [.agg [.int .i64 x, .int .i64 y], .agg [.int .i64 z, .int .i64 t]] => some ((stamp_Sub.f k x y z t).isSome, .tup [.agg [.int .i64 (gd (stamp_Sub.f k x y z t)).1, .int .i64 (gd (stamp_Sub.f k x y z t)).2.1, .int .i64 (gd (stamp_Sub.f k x y z t)).2.2.1, .int .i64 (gd (stamp_Sub.f k x y z t)).2.2.2.1], .int .i64 (gd (stamp_Sub.f k x y z t)).2.2.2.2])
  | _ => none
set_option linter.unusedSimpArgs false in
open A in
theorem sgS_ok (k : Nat) : COk Tryz.prog 21 (sgS k) := by
  intro args p v hc hp w A hA
  unfold sgS at hc
  split at hc
  · rename_i x y z t
    simp only [Option.some.injEq, Prod.mk.injEq] at hc
    obtain ⟨rfl, rfl⟩ := hc
    rcases hf : stamp_Sub.f k x y z t with _ | ⟨r1, r2, r3, r4, r5⟩
    · rw [hf] at hp; cases hp
    obtain rfl : A = [.agg #[.int .i64 x, .int .i64 y], .agg #[.int .i64 z, .int .i64 t]] := by simpa [rl_cons, rl_nil, rv_int, rv_bool, rv_str, rv_agg, rv_fn] using hA
    exact gives_of_calls (fn := Tryz.f21) Tryz.func21 (by kernel_rfl) (by kernel_rfl) (stamp_Sub.calls _ _ _ _ _ _ _ _ _ _ w hf) (fun _ => by simp [gd_some, rl_cons, rl_nil, rv_int, rv_bool, rv_str, rv_agg, rv_tup]) (fun _ h => h)
  · cases hc
open A in
def sgX : Con := fun _ => some (false, .undef)
open A in
theorem sgX_ok (g : FuncId) : COk Tryz.prog g sgX := by
  intro args p v hc hp
  simp only [sgX, Option.some.injEq, Prod.mk.injEq] at hc
  rw [← hc.1] at hp; cases hp
open A in
def sgEnd (k : Nat) (x y z t q : Int) (K : AV → Prop) : Prop := sgQ3 (stamp_Add.f k z t 0 q 0 0) fun a b e => brc (e != 0) (sgK5 K 0 0 0 0 e) (sgQ5 (stamp_Sub.f k x y a b) fun i _ c d e => sgK5 K i q c d e)
open A in
def sgRnd (k : Nat) (x y z t q : Int) (K : AV → Prop) (R : Prop) : Prop := sgQ3 (stamp_Add.f k z t 0 (IntKind.wrap .i64 (q + 1)) 0 0) fun a b e => brc (e != 0) (sgEnd k x y z t q K) (sgQ1 (day_CmpStamp.f k a b x y) fun c => brc (decide (c > 0)) (sgEnd k x y z t q K) R)
open A in
def sgAge (k : Nat) (x y z t : Int) (K : AV → Prop) (R : Prop) : Prop := sgQb (day_RightStamp.f k x y) fun m0 => brc (!m0) (sgQ5 (stamp_Sub.f k x y z t) (sgK5 K)) (sgQb (day_RightStamp.f k z t) fun m1 => brc (!m1) (sgQ5 (stamp_Sub.f k x y z t) (sgK5 K)) (brc (x != 0) (sgQ5 (stamp_Sub.f k x y z t) (sgK5 K)) (brc (z != 0) (sgQ5 (stamp_Sub.f k x y z t) (sgK5 K)) (sgQ1 (day_CmpStamp.f k x y z t) fun m2 => brc (decide (m2 < 0)) R (sgQ1 (stamp_months.f k x y z t) fun m3 => sgRnd k x y z t m3 K (sgRnd k x y z t (IntKind.wrap .i64 (m3 + 1)) K False))))))
def stamp_AgeEnd (k : Nat) (x y z t q : Int) : Option (Int × Int × Int × Int × Int) := (stamp_Add.f k z t 0 q 0 0).bind fun a => if a.2.2 = 0 then ((stamp_Sub.f k x y a.1 a.2.1).bind fun s => some (s.1, q, s.2.2.1, s.2.2.2.1, s.2.2.2.2)) else some (0, 0, 0, 0, a.2.2)
def stamp_AgeRnd (k : Nat) (x y z t q : Int) (R : Option (Int × Int × Int × Int × Int)) : Option (Int × Int × Int × Int × Int) := (stamp_Add.f k z t 0 (wrap64 (q + 1)) 0 0).bind fun a => if a.2.2 = 0 then ((day_CmpStamp.f k a.1 a.2.1 x y).bind fun c => if c > 0 then stamp_AgeEnd k x y z t q else R) else stamp_AgeEnd k x y z t q
def stamp_AgeG (k : Nat) (x y z t : Int) (R : Option (Int × Int × Int × Int × Int)) : Option (Int × Int × Int × Int × Int) :=
  (day_RightStamp.f k x y).bind fun a => if a = true then ((day_RightStamp.f k z t).bind fun b => if b = true then (if x = 0 then (if z = 0 then ((day_CmpStamp.f k x y z t).bind fun c => if c < 0 then R else (stamp_months.f k x y z t).bind fun m => stamp_AgeRnd k x y z t m (stamp_AgeRnd k x y z t (wrap64 (m + 1)) none)) else stamp_Sub.f k x y z t) else stamp_Sub.f k x y z t) else stamp_Sub.f k x y z t) else stamp_Sub.f k x y z t
def stamp_AgeUp.f (k : Nat) (x y z t : Int) : Option (Int × Int × Int × Int × Int) := stamp_AgeG k x y z t none
def stamp_Age.f (k : Nat) (a0_0 : Int) (a0_1 : Int) (a1_0 : Int) (a1_1 : Int) : Option (Int × Int × Int × Int × Int) := stamp_AgeG k a0_0 a0_1 a1_0 a1_1 ((stamp_AgeUp.f k a1_0 a1_1 a0_0 a0_1).bind fun s => if s.2.2.2.2 = 0 then span_Neg.f s.1 s.2.1 s.2.2.1 s.2.2.2.1 else some (0, 0, 0, 0, s.2.2.2.2))
theorem sgEnd_ok {k : Nat} {x y z t q r1 r2 r3 r4 r5 : Int} (h : stamp_AgeEnd k x y z t q = some (r1, r2, r3, r4, r5)) : sgEnd k x y z t q (fun v => v = .tup [.agg [.int .i64 r1, .int .i64 r2, .int .i64 r3, .int .i64 r4], .int .i64 r5]) := by
  simp only [stamp_AgeEnd, Option.bind_eq_some_iff] at h
  obtain ⟨⟨a1, a2, a3⟩, ha, h⟩ := h
  refine sgQ3_ok ha ?_
  simp only at h
  by_cases h3 : a3 = 0
  · rw [if_pos h3] at h
    simp only [Option.bind_eq_some_iff] at h
    obtain ⟨⟨s1, s2, s3, s4, s5⟩, hs, h⟩ := h
    refine sgNo (by simp [h3]) (sgQ5_ok hs ?_)
    (simp only [Option.some.injEq, Prod.mk.injEq] at h; obtain ⟨rfl, rfl, rfl, rfl, rfl⟩ := h; rfl)
  · rw [if_neg h3] at h
    refine sgY (by simp [h3]) ?_
    (simp only [Option.some.injEq, Prod.mk.injEq] at h; obtain ⟨rfl, rfl, rfl, rfl, rfl⟩ := h; rfl)
theorem sgRnd_ok {k : Nat} {x y z t q r1 r2 r3 r4 r5 : Int} {R : Option (Int × Int × Int × Int × Int)} {S : Prop} (h : stamp_AgeRnd k x y z t q R = some (r1, r2, r3, r4, r5)) (hR : R = some (r1, r2, r3, r4, r5) → S) : sgRnd k x y z t q (fun v => v = .tup [.agg [.int .i64 r1, .int .i64 r2, .int .i64 r3, .int .i64 r4], .int .i64 r5]) S := by
  simp only [stamp_AgeRnd, Option.bind_eq_some_iff] at h
  obtain ⟨⟨a1, a2, a3⟩, ha, h⟩ := h
  rw [← A.wrap_i64] at ha
  refine sgQ3_ok ha ?_
  simp only at h
  by_cases h3 : a3 = 0
  · rw [if_pos h3] at h
    simp only [Option.bind_eq_some_iff] at h
    obtain ⟨c, hc, h⟩ := h
    refine sgNo (by simp [h3]) (sgQ1_ok hc ?_)
    by_cases h4 : c > 0
    · rw [if_pos h4] at h
      exact sgY (by simpa using h4) (sgEnd_ok h)
    · rw [if_neg h4] at h
      exact sgNo (by simpa using h4) (hR h)
  · rw [if_neg h3] at h
    exact sgY (by simp [h3]) (sgEnd_ok h)
theorem sgAge_ok {k : Nat} {x y z t r1 r2 r3 r4 r5 : Int} {R : Option (Int × Int × Int × Int × Int)} {S : Prop} (h : stamp_AgeG k x y z t R = some (r1, r2, r3, r4, r5)) (hR : R = some (r1, r2, r3, r4, r5) → S) : sgAge k x y z t (fun v => v = .tup [.agg [.int .i64 r1, .int .i64 r2, .int .i64 r3, .int .i64 r4], .int .i64 r5]) S := by
  simp only [stamp_AgeG, Option.bind_eq_some_iff] at h
  obtain ⟨a, ha, h⟩ := h
  refine sgQb_ok ha ?_
  cases a
  · rw [if_neg (by decide)] at h
    exact sgY rfl (sgQ5_ok h rfl)
  rw [if_pos rfl] at h
  refine sgNo rfl ?_
  simp only [Option.bind_eq_some_iff] at h
  obtain ⟨b, hb, h⟩ := h
  refine sgQb_ok hb ?_
  cases b
  · rw [if_neg (by decide)] at h
    exact sgY rfl (sgQ5_ok h rfl)
  rw [if_pos rfl] at h
  refine sgNo rfl ?_
  by_cases hx : x = 0
  case neg =>
    rw [if_neg hx] at h
    exact sgY (by simp [hx]) (sgQ5_ok h rfl)
  rw [if_pos hx] at h
  refine sgNo (by simp [hx]) ?_
  by_cases hz : z = 0
  case neg =>
    rw [if_neg hz] at h
    exact sgY (by simp [hz]) (sgQ5_ok h rfl)
  rw [if_pos hz] at h
  refine sgNo (by simp [hz]) ?_
  simp only [Option.bind_eq_some_iff] at h
  obtain ⟨c, hc, h⟩ := h
  refine sgQ1_ok hc ?_
  by_cases h0 : c < 0
  · rw [if_pos h0] at h
    exact sgY (by simpa using h0) (hR h)
  rw [if_neg h0] at h
  refine sgNo (by simpa using h0) ?_
  simp only [Option.bind_eq_some_iff] at h
  obtain ⟨m, hm, h⟩ := h
  refine sgQ1_ok hm (sgRnd_ok h fun h => ?_)
  rw [A.wrap_i64]
  exact sgRnd_ok h fun h => by cases h
open A in
theorem stamp_AgeUp_vc (k : Nat) (x y z t : Int) (K : AV → Prop) : afv PA Tryz.prog (tab [(51, sgR k), (55, sgC k), (56, sgG), (17, sgA k), (21, sgS k), (57, sgM k), (23, sgX)]) noLoops 2 23 [.agg [.int .i64 x, .int .i64 y], .agg [.int .i64 z, .int .i64 t]] K = (sgAge k x y z t K False) := by kernel_rfl
set_option linter.unusedSimpArgs false in
open A in
theorem stamp_AgeUp.calls (k : Nat) (x : Int) (y : Int) (z : Int) (t : Int) (r1 : Int) (r2 : Int) (r3 : Int) (r4 : Int) (r5 : Int) (w : World) (h : stamp_AgeUp.f k x y z t = some (r1, r2, r3, r4, r5)) :
    Calls Tryz.prog 23 #[.agg #[.int .i64 x, .int .i64 y], .agg #[.int .i64 z, .int .i64 t]] w fun e w' => e = .returned (.tuple #[.agg #[.int .i64 r1, .int .i64 r2, .int .i64 r3, .int .i64 r4], .int .i64 r5]) ∧ Below w.heap.size w w' := by
  have hT : TabOk Tryz.prog (tab [(51, sgR k), (55, sgC k), (56, sgG), (17, sgA k), (21, sgS k), (57, sgM k), (23, sgX)]) := tab_cons (sgR_ok k) (tab_cons (sgC_ok k) (tab_cons (sgG_ok) (tab_cons (sgA_ok k) (tab_cons (sgS_ok k) (tab_cons (sgM_ok k) (tab_cons (sgX_ok _) (tab_nil)))))))
  have hA : RL noNames w [.agg [.int .i64 x, .int .i64 y], .agg [.int .i64 z, .int .i64 t]] [.agg #[.int .i64 x, .int .i64 y], .agg #[.int .i64 z, .int .i64 t]] := by simp [rl_cons, rl_nil, rv_int, rv_agg]
  have hV : ∀ ρ V', RV ρ w (AV.tup [.agg [.int .i64 r1, .int .i64 r2, .int .i64 r3, .int .i64 r4], .int .i64 r5]) V' → V' = .tuple #[.agg #[.int .i64 r1, .int .i64 r2, .int .i64 r3, .int .i64 r4], .int .i64 r5] := fun ρ V' hV => by simpa [rl_cons, rl_nil, rv_int, rv_agg, rv_tup] using hV
  refine calls_of_vc hT (n := 2) (g := 23) ?_ hA hV
  rw [stamp_AgeUp_vc]
  exact sgAge_ok h fun h => by cases h
open A in
noncomputable def sgU (k : Nat) : Con
  | [.agg [.int .i64 x, .int .i64 y], .agg [.int .i64 z, .int .i64 t]] => some ((stamp_AgeUp.f k x y z t).isSome, .tup [.agg [.int .i64 (gd (stamp_AgeUp.f k x y z t)).1, .int .i64 (gd (stamp_AgeUp.f k x y z t)).2.1, .int .i64 (gd (stamp_AgeUp.f k x y z t)).2.2.1, .int .i64 (gd (stamp_AgeUp.f k x y z t)).2.2.2.1], .int .i64 (gd (stamp_AgeUp.f k x y z t)).2.2.2.2])
  | _ => none
set_option linter.unusedSimpArgs false in
open A in
theorem sgU_ok (k : Nat) : COk Tryz.prog 23 (sgU k) := by
  intro args p v hc hp w A hA
  unfold sgU at hc
  split at hc
  · rename_i x y z t
    simp only [Option.some.injEq, Prod.mk.injEq] at hc
    obtain ⟨rfl, rfl⟩ := hc
    rcases hf : stamp_AgeUp.f k x y z t with _ | ⟨r1, r2, r3, r4, r5⟩
    · rw [hf] at hp; cases hp
    obtain rfl : A = [.agg #[.int .i64 x, .int .i64 y], .agg #[.int .i64 z, .int .i64 t]] := by simpa [rl_cons, rl_nil, rv_int, rv_bool, rv_str, rv_agg, rv_fn] using hA
    exact gives_of_calls (fn := Tryz.f23) Tryz.func23 (by kernel_rfl) (by kernel_rfl) (stamp_AgeUp.calls _ _ _ _ _ _ _ _ _ _ w hf) (fun _ => by simp [gd_some, rl_cons, rl_nil, rv_int, rv_bool, rv_str, rv_agg, rv_tup]) (fun _ h => h)
  · cases hc
open A in
theorem stamp_Age_vc (k : Nat) (x y z t : Int) (K : AV → Prop) : afv PA Tryz.prog (tab [(51, sgR k), (55, sgC k), (56, sgG), (17, sgA k), (21, sgS k), (57, sgM k), (23, sgU k)]) noLoops 2 23 [.agg [.int .i64 x, .int .i64 y], .agg [.int .i64 z, .int .i64 t]] K = (sgAge k x y z t K (sgQ5 (stamp_AgeUp.f k z t x y) fun a b c d e => brc (e != 0) (sgK5 K 0 0 0 0 e) (sgQ5 (span_Neg.f a b c d) (sgK5 K)))) := by kernel_rfl
set_option linter.unusedSimpArgs false in
open A in
theorem stamp_Age.calls (k : Nat) (a0_0 : Int) (a0_1 : Int) (a1_0 : Int) (a1_1 : Int) (r1 : Int) (r2 : Int) (r3 : Int) (r4 : Int) (r5 : Int) (w : World) (h : stamp_Age.f k a0_0 a0_1 a1_0 a1_1 = some (r1, r2, r3, r4, r5)) :
    Calls Tryz.prog 23 #[.agg #[.int .i64 a0_0, .int .i64 a0_1], .agg #[.int .i64 a1_0, .int .i64 a1_1]] w fun e w' => e = .returned (.tuple #[.agg #[.int .i64 r1, .int .i64 r2, .int .i64 r3, .int .i64 r4], .int .i64 r5]) ∧ Below w.heap.size w w' := by
  have hT : TabOk Tryz.prog (tab [(51, sgR k), (55, sgC k), (56, sgG), (17, sgA k), (21, sgS k), (57, sgM k), (23, sgU k)]) := tab_cons (sgR_ok k) (tab_cons (sgC_ok k) (tab_cons (sgG_ok) (tab_cons (sgA_ok k) (tab_cons (sgS_ok k) (tab_cons (sgM_ok k) (tab_cons (sgU_ok k) (tab_nil)))))))
  have hA : RL noNames w [.agg [.int .i64 a0_0, .int .i64 a0_1], .agg [.int .i64 a1_0, .int .i64 a1_1]] [.agg #[.int .i64 a0_0, .int .i64 a0_1], .agg #[.int .i64 a1_0, .int .i64 a1_1]] := by simp [rl_cons, rl_nil, rv_int, rv_agg]
  have hV : ∀ ρ V', RV ρ w (AV.tup [.agg [.int .i64 r1, .int .i64 r2, .int .i64 r3, .int .i64 r4], .int .i64 r5]) V' → V' = .tuple #[.agg #[.int .i64 r1, .int .i64 r2, .int .i64 r3, .int .i64 r4], .int .i64 r5] := fun ρ V' hV => by simpa [rl_cons, rl_nil, rv_int, rv_agg, rv_tup] using hV
  refine calls_of_vc hT (n := 2) (g := 23) ?_ hA hV
  rw [stamp_Age_vc]
  refine sgAge_ok h fun h => ?_
  simp only [Option.bind_eq_some_iff] at h
  obtain ⟨⟨s1, s2, s3, s4, s5⟩, hs, h⟩ := h
  refine sgQ5_ok hs ?_
  simp only at h
  by_cases h5 : s5 = 0
  · rw [if_pos h5] at h
    exact sgNo (by simp [h5]) (sgQ5_ok h rfl)
  · rw [if_neg h5] at h
    refine sgY (by simp [h5]) ?_
    (simp only [Option.some.injEq, Prod.mk.injEq] at h; obtain ⟨rfl, rfl, rfl, rfl, rfl⟩ := h; rfl)
end Go.Proofs.YtimgphlfaninnaaGreat.P
namespace Go.Proofs.YtimgphlfaninnaaGreat.P
open Go.RowKit Go.Proofs.YtimgphlfaninnaaGreatW.PrintWords Go.Proofs.YtimgphlfaninnaaGreatW.PrintLast Go.Proofs.YtimgphlfaninnaaGreatW.PrintMore
open Go.Proofs.YtimgphlfaninnaaGreat.A
attribute [local go_sem] max2_int min2_int max_two min_two kM kL max_four min_four   -- for this text's walks alone
set_option linter.unusedVariables false
set_option linter.unusedSimpArgs false
def computusref02_Leap.f (a0 : Int) : Option (Bool) := (computusref02_mod.f a0 4).bind fun t318 => (if t318 = 0 then ((computusref02_mod.f a0 100).bind fun t319 => (if t319 = 0 then ((computusref02_mod.f a0 400).bind fun t320 => (some (t320 == 0))) else (some true))) else (some false))
end Go.Proofs.YtimgphlfaninnaaGreat.P
namespace Go.Proofs.YtimgphlfaninnaaGreat.P
open Go.RowKit Go.Proofs.YtimgphlfaninnaaGreatW.PrintWords Go.Proofs.YtimgphlfaninnaaGreatW.PrintLast Go.Proofs.YtimgphlfaninnaaGreatW.PrintMore
open Go.Proofs.YtimgphlfaninnaaGreat.A
attribute [local go_sem] max2_int min2_int max_two min_two kM kL max_four min_four   -- for this text's walks alone
set_option linter.unusedVariables false
set_option linter.unusedSimpArgs false
mutual
def computusref02_Len.j0 : Nat → Int → Int → Bool → Option (Int)
  | 0, _, _, _ => none
  | k + 1, x0, x5, x6 => if x6 = true then (some 31) else (if x5 = 4 then (computusref02_Len.j1 k x0 x5 (x5 == 4)) else (if x5 = 6 then (computusref02_Len.j1 k x0 x5 (x5 == 6)) else (if x5 = 9 then (computusref02_Len.j1 k x0 x5 (x5 == 9)) else (computusref02_Len.j1 k x0 x5 (x5 == 11)))))
def computusref02_Len.j1 : Nat → Int → Int → Bool → Option (Int)
  | 0, _, _, _ => none
  | k + 1, x0, x5, x14 => if x14 = true then (some 30) else (if x5 = 2 then ((computusref02_Leap.f x0).bind fun t321 => (if t321 = true then (some 29) else (some 28))) else (some 0))
end
def computusref02_Len.f (k : Nat) (a0 : Int) (a1 : Int) : Option (Int) := if a1 = 1 then (computusref02_Len.j0 k a0 a1 (a1 == 1)) else (if a1 = 3 then (computusref02_Len.j0 k a0 a1 (a1 == 3)) else (if a1 = 5 then (computusref02_Len.j0 k a0 a1 (a1 == 5)) else (if a1 = 7 then (computusref02_Len.j0 k a0 a1 (a1 == 7)) else (if a1 = 8 then (computusref02_Len.j0 k a0 a1 (a1 == 8)) else (if a1 = 10 then (computusref02_Len.j0 k a0 a1 (a1 == 10)) else (computusref02_Len.j0 k a0 a1 (a1 == 12)))))))
end Go.Proofs.YtimgphlfaninnaaGreat.P
namespace Go.Proofs.YtimgphlfaninnaaGreat.P
open Go.RowKit Go.Proofs.YtimgphlfaninnaaGreatW.PrintWords Go.Proofs.YtimgphlfaninnaaGreatW.PrintLast Go.Proofs.YtimgphlfaninnaaGreatW.PrintMore
open Go.Proofs.YtimgphlfaninnaaGreat.A
attribute [local go_sem] max2_int min2_int max_two min_two kM kL max_four min_four   -- for this text's walks alone
set_option linter.unusedVariables false
set_option linter.unusedSimpArgs false
def computusref02_div.f (a0 : Int) (a1 : Int) : Option (Int) := if a1 = 0 then (none) else (if (Int.tmod a0 a1) < 0 then (some (wrap64 ((wrap64 (Int.tdiv a0 a1)) - 1))) else (some (wrap64 (Int.tdiv a0 a1))))
def computusref02_start.l0 : Nat → Int → Int → Int → Option (Int)
  | 0, _, _, _ => none
  | k + 1, x0, x3, x4 => (computusref02_mod.f (wrap64 (x0 - 2000)) 400).bind fun t323 => (if x4 < t323 then ((computusref02_Leap.f (wrap64 (2000 + x4))).bind fun t324 => (if t324 = true then (computusref02_start.l0 k x0 (wrap64 ((wrap64 (x3 + 365)) + 1)) (wrap64 (x4 + 1))) else (computusref02_start.l0 k x0 (wrap64 (x3 + 365)) (wrap64 (x4 + 1))))) else (some x3))
def computusref02_start.f (k : Nat) (a0 : Int) : Option (Int) := (computusref02_div.f (wrap64 (a0 - 2000)) 400).bind fun t322 => (computusref02_start.l0 k a0 (wrap64 (t322 * 146097)) 0)
def computusref02_day.l0 : Nat → Int → Int → Int → Int → Option (Int)
  | 0, _, _, _, _ => none
  | k + 1, x0, x1, x7, x8 => if x8 < x1 then ((computusref02_Len.f k x0 x8).bind fun t326 => (computusref02_day.l0 k x0 x1 (wrap64 (x7 + t326)) (wrap64 (x8 + 1)))) else (some x7)
def computusref02_day.f (k : Nat) (a0 : Int) (a1 : Int) (a2 : Int) : Option (Int) := (computusref02_start.f k a0).bind fun t325 => (computusref02_day.l0 k a0 a1 (wrap64 ((wrap64 (t325 + a2)) - 1)) 1)
def computusref02_First.f (k : Nat)  : Option (Int) := (computusref02_day.f k (-4718) 1 1).bind fun t327 => (some t327)
def computusref02_Last.f (k : Nat)  : Option (Int) := (computusref02_day.f k 294282 12 31).bind fun t328 => (some t328)
end Go.Proofs.YtimgphlfaninnaaGreat.P
namespace Go.Proofs.YtimgphlfaninnaaGreat.P
open Go.RowKit Go.Proofs.YtimgphlfaninnaaGreatW.PrintWords Go.Proofs.YtimgphlfaninnaaGreatW.PrintLast Go.Proofs.YtimgphlfaninnaaGreatW.PrintMore
open Go.Proofs.YtimgphlfaninnaaGreat.A
attribute [local go_sem] max2_int min2_int max_two min_two kM kL max_four min_four   -- for this text's walks alone
set_option linter.unusedVariables false
set_option linter.unusedSimpArgs false
def computusref02_Right.f (k : Nat) (a0 : Int) (a1 : Int) (a2 : Int) : Option (Bool) := if a0 ≥ (-4718) then (if a0 ≤ 294282 then (if a1 ≥ 1 then (if a1 ≤ 12 then (if a2 ≥ 1 then ((computusref02_Len.f k a0 a1).bind fun t350 => (some (decide (a2 ≤ t350)))) else (some false)) else (some false)) else (some false)) else (some false)) else (some false)
def computusref02_Days.f (k : Nat) (a0 : Int) (a1 : Int) (a2 : Int) : Option (Int × Int) := (computusref02_Right.f k a0 a1 a2).bind fun t351 => (if t351 = true then ((computusref02_day.f k a0 a1 a2).bind fun t352 => (some (t352, 0))) else (some (0, 10)))
end Go.Proofs.YtimgphlfaninnaaGreat.P
namespace Go.Proofs.YtimgphlfaninnaaGreat.P
open Go.RowKit Go.Proofs.YtimgphlfaninnaaGreatW.PrintWords Go.Proofs.YtimgphlfaninnaaGreatW.PrintLast Go.Proofs.YtimgphlfaninnaaGreatW.PrintMore
open Go.Proofs.YtimgphlfaninnaaGreat.A
attribute [local go_sem] max2_int min2_int max_two min_two kM kL max_four min_four   -- for this text's walks alone
set_option linter.unusedVariables false
set_option linter.unusedSimpArgs false
def computusref02_Can.f (k : Nat) (a0 : Int) : Option (Bool) := (computusref02_First.f k).bind fun t329 => (if a0 ≥ t329 then ((computusref02_Last.f k).bind fun t330 => (some (decide (a0 ≤ t330)))) else (some false))
end Go.Proofs.YtimgphlfaninnaaGreat.P
namespace Go.Proofs.YtimgphlfaninnaaGreat.P
open Go.RowKit Go.Proofs.YtimgphlfaninnaaGreatW.PrintWords Go.Proofs.YtimgphlfaninnaaGreatW.PrintLast Go.Proofs.YtimgphlfaninnaaGreatW.PrintMore
open Go.Proofs.YtimgphlfaninnaaGreat.A
attribute [local go_sem] max2_int min2_int max_two min_two kM kL max_four min_four   -- for this text's walks alone
set_option linter.unusedVariables false
set_option linter.unusedSimpArgs false
mutual
def computusref02_Date.j1 : Nat → Int → Int → Option (Int × Int × Int × Int)
  | 0, _, _ => none
  | k + 1, x6, x7 => computusref02_Date.l1 k x6 x7 1
def computusref02_Date.l1 : Nat → Int → Int → Int → Option (Int × Int × Int × Int)
  | 0, _, _, _ => none
  | k + 1, x6, x7, x9 => (computusref02_Len.f k x6 x9).bind fun t335 => (if x7 ≥ t335 then ((computusref02_Len.f k x6 x9).bind fun t336 => (computusref02_Date.l1 k x6 (wrap64 (x7 - t336)) (wrap64 (x9 + 1)))) else (some (x6, x9, wrap64 (x7 + 1), 0)))
def computusref02_Date.l0 : Nat → Int → Int → Option (Int × Int × Int × Int)
  | 0, _, _ => none
  | k + 1, x6, x7 => (computusref02_Leap.f x6).bind fun t334 => (if t334 = true then (if x7 < 366 then (computusref02_Date.j1 k x6 x7) else (computusref02_Date.l0 k (wrap64 (x6 + 1)) (wrap64 (x7 - 366)))) else (if x7 < 365 then (computusref02_Date.j1 k x6 x7) else (computusref02_Date.l0 k (wrap64 (x6 + 1)) (wrap64 (x7 - 365)))))
end
def computusref02_Date.f (k : Nat) (a0 : Int) : Option (Int × Int × Int × Int) := (computusref02_Can.f k a0).bind fun t331 => (if t331 = true then ((computusref02_div.f a0 146097).bind fun t332 => ((computusref02_mod.f a0 146097).bind fun t333 => (computusref02_Date.l0 k (wrap64 (2000 + (wrap64 (t332 * 400)))) t333))) else (some (0, 0, 0, 10)))
end Go.Proofs.YtimgphlfaninnaaGreat.P
namespace Go.Proofs.YtimgphlfaninnaaGreat.P
open Go.RowKit Go.Proofs.YtimgphlfaninnaaGreatW.PrintWords Go.Proofs.YtimgphlfaninnaaGreatW.PrintLast Go.Proofs.YtimgphlfaninnaaGreatW.PrintMore
open Go.Proofs.YtimgphlfaninnaaGreat.A
attribute [local go_sem] max2_int min2_int max_two min_two kM kL max_four min_four   -- for this text's walks alone
set_option linter.unusedVariables false
set_option linter.unusedSimpArgs false
def computusref15_inside.f (k : Nat) (a0 : Int) : Option (Bool) := (computusref02_Date.f k a0).bind fun bt576 => (if bt576.2.2.2 = 0 then (if bt576.1 ≥ (-4712) then (some (decide (bt576.1 ≤ 294276))) else (some false)) else (some false))
end Go.Proofs.YtimgphlfaninnaaGreat.P
namespace Go.Proofs.YtimgphlfaninnaaGreat.P
open Go.RowKit Go.Proofs.YtimgphlfaninnaaGreatW.PrintWords Go.Proofs.YtimgphlfaninnaaGreatW.PrintLast Go.Proofs.YtimgphlfaninnaaGreatW.PrintMore
open Go.Proofs.YtimgphlfaninnaaGreat.A
attribute [local go_sem] max2_int min2_int max_two min_two kM kL max_four min_four   -- for this text's walks alone
set_option linter.unusedVariables false
set_option linter.unusedSimpArgs false
def computusref15_Right.f (k : Nat) (a0_0 : Int) (a0_1 : Int) : Option (Bool) := if a0_0 = 0 then ((computusref15_inside.f k a0_1).bind fun t792 => (some t792)) else (if a0_0 = (-1) then (some (a0_1 == 0)) else (if a0_0 = 1 then (some (a0_1 == 0)) else (some false)))
end Go.Proofs.YtimgphlfaninnaaGreat.P
namespace Go.Proofs.YtimgphlfaninnaaGreat.P
open Go.RowKit Go.Proofs.YtimgphlfaninnaaGreatW.PrintWords Go.Proofs.YtimgphlfaninnaaGreatW.PrintLast Go.Proofs.YtimgphlfaninnaaGreatW.PrintMore
open Go.Proofs.YtimgphlfaninnaaGreat.A
attribute [local go_sem] max2_int min2_int max_two min_two kM kL max_four min_four   -- for this text's walks alone
set_option linter.unusedVariables false
set_option linter.unusedSimpArgs false
def computuslaw17_known.f : Option (Bool) := some true
theorem computuslaw17_known.calls (r : Bool) (w : World) (h : computuslaw17_known.f = some r) (hR : r = true) :
    Calls Tryz.prog 16 #[] w fun e w' => e = .returned (.bool r) ∧ Below w.heap.size w w' := by
  cases h
  exact A.known_calls w
-- NOT PRINTED: function 3 (computuslaw17_StampLocals)
end Go.Proofs.YtimgphlfaninnaaGreat.P

-- Written by a program of the session (a print of the seat's translation, functions given by hand among it). Lean checks it.
import Derived.Test.YtkongoedgngfhaaQcgoepkfcmc
import Derived.Test.YtkongoedgngfhaaQbleadbjhka
import Derived.Test.YtkongoedgngfhaaQmjhfjmgimf
import Derived.Test.YtkongoedgngfhaaQfhjennnnmb
namespace Go.Proofs.Ytkongoedgngfhaa.P
open Go.RowKit Go.Proofs.YtkongoedgngfhaaW.PrintWords Go.Proofs.YtkongoedgngfhaaW.PrintLast Go.Proofs.YtkongoedgngfhaaW.PrintMore
open Go.Proofs.Ytkongoedgngfhaa.A
attribute [local go_sem] max2_int min2_int max_two min_two max_three min_three max_four min_four   -- for this text's walks alone
set_option linter.unusedVariables false
set_option linter.unusedSimpArgs false
def computusref04_Add.f (k : Nat) (a0_0 : Int) (a0_1 : Int) (a1_0 : Int) (a1_1 : Int) : Option (Int × Int × Int) := (computusref04_sum.f k a0_0 a0_1 a1_0 a1_1 false).bind fun bt652 => (some (bt652.1, bt652.2.1, bt652.2.2))
set_option maxRecDepth 100000 in
theorem computusref04_Add.vc (k : Nat) (a0_0 : Int) (a0_1 : Int) (a1_0 : Int) (a1_1 : Int) (K : AV → Prop) : afv PA Try.prog (tab [(51, computusref04_sum.con k)]) noLoops 2 27 [.agg [.int .i64 a0_0, .int .i64 a0_1], .agg [.int .i64 a1_0, .int .i64 a1_1]] K = (brc (Option.isSome (computusref04_sum.f k a0_0 a0_1 a1_0 a1_1 false)) (∀ (m0 : Int), m0 = Prod.fst (gd (computusref04_sum.f k a0_0 a0_1 a1_0 a1_1 false)) → ∀ (m1 : Int), m1 = Prod.fst (Prod.snd (gd (computusref04_sum.f k a0_0 a0_1 a1_0 a1_1 false))) → ∀ (m2 : Int), m2 = Prod.snd (Prod.snd (gd (computusref04_sum.f k a0_0 a0_1 a1_0 a1_1 false))) → K (AV.tup [AV.agg [AV.int IntKind.i64 m0, AV.int IntKind.i64 m1], AV.int IntKind.i64 m2])) False) := by kernel_rfl
set_option maxHeartbeats 1000000 in
set_option maxRecDepth 100000 in
theorem computusref04_Add.calls (k : Nat) (a0_0 : Int) (a0_1 : Int) (a1_0 : Int) (a1_1 : Int) (r1 : Int) (r2 : Int) (r3 : Int) (w : World) (h : computusref04_Add.f k a0_0 a0_1 a1_0 a1_1 = some (r1, r2, r3)) :
    Calls Try.prog 27 #[.agg #[.int .i64 a0_0, .int .i64 a0_1], .agg #[.int .i64 a1_0, .int .i64 a1_1]] w fun e w' => e = .returned (.tuple #[.agg #[.int .i64 r1, .int .i64 r2], .int .i64 r3]) ∧ Below w.heap.size w w' := by
  refine calls_of_vc (A := [.agg #[.int .i64 a0_0, .int .i64 a0_1], .agg #[.int .i64 a1_0, .int .i64 a1_1]]) (v := .tup [.agg [.int .i64 r1, .int .i64 r2], .int .i64 r3]) (tab_cons (computusref04_sum.cok k) (tab_nil)) ((computusref04_Add.vc k a0_0 a0_1 a1_0 a1_1 _).mpr ?_) (by simp [rl_cons, rl_nil, rv_int, rv_bool, rv_str, rv_agg, rv_fn]) (fun ρ V' hV => by simpa [rl_cons, rl_nil, rv_int, rv_bool, rv_str, rv_agg, rv_tup] using hV)
  unfold computusref04_Add.f at h
  (try simp only [bne, Option.bind_eq_some_iff, ite_some_iff] at h)
  (try simp only [bne, brc_iff, wrap_i64])
  first
    | grind (splits := 60) [gd_some]
    | ((repeat' (first | (have or_ : Or _ _ := h; clear or_; rcases h with h | h) | (have or_ : Exists _ := h; clear or_; obtain ⟨_, h⟩ := h) | (have or_ : And _ _ := h; clear or_; obtain ⟨hq_, h⟩ := h))) <;> (try simp only [Option.some.injEq, Prod.mk.injEq, reduceCtorEq] at h) <;> (try subst_vars) <;> first | (simp_all [gd_some] <;> (try omega) <;> done) | grind (splits := 60) [gd_some])
    | (intros; subst_vars; simp_all [gd_some]; done)
noncomputable def computusref04_Add.con (k : Nat) : Con
  | [.agg [.int .i64 a0_0, .int .i64 a0_1], .agg [.int .i64 a1_0, .int .i64 a1_1]] => some ((computusref04_Add.f k a0_0 a0_1 a1_0 a1_1).isSome, .tup [.agg [.int .i64 (gd (computusref04_Add.f k a0_0 a0_1 a1_0 a1_1)).1, .int .i64 (gd (computusref04_Add.f k a0_0 a0_1 a1_0 a1_1)).2.1], .int .i64 (gd (computusref04_Add.f k a0_0 a0_1 a1_0 a1_1)).2.2])
  | _ => none
set_option maxRecDepth 100000 in
theorem computusref04_Add.cok (k : Nat) : COk Try.prog 27 (computusref04_Add.con k) := by
  intro args p v hc hp w A hA
  unfold computusref04_Add.con at hc
  split at hc
  · rename_i a0_0 a0_1 a1_0 a1_1
    simp only [Option.some.injEq, Prod.mk.injEq] at hc
    obtain ⟨rfl, rfl⟩ := hc
    rcases hf : computusref04_Add.f k a0_0 a0_1 a1_0 a1_1 with _ | ⟨r1, r2, r3⟩
    · rw [hf] at hp; cases hp
    obtain rfl : A = [.agg #[.int .i64 a0_0, .int .i64 a0_1], .agg #[.int .i64 a1_0, .int .i64 a1_1]] := by simpa [rl_cons, rl_nil, rv_int, rv_bool, rv_str, rv_agg, rv_fn] using hA
    exact gives_of_calls (fn := Try.f27) Try.func27 (by kernel_rfl) (by kernel_rfl) (computusref04_Add.calls _ _ _ _ _ _ _ _ w hf) (fun _ => by simp [gd_some, rl_cons, rl_nil, rv_int, rv_bool, rv_str, rv_agg, rv_tup]) (fun _ h => h)
  · cases hc
def computusref04_Sub.f (k : Nat) (a0_0 : Int) (a0_1 : Int) (a1_0 : Int) (a1_1 : Int) : Option (Int × Int × Int) := (computusref04_sum.f k a0_0 a0_1 a1_0 a1_1 true).bind fun bt658 => (some (bt658.1, bt658.2.1, bt658.2.2))
set_option maxRecDepth 100000 in
theorem computusref04_Sub.vc (k : Nat) (a0_0 : Int) (a0_1 : Int) (a1_0 : Int) (a1_1 : Int) (K : AV → Prop) : afv PA Try.prog (tab [(51, computusref04_sum.con k)]) noLoops 2 28 [.agg [.int .i64 a0_0, .int .i64 a0_1], .agg [.int .i64 a1_0, .int .i64 a1_1]] K = (brc (Option.isSome (computusref04_sum.f k a0_0 a0_1 a1_0 a1_1 true)) (∀ (m0 : Int), m0 = Prod.fst (gd (computusref04_sum.f k a0_0 a0_1 a1_0 a1_1 true)) → ∀ (m1 : Int), m1 = Prod.fst (Prod.snd (gd (computusref04_sum.f k a0_0 a0_1 a1_0 a1_1 true))) → ∀ (m2 : Int), m2 = Prod.snd (Prod.snd (gd (computusref04_sum.f k a0_0 a0_1 a1_0 a1_1 true))) → K (AV.tup [AV.agg [AV.int IntKind.i64 m0, AV.int IntKind.i64 m1], AV.int IntKind.i64 m2])) False) := by kernel_rfl
set_option maxHeartbeats 1000000 in
set_option maxRecDepth 100000 in
theorem computusref04_Sub.calls (k : Nat) (a0_0 : Int) (a0_1 : Int) (a1_0 : Int) (a1_1 : Int) (r1 : Int) (r2 : Int) (r3 : Int) (w : World) (h : computusref04_Sub.f k a0_0 a0_1 a1_0 a1_1 = some (r1, r2, r3)) :
    Calls Try.prog 28 #[.agg #[.int .i64 a0_0, .int .i64 a0_1], .agg #[.int .i64 a1_0, .int .i64 a1_1]] w fun e w' => e = .returned (.tuple #[.agg #[.int .i64 r1, .int .i64 r2], .int .i64 r3]) ∧ Below w.heap.size w w' := by
  refine calls_of_vc (A := [.agg #[.int .i64 a0_0, .int .i64 a0_1], .agg #[.int .i64 a1_0, .int .i64 a1_1]]) (v := .tup [.agg [.int .i64 r1, .int .i64 r2], .int .i64 r3]) (tab_cons (computusref04_sum.cok k) (tab_nil)) ((computusref04_Sub.vc k a0_0 a0_1 a1_0 a1_1 _).mpr ?_) (by simp [rl_cons, rl_nil, rv_int, rv_bool, rv_str, rv_agg, rv_fn]) (fun ρ V' hV => by simpa [rl_cons, rl_nil, rv_int, rv_bool, rv_str, rv_agg, rv_tup] using hV)
  unfold computusref04_Sub.f at h
  (try simp only [bne, Option.bind_eq_some_iff, ite_some_iff] at h)
  (try simp only [bne, brc_iff, wrap_i64])
  first
    | grind (splits := 60) [gd_some]
    | ((repeat' (first | (have or_ : Or _ _ := h; clear or_; rcases h with h | h) | (have or_ : Exists _ := h; clear or_; obtain ⟨_, h⟩ := h) | (have or_ : And _ _ := h; clear or_; obtain ⟨hq_, h⟩ := h))) <;> (try simp only [Option.some.injEq, Prod.mk.injEq, reduceCtorEq] at h) <;> (try subst_vars) <;> first | (simp_all [gd_some] <;> (try omega) <;> done) | grind (splits := 60) [gd_some])
    | (intros; subst_vars; simp_all [gd_some]; done)
noncomputable def computusref04_Sub.con (k : Nat) : Con
  | [.agg [.int .i64 a0_0, .int .i64 a0_1], .agg [.int .i64 a1_0, .int .i64 a1_1]] => some ((computusref04_Sub.f k a0_0 a0_1 a1_0 a1_1).isSome, .tup [.agg [.int .i64 (gd (computusref04_Sub.f k a0_0 a0_1 a1_0 a1_1)).1, .int .i64 (gd (computusref04_Sub.f k a0_0 a0_1 a1_0 a1_1)).2.1], .int .i64 (gd (computusref04_Sub.f k a0_0 a0_1 a1_0 a1_1)).2.2])
  | _ => none
set_option maxRecDepth 100000 in
theorem computusref04_Sub.cok (k : Nat) : COk Try.prog 28 (computusref04_Sub.con k) := by
  intro args p v hc hp w A hA
  unfold computusref04_Sub.con at hc
  split at hc
  · rename_i a0_0 a0_1 a1_0 a1_1
    simp only [Option.some.injEq, Prod.mk.injEq] at hc
    obtain ⟨rfl, rfl⟩ := hc
    rcases hf : computusref04_Sub.f k a0_0 a0_1 a1_0 a1_1 with _ | ⟨r1, r2, r3⟩
    · rw [hf] at hp; cases hp
    obtain rfl : A = [.agg #[.int .i64 a0_0, .int .i64 a0_1], .agg #[.int .i64 a1_0, .int .i64 a1_1]] := by simpa [rl_cons, rl_nil, rv_int, rv_bool, rv_str, rv_agg, rv_fn] using hA
    exact gives_of_calls (fn := Try.f28) Try.func28 (by kernel_rfl) (by kernel_rfl) (computusref04_Sub.calls _ _ _ _ _ _ _ _ w hf) (fun _ => by simp [gd_some, rl_cons, rl_nil, rv_int, rv_bool, rv_str, rv_agg, rv_tup]) (fun _ h => h)
  · cases hc
def computusref01_Mul.f (k : Nat) (a0 : Int) (a1 : Int) : Option (Int × Int) := (computusref01_Of.f a0).bind fun bt661 => ((computusref01_Of.f a1).bind fun bt665 => ((computusref01_Times.f k bt661.1 bt661.2 bt665.1 bt665.2).bind fun bt669 => ((computusref01_Small.f k bt669.1 bt669.2).bind fun bt673 => (some (bt673.1, bt673.2)))))
theorem computusref01_Mul.mono : ∀ a0 a1 k, LeO (computusref01_Mul.f k a0 a1) (computusref01_Mul.f (k + 1) a0 a1) := by
  intro a0 a1 k
  unfold computusref01_Mul.f
  repeat' first
      | (with_reducible exact computusref01_Small.mono _ _ _)
      | (with_reducible exact computusref01_Times.mono _ _ _ _ _)
      | (with_reducible exact LeO.refl _)
      | (with_reducible exact LeO.none _)
      | (with_reducible refine LeO.ite ?_ ?_)
      | (with_reducible refine LeO.bind ?_ (fun _ => ?_))
      | exact computusref01_Small.mono _ _ _
      | exact computusref01_Times.mono _ _ _ _ _
      | exact LeO.none _
      | refine LeO.ite ?_ ?_
      | refine LeO.bind ?_ (fun _ => ?_)
set_option maxHeartbeats 8000000 in
set_option maxRecDepth 100000 in
theorem computusref01_Mul.calls (k : Nat) (a0 : Int) (a1 : Int) (r1 : Int) (r2 : Int) (w : World) (h : computusref01_Mul.f k a0 a1 = some (r1, r2)) :
    Calls Try.prog 52 #[.int .i64 a0, .int .i64 a1] w fun e w' => e = .returned (.tuple #[.int .i64 r1, .int .i64 r2]) ∧ Below w.heap.size w w' := by
  have HB := Aside0.mk (Below.refl w.heap.size w)
  have H : ((computusref01_Of.f a0).bind fun bt661 => ((computusref01_Of.f a1).bind fun bt665 => ((computusref01_Times.f k bt661.1 bt661.2 bt665.1 bt665.2).bind fun bt669 => ((computusref01_Small.f k bt669.1 bt669.2).bind fun bt673 => (some (bt673.1, bt673.2)))))) = some (r1, r2) := h
  clear h
  replace H := Option.bind_eq_some_iff.mp H
  obtain ⟨⟨t661, t662⟩, A30, H⟩ := H
  replace H : ((computusref01_Of.f a1).bind fun bt665 => ((computusref01_Times.f k t661 t662 bt665.1 bt665.2).bind fun bt669 => ((computusref01_Small.f k bt669.1 bt669.2).bind fun bt673 => (some (bt673.1, bt673.2))))) = some (r1, r2) := H
  have A3 := Aside0.mk A30
  clear A30
  replace H := Option.bind_eq_some_iff.mp H
  obtain ⟨⟨t665, t666⟩, A40, H⟩ := H
  replace H : ((computusref01_Times.f k t661 t662 t665 t666).bind fun bt669 => ((computusref01_Small.f k bt669.1 bt669.2).bind fun bt673 => (some (bt673.1, bt673.2)))) = some (r1, r2) := H
  have A4 := Aside0.mk A40
  clear A40
  replace H := Option.bind_eq_some_iff.mp H
  obtain ⟨⟨t669, t670⟩, A50, H⟩ := H
  replace H : ((computusref01_Small.f k t669 t670).bind fun bt673 => (some (bt673.1, bt673.2))) = some (r1, r2) := H
  have A5 := Aside0.mk A50
  clear A50
  replace H := Option.bind_eq_some_iff.mp H
  obtain ⟨⟨t673, t674⟩, A60, H⟩ := H
  replace H : (some (t673, t674)) = some (r1, r2) := H
  have A6 := Aside0.mk A60
  clear A60
  simp only [Option.some.injEq, Prod.mk.injEq] at H
  obtain ⟨rfl, rfl⟩ := H
  go_enter Try.func52, Try.ntmps52
  go_wp2_with (first | ((with_reducible refine gate_callee (f := 36) rfl ?_); refine goesL_ (some 7) rfl rfl Try.func36 (by kernel_rfl) rfl #[.int .i64 a0] rfl (by (try simp only [List.map_toArray, List.map_cons, List.map_nil]); first | done | rfl | (simp only [List.length_drop, List.length_take]; rfl)) ?_; (with_reducible refine (computusref01_Of.calls a0 t661 t662 _ A3.out).mono ?_); rintro e w7 ⟨v663, rfl, ho0, hb⟩; refine ⟨_, rfl, ?_⟩; have n0_ := Aside0.mk (Kd.R_lower ho0 (kK (by repeat (first | (with_reducible first | exact HB.out | apply kF | apply kB | apply kG) | exact HB.out)))); have n1_ := Aside0.mk (kL (by repeat (first | (with_reducible first | exact HB.out | apply kF | apply kB | apply kG) | exact HB.out)) hb); clear HB; have HO664 := n0_; have HB := n1_; clear n0_ n1_; (try clear hb); (try clear hb2); (try clear hk); (try clear hi); (try clear ho0)) | ((with_reducible refine gate_callee (f := 36) rfl ?_); refine goesL_ (some 9) rfl rfl Try.func36 (by kernel_rfl) rfl #[.int .i64 a1] rfl (by (try simp only [List.map_toArray, List.map_cons, List.map_nil]); first | done | rfl | (simp only [List.length_drop, List.length_take]; rfl)) ?_; (with_reducible refine (computusref01_Of.calls a1 t665 t666 _ A4.out).mono ?_); rintro e w8 ⟨v667, rfl, ho0, hb⟩; refine ⟨_, rfl, ?_⟩; have n0_ := Aside0.mk (Kd.R_elder' (by (with_reducible repeat (first | apply Kd.R_alloc | apply Kd.R_drewN | apply Kd.R_drew)); exact HO664.out) (Kd.R_base ho0) hb); have n1_ := Aside0.mk (Kd.R_lower (Kd.R_new' ho0 (Kd.R_lt (by (with_reducible repeat (first | apply Kd.R_alloc | apply Kd.R_drewN | apply Kd.R_drew)); exact HO664.out))) (kK (by repeat (first | (with_reducible first | exact HB.out | apply kF | apply kB | apply kG) | exact HB.out)))); have n2_ := Aside0.mk (kL (by repeat (first | (with_reducible first | exact HB.out | apply kF | apply kB | apply kG) | exact HB.out)) hb); clear HO664; clear HB; have HO664 := n0_; have HO668 := n1_; have HB := n2_; clear n0_ n1_ n2_; (try clear hb); (try clear hb2); (try clear hk); (try clear hi); (try clear ho0); obtain ⟨Ao9, co9, eo9⟩ := Kd.R_slice HO664.out; subst eo9; obtain ⟨Ao10, co10, eo10⟩ := Kd.R_slice HO668.out; subst eo10) | ((with_reducible refine gate_callee (f := 38) rfl ?_); refine goesL_ (some 10) rfl rfl Try.func38 (by kernel_rfl) rfl #[.agg #[.bool t661, .slice Ao9 t662.length co9], .agg #[.bool t665, .slice Ao10 t666.length co10]] rfl (by (try simp only [List.map_toArray, List.map_cons, List.map_nil]); first | done | rfl | (simp only [List.length_drop, List.length_take]; rfl)) ?_; (with_reducible refine (computusref01_Times.calls k t661 _ _ t662 t665 _ _ t666 t669 t670 _ ?side1 ?side2 ?side3 ?side4 A5.out).mono ?_); (case side1 => repeat (first | exact (Kd.R_reads' HO664.out).2.2 | (with_reducible refine Kd.C_alloc ?_ _) | (with_reducible refine Kd.C_drewN ?_ _) | (with_reducible refine Kd.C_drew ?_))); (case side2 => exact (Kd.R_reads' HO664.out).2.1); (case side3 => repeat (first | exact (Kd.R_reads' HO668.out).2.2 | (with_reducible refine Kd.C_alloc ?_ _) | (with_reducible refine Kd.C_drewN ?_ _) | (with_reducible refine Kd.C_drew ?_))); (case side4 => exact (Kd.R_reads' HO668.out).2.1); rintro e w11 ⟨v671, rfl, ho0, hb⟩; refine ⟨_, rfl, ?_⟩; have n0_ := Aside0.mk (Kd.R_elder' (by (with_reducible repeat (first | apply Kd.R_alloc | apply Kd.R_drewN | apply Kd.R_drew)); exact HO664.out) (Kd.R_base ho0) hb); have n1_ := Aside0.mk (Kd.R_elder' (by (with_reducible repeat (first | apply Kd.R_alloc | apply Kd.R_drewN | apply Kd.R_drew)); exact HO668.out) (Kd.R_base ho0) hb); have n2_ := Aside0.mk (Kd.R_lower (Kd.R_new' (Kd.R_new' ho0 (Kd.R_lt (by (with_reducible repeat (first | apply Kd.R_alloc | apply Kd.R_drewN | apply Kd.R_drew)); exact HO664.out))) (Kd.R_lt (by (with_reducible repeat (first | apply Kd.R_alloc | apply Kd.R_drewN | apply Kd.R_drew)); exact HO668.out))) (kK (by repeat (first | (with_reducible first | exact HB.out | apply kF | apply kB | apply kG) | exact HB.out)))); have n3_ := Aside0.mk (kL (by repeat (first | (with_reducible first | exact HB.out | apply kF | apply kB | apply kG) | exact HB.out)) hb); clear HO664; clear HO668; clear HB; have HO664 := n0_; have HO668 := n1_; have HO672 := n2_; have HB := n3_; clear n0_ n1_ n2_ n3_; (try clear hb); (try clear hb2); (try clear hk); (try clear hi); (try clear ho0); obtain ⟨Ao12, co12, eo12⟩ := Kd.R_slice HO672.out; subst eo12) | ((with_reducible refine gate_callee (f := 40) rfl ?_); refine goesL_ (some 11) rfl rfl Try.func40 (by kernel_rfl) rfl #[.agg #[.bool t669, .slice Ao12 t670.length co12]] rfl (by (try simp only [List.map_toArray, List.map_cons, List.map_nil]); first | done | rfl | (simp only [List.length_drop, List.length_take]; rfl)) ?_; (with_reducible refine (computusref01_Small.calls k t669 _ _ t670 t673 t674 _ ?side1 ?side2 A6.out).mono ?_); (case side1 => repeat (first | exact (Kd.R_reads' HO672.out).2.2 | (with_reducible refine Kd.C_alloc ?_ _) | (with_reducible refine Kd.C_drewN ?_ _) | (with_reducible refine Kd.C_drew ?_))); (case side2 => exact (Kd.R_reads' HO672.out).2.1); rintro e w13 ⟨rfl, hb⟩; refine ⟨_, rfl, ?_⟩; have n0_ := Aside0.mk (Kd.R_below (by (with_reducible repeat (first | apply Kd.R_alloc | apply Kd.R_drewN | apply Kd.R_drew)); exact HO664.out) hb); have n1_ := Aside0.mk (Kd.R_below (by (with_reducible repeat (first | apply Kd.R_alloc | apply Kd.R_drewN | apply Kd.R_drew)); exact HO668.out) hb); have n2_ := Aside0.mk (Kd.R_below (by (with_reducible repeat (first | apply Kd.R_alloc | apply Kd.R_drewN | apply Kd.R_drew)); exact HO672.out) hb); have n3_ := Aside0.mk (kL (by repeat (first | (with_reducible first | exact HB.out | apply kF | apply kB | apply kG) | exact HB.out)) hb); clear HO664; clear HO668; clear HO672; clear HB; have HO664 := n0_; have HO668 := n1_; have HO672 := n2_; have HB := n3_; clear n0_ n1_ n2_ n3_; (try clear hb); (try clear hb2); (try clear hk); (try clear hi)))
  go_ret2
  exact ⟨by first | rfl | (simp [errW_none, errW_some] <;> rfl) | (simp [*, errW_none, errW_some] <;> rfl), by repeat (first | (with_reducible first | exact HB.out | apply kF | apply kB | apply kG) | exact HB.out)⟩
noncomputable def computusref01_Mul.con (k : Nat) : Con
  | [.int .i64 a0, .int .i64 a1] => some ((computusref01_Mul.f k a0 a1).isSome, .tup [.int .i64 (gd (computusref01_Mul.f k a0 a1)).1, .int .i64 (gd (computusref01_Mul.f k a0 a1)).2])
  | _ => none
set_option maxRecDepth 100000 in
theorem computusref01_Mul.cok (k : Nat) : COk Try.prog 52 (computusref01_Mul.con k) := by
  intro args p v hc hp w A hA
  unfold computusref01_Mul.con at hc
  split at hc
  · rename_i a0 a1
    simp only [Option.some.injEq, Prod.mk.injEq] at hc
    obtain ⟨rfl, rfl⟩ := hc
    rcases hf : computusref01_Mul.f k a0 a1 with _ | ⟨r1, r2⟩
    · rw [hf] at hp; cases hp
    obtain rfl : A = [.int .i64 a0, .int .i64 a1] := by simpa [rl_cons, rl_nil, rv_int, rv_bool, rv_str, rv_agg, rv_fn] using hA
    exact gives_of_calls (fn := Try.f52) Try.func52 (by kernel_rfl) (by kernel_rfl) (computusref01_Mul.calls _ _ _ _ _ w hf) (fun _ => by simp [gd_some, rl_cons, rl_nil, rv_int, rv_bool, rv_str, rv_agg, rv_tup]) (fun _ h => h)
  · cases hc
theorem computusref01_Mul.up {k : Nat} {a0 : Int} {a1 : Int} {r : Int × Int} (h : computusref01_Mul.f k a0 a1 = some r) : computusref01_Mul.f (k + 1) a0 a1 = some r := computusref01_Mul.mono a0 a1 k _ h
theorem computusref01_Mul.le {a0 : Int} {a1 : Int} {r : Int × Int} {k n : Nat} (h : computusref01_Mul.f k a0 a1 = some r) (hk : k ≤ n) : computusref01_Mul.f n a0 a1 = some r := by
  induction hk with
  | refl => exact h
  | step _ ih => exact computusref01_Mul.up ih
end Go.Proofs.Ytkongoedgngfhaa.P
namespace Go.Proofs.Ytkongoedgngfhaa.P
open Go.RowKit Go.Proofs.YtkongoedgngfhaaW.PrintWords Go.Proofs.YtkongoedgngfhaaW.PrintLast Go.Proofs.YtkongoedgngfhaaW.PrintMore
open Go.Proofs.Ytkongoedgngfhaa.A
attribute [local go_sem] max2_int min2_int max_two min_two max_three min_three max_four min_four   -- for this text's walks alone
set_option linter.unusedVariables false
set_option linter.unusedSimpArgs false
def computusref04_Mul.j0 : Nat → Bool → Int → Int → Int → Int → Option (Int × Int × Int)
  | 0, _, _, _, _, _ => none
  | k + 1, x15, x676000, x676001, x677000, x677001 => if x15 = true then (some (0, 0, 1)) else ((computusref01_Mul.f k x676000 x677000).bind fun bt680 => (if bt680.2 = 0 then (if (wrap64 (x676001 + x677001)) > 9 then (some (0, 0, 10)) else (some (bt680.1, wrap64 (x676001 + x677001), 0))) else (some (0, 0, 10))))
def computusref04_Mul.f (k : Nat) (a0_0 : Int) (a0_1 : Int) (a1_0 : Int) (a1_1 : Int) : Option (Int × Int × Int) := (computusref04_Right.f a0_0 a0_1).bind fun t678 => (if t678 = true then ((computusref04_Right.f a1_0 a1_1).bind fun t679 => (computusref04_Mul.j0 k (!t679) a0_0 a0_1 a1_0 a1_1)) else (computusref04_Mul.j0 k true a0_0 a0_1 a1_0 a1_1))
set_option maxRecDepth 100000 in
theorem computusref04_Mul.vc (k : Nat) (a0_0 : Int) (a0_1 : Int) (a1_0 : Int) (a1_1 : Int) (K : AV → Prop) : afv PA Try.prog (tab [(15, computusref04_Right.con), (52, computusref01_Mul.con k)]) noLoops 2 29 [.agg [.int .i64 a0_0, .int .i64 a0_1], .agg [.int .i64 a1_0, .int .i64 a1_1]] K = (brc (Option.isSome (computusref04_Right.f a0_0 a0_1)) (∀ (m0 : Bool), m0 = gd (computusref04_Right.f a0_0 a0_1) → brc (!m0) (K (AV.tup [AV.agg [AV.int IntKind.i64 0, AV.int IntKind.i64 0], AV.int IntKind.i64 1])) (brc (Option.isSome (computusref04_Right.f a1_0 a1_1)) (∀ (m1 : Bool), m1 = gd (computusref04_Right.f a1_0 a1_1) → brc (!m1) (K (AV.tup [AV.agg [AV.int IntKind.i64 0, AV.int IntKind.i64 0], AV.int IntKind.i64 1])) (brc (Option.isSome (computusref01_Mul.f k a0_0 a1_0)) (∀ (m2 : Int), m2 = Prod.fst (gd (computusref01_Mul.f k a0_0 a1_0)) → ∀ (m3 : Int), m3 = Prod.snd (gd (computusref01_Mul.f k a0_0 a1_0)) → brc (m3 != 0) (K (AV.tup [AV.agg [AV.int IntKind.i64 0, AV.int IntKind.i64 0], AV.int IntKind.i64 10])) (brc (decide (IntKind.wrap IntKind.i64 (a0_1 + a1_1) > 9)) (K (AV.tup [AV.agg [AV.int IntKind.i64 0, AV.int IntKind.i64 0], AV.int IntKind.i64 10])) (K (AV.tup [AV.agg [AV.int IntKind.i64 m2, AV.int IntKind.i64 (IntKind.wrap IntKind.i64 (a0_1 + a1_1))], AV.int IntKind.i64 0])))) False)) False)) False) := by kernel_rfl
set_option maxHeartbeats 1000000 in
set_option maxRecDepth 100000 in
theorem computusref04_Mul.calls (k : Nat) (a0_0 : Int) (a0_1 : Int) (a1_0 : Int) (a1_1 : Int) (r1 : Int) (r2 : Int) (r3 : Int) (w : World) (h : computusref04_Mul.f k a0_0 a0_1 a1_0 a1_1 = some (r1, r2, r3)) :
    Calls Try.prog 29 #[.agg #[.int .i64 a0_0, .int .i64 a0_1], .agg #[.int .i64 a1_0, .int .i64 a1_1]] w fun e w' => e = .returned (.tuple #[.agg #[.int .i64 r1, .int .i64 r2], .int .i64 r3]) ∧ Below w.heap.size w w' := by
  refine calls_of_vc (A := [.agg #[.int .i64 a0_0, .int .i64 a0_1], .agg #[.int .i64 a1_0, .int .i64 a1_1]]) (v := .tup [.agg [.int .i64 r1, .int .i64 r2], .int .i64 r3]) (tab_cons (computusref04_Right.cok) (tab_cons (computusref01_Mul.cok k) (tab_nil))) ((computusref04_Mul.vc k a0_0 a0_1 a1_0 a1_1 _).mpr ?_) (by simp [rl_cons, rl_nil, rv_int, rv_bool, rv_str, rv_agg, rv_fn]) (fun ρ V' hV => by simpa [rl_cons, rl_nil, rv_int, rv_bool, rv_str, rv_agg, rv_tup] using hV)
  unfold computusref04_Mul.f at h
  cases k with
  | zero =>
    (try simp only [computusref04_Mul.j0] at h)
    (try simp only [bne, Option.bind_eq_some_iff, ite_some_iff] at h)
    (try simp only [bne, brc_iff, wrap_i64])
    first
      | grind (splits := 60) [gd_some]
      | ((repeat' (first | (have or_ : Or _ _ := h; clear or_; rcases h with h | h) | (have or_ : Exists _ := h; clear or_; obtain ⟨_, h⟩ := h) | (have or_ : And _ _ := h; clear or_; obtain ⟨hq_, h⟩ := h))) <;> (try simp only [Option.some.injEq, Prod.mk.injEq, reduceCtorEq] at h) <;> (try subst_vars) <;> first | (simp_all [gd_some] <;> (try omega) <;> rcases hb0 : decide (IntKind.wrap IntKind.i64 (a0_1 + a1_1) > 9) with _ | _ <;> simp_all [gd_some] <;> done) | grind (splits := 60) [gd_some])
      | (intros; subst_vars; simp_all [gd_some]; done)
  | succ k =>
    (try simp only [computusref04_Mul.j0] at h)
    (try simp only [bne, Option.bind_eq_some_iff, ite_some_iff] at h)
    (try simp only [bne, brc_iff, wrap_i64])
    first
      | grind (splits := 60) [gd_some, computusref01_Mul.up]
      | ((repeat' (first | (have or_ : Or _ _ := h; clear or_; rcases h with h | h) | (have or_ : Exists _ := h; clear or_; obtain ⟨_, h⟩ := h) | (have or_ : And _ _ := h; clear or_; obtain ⟨hq_, h⟩ := h; (try first | replace hq_ := computusref01_Mul.le (n := k + 1) hq_ (by omega))))) <;> (try simp only [Option.some.injEq, Prod.mk.injEq, reduceCtorEq] at h) <;> (try subst_vars) <;> first | (simp_all [gd_some] <;> (try omega) <;> rcases hb0 : decide (IntKind.wrap IntKind.i64 (a0_1 + a1_1) > 9) with _ | _ <;> simp_all [gd_some] <;> done) | grind (splits := 60) [gd_some, computusref01_Mul.up])
      | (intros; subst_vars; simp_all [gd_some]; done)
noncomputable def computusref04_Mul.con (k : Nat) : Con
  | [.agg [.int .i64 a0_0, .int .i64 a0_1], .agg [.int .i64 a1_0, .int .i64 a1_1]] => some ((computusref04_Mul.f k a0_0 a0_1 a1_0 a1_1).isSome, .tup [.agg [.int .i64 (gd (computusref04_Mul.f k a0_0 a0_1 a1_0 a1_1)).1, .int .i64 (gd (computusref04_Mul.f k a0_0 a0_1 a1_0 a1_1)).2.1], .int .i64 (gd (computusref04_Mul.f k a0_0 a0_1 a1_0 a1_1)).2.2])
  | _ => none
set_option maxRecDepth 100000 in
theorem computusref04_Mul.cok (k : Nat) : COk Try.prog 29 (computusref04_Mul.con k) := by
  intro args p v hc hp w A hA
  unfold computusref04_Mul.con at hc
  split at hc
  · rename_i a0_0 a0_1 a1_0 a1_1
    simp only [Option.some.injEq, Prod.mk.injEq] at hc
    obtain ⟨rfl, rfl⟩ := hc
    rcases hf : computusref04_Mul.f k a0_0 a0_1 a1_0 a1_1 with _ | ⟨r1, r2, r3⟩
    · rw [hf] at hp; cases hp
    obtain rfl : A = [.agg #[.int .i64 a0_0, .int .i64 a0_1], .agg #[.int .i64 a1_0, .int .i64 a1_1]] := by simpa [rl_cons, rl_nil, rv_int, rv_bool, rv_str, rv_agg, rv_fn] using hA
    exact gives_of_calls (fn := Try.f29) Try.func29 (by kernel_rfl) (by kernel_rfl) (computusref04_Mul.calls _ _ _ _ _ _ _ _ w hf) (fun _ => by simp [gd_some, rl_cons, rl_nil, rv_int, rv_bool, rv_str, rv_agg, rv_tup]) (fun _ h => h)
  · cases hc
end Go.Proofs.Ytkongoedgngfhaa.P

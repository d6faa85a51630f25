-- Written by a program of the session (a print of the seat's translation, functions given by hand among it). Lean checks it.
import Derived.Test.YtkongoedgngfhaaQfkleinmccf
import Derived.Test.YtkongoedgngfhaaQhijcfepdca
import Derived.Test.YtkongoedgngfhaaQcfpbadapkf
import Derived.Test.YtkongoedgngfhaaQeogcenpafo
import Derived.Test.YtkongoedgngfhaaQkemdehpojg
import Derived.Test.YtkongoedgngfhaaQpajpnliled
import Derived.Test.YtkongoedgngfhaaQllnkjlmgoa
namespace Go.Proofs.Ytkongoedgngfhaa.P
open Go.RowKit Go.Proofs.YtkongoedgngfhaaW.PrintWords Go.Proofs.YtkongoedgngfhaaW.PrintLast Go.Proofs.YtkongoedgngfhaaW.PrintMore
open Go.Proofs.Ytkongoedgngfhaa.A
attribute [local go_sem] max2_int min2_int max_two min_two max_three min_three max_four min_four   -- for this text's walks alone
set_option linter.unusedVariables false
set_option linter.unusedSimpArgs false
def computusref01_Div.f (k : Nat) (a0 : Int) (a1 : Int) : Option (Int × Int) := if a1 = 0 then (some (0, 11)) else ((computusref01_Of.f a0).bind fun bt457 => ((computusref01_Of.f a1).bind fun bt461 => ((computusref01_Over.f k bt457.1 bt457.2 bt461.1 bt461.2).bind fun bt465 => ((computusref01_Small.f k bt465.1 bt465.2).bind fun bt469 => (some (bt469.1, bt469.2))))))
set_option maxHeartbeats 8000000 in
set_option maxRecDepth 100000 in
theorem computusref01_Div.calls (k : Nat) (a0 : Int) (a1 : Int) (r1 : Int) (r2 : Int) (w : World) (h : computusref01_Div.f k a0 a1 = some (r1, r2)) :
    Calls Try.prog 49 #[.int .i64 a0, .int .i64 a1] w fun e w' => e = .returned (.tuple #[.int .i64 r1, .int .i64 r2]) ∧ Below w.heap.size w w' := by
  have HB := Aside0.mk (Below.refl w.heap.size w)
  have H : (if a1 = 0 then (some (0, 11)) else ((computusref01_Of.f a0).bind fun bt457 => ((computusref01_Of.f a1).bind fun bt461 => ((computusref01_Over.f k bt457.1 bt457.2 bt461.1 bt461.2).bind fun bt465 => ((computusref01_Small.f k bt465.1 bt465.2).bind fun bt469 => (some (bt469.1, bt469.2))))))) = some (r1, r2) := h
  clear h
  by_cases c3 : a1 = 0
  · rw [if_pos c3] at H
    have c3b0 : (a1 == 0) = true := beq_iff_eq.mpr c3
    have c3b1 : (a1 != 0) = false := bne_eq_false_iff_eq.mpr c3
    clear c3
    simp only [Option.some.injEq, Prod.mk.injEq] at H
    obtain ⟨rfl, rfl⟩ := H
    go_enter Try.func49, Try.ntmps49
    go_wp2
    go_ret2
    exact ⟨by first | rfl | (simp [errW_none, errW_some] <;> rfl) | (simp [*, errW_none, errW_some] <;> rfl), by repeat (first | (with_reducible first | exact HB.out | apply kC | apply kA | apply kD) | exact HB.out)⟩
  · rw [if_neg c3] at H
    have c3b0 : (a1 == 0) = false := beq_eq_false_iff_ne.mpr c3
    have c3b1 : (a1 != 0) = true := bne_iff_ne.mpr c3
    replace H := Option.bind_eq_some_iff.mp H
    obtain ⟨⟨t457, t458⟩, A40, H⟩ := H
    replace H : ((computusref01_Of.f a1).bind fun bt461 => ((computusref01_Over.f k t457 t458 bt461.1 bt461.2).bind fun bt465 => ((computusref01_Small.f k bt465.1 bt465.2).bind fun bt469 => (some (bt469.1, bt469.2))))) = some (r1, r2) := H
    have A4 := Aside0.mk A40
    clear A40
    replace H := Option.bind_eq_some_iff.mp H
    obtain ⟨⟨t461, t462⟩, A50, H⟩ := H
    replace H : ((computusref01_Over.f k t457 t458 t461 t462).bind fun bt465 => ((computusref01_Small.f k bt465.1 bt465.2).bind fun bt469 => (some (bt469.1, bt469.2)))) = some (r1, r2) := H
    have A5 := Aside0.mk A50
    clear A50
    replace H := Option.bind_eq_some_iff.mp H
    obtain ⟨⟨t465, t466⟩, A60, H⟩ := H
    replace H : ((computusref01_Small.f k t465 t466).bind fun bt469 => (some (bt469.1, bt469.2))) = some (r1, r2) := H
    have A6 := Aside0.mk A60
    clear A60
    replace H := Option.bind_eq_some_iff.mp H
    obtain ⟨⟨t469, t470⟩, A70, H⟩ := H
    replace H : (some (t469, t470)) = some (r1, r2) := H
    have A7 := Aside0.mk A70
    clear A70
    simp only [Option.some.injEq, Prod.mk.injEq] at H
    obtain ⟨rfl, rfl⟩ := H
    go_enter Try.func49, Try.ntmps49
    go_wp2_with (first | ((with_reducible refine gate_callee (f := 36) rfl ?_); refine goesL_ (some 9) rfl rfl Try.func36 (by kernel_rfl) rfl #[.int .i64 a0] rfl (by (try simp only [List.map_toArray, List.map_cons, List.map_nil]); first | done | rfl | (simp only [List.length_drop, List.length_take]; rfl)) ?_; (with_reducible refine (computusref01_Of.calls a0 t457 t458 _ A4.out).mono ?_); rintro e w8 ⟨v459, rfl, ho0, hb⟩; refine ⟨_, rfl, ?_⟩; have n0_ := Aside0.mk (Kd.R_lower ho0 (kK (by repeat (first | (with_reducible first | exact HB.out | apply kC | apply kA | apply kD) | exact HB.out)))); have n1_ := Aside0.mk (kL (by repeat (first | (with_reducible first | exact HB.out | apply kC | apply kA | apply kD) | exact HB.out)) hb); clear HB; have HO460 := n0_; have HB := n1_; clear n0_ n1_; (try clear hb); (try clear hb2); (try clear hk); (try clear hi); (try clear ho0)) | ((with_reducible refine gate_callee (f := 36) rfl ?_); refine goesL_ (some 11) rfl rfl Try.func36 (by kernel_rfl) rfl #[.int .i64 a1] rfl (by (try simp only [List.map_toArray, List.map_cons, List.map_nil]); first | done | rfl | (simp only [List.length_drop, List.length_take]; rfl)) ?_; (with_reducible refine (computusref01_Of.calls a1 t461 t462 _ A5.out).mono ?_); rintro e w9 ⟨v463, rfl, ho0, hb⟩; refine ⟨_, rfl, ?_⟩; have n0_ := Aside0.mk (Kd.R_elder' (by (with_reducible repeat (first | apply Kd.R_alloc | apply Kd.R_drewN | apply Kd.R_drew)); exact HO460.out) (Kd.R_base ho0) hb); have n1_ := Aside0.mk (Kd.R_lower (Kd.R_new' ho0 (Kd.R_lt (by (with_reducible repeat (first | apply Kd.R_alloc | apply Kd.R_drewN | apply Kd.R_drew)); exact HO460.out))) (kK (by repeat (first | (with_reducible first | exact HB.out | apply kC | apply kA | apply kD) | exact HB.out)))); have n2_ := Aside0.mk (kL (by repeat (first | (with_reducible first | exact HB.out | apply kC | apply kA | apply kD) | exact HB.out)) hb); clear HO460; clear HB; have HO460 := n0_; have HO464 := n1_; have HB := n2_; clear n0_ n1_ n2_; (try clear hb); (try clear hb2); (try clear hk); (try clear hi); (try clear ho0); obtain ⟨Ao10, co10, eo10⟩ := Kd.R_slice HO460.out; subst eo10; obtain ⟨Ao11, co11, eo11⟩ := Kd.R_slice HO464.out; subst eo11) | ((with_reducible refine gate_callee (f := 61) rfl ?_); refine goesL_ (some 12) rfl rfl Try.func61 (by kernel_rfl) rfl #[.agg #[.bool t457, .slice Ao10 t458.length co10], .agg #[.bool t461, .slice Ao11 t462.length co11]] rfl (by (try simp only [List.map_toArray, List.map_cons, List.map_nil]); first | done | rfl | (simp only [List.length_drop, List.length_take]; rfl)) ?_; (with_reducible refine (computusref01_Over.calls k t457 _ _ t458 t461 _ _ t462 t465 t466 _ ?side1 ?side2 ?side3 ?side4 A6.out).mono ?_); (case side1 => repeat (first | exact (Kd.R_reads' HO460.out).2.2 | (with_reducible refine Kd.C_alloc ?_ _) | (with_reducible refine Kd.C_drewN ?_ _) | (with_reducible refine Kd.C_drew ?_))); (case side2 => exact (Kd.R_reads' HO460.out).2.1); (case side3 => repeat (first | exact (Kd.R_reads' HO464.out).2.2 | (with_reducible refine Kd.C_alloc ?_ _) | (with_reducible refine Kd.C_drewN ?_ _) | (with_reducible refine Kd.C_drew ?_))); (case side4 => exact (Kd.R_reads' HO464.out).2.1); rintro e w12 ⟨v467, rfl, ho0, hb⟩; refine ⟨_, rfl, ?_⟩; have n0_ := Aside0.mk (Kd.R_elder' (by (with_reducible repeat (first | apply Kd.R_alloc | apply Kd.R_drewN | apply Kd.R_drew)); exact HO460.out) (Kd.R_base ho0) hb); have n1_ := Aside0.mk (Kd.R_elder' (by (with_reducible repeat (first | apply Kd.R_alloc | apply Kd.R_drewN | apply Kd.R_drew)); exact HO464.out) (Kd.R_base ho0) hb); have n2_ := Aside0.mk (Kd.R_lower (Kd.R_new' (Kd.R_new' ho0 (Kd.R_lt (by (with_reducible repeat (first | apply Kd.R_alloc | apply Kd.R_drewN | apply Kd.R_drew)); exact HO460.out))) (Kd.R_lt (by (with_reducible repeat (first | apply Kd.R_alloc | apply Kd.R_drewN | apply Kd.R_drew)); exact HO464.out))) (kK (by repeat (first | (with_reducible first | exact HB.out | apply kC | apply kA | apply kD) | exact HB.out)))); have n3_ := Aside0.mk (kL (by repeat (first | (with_reducible first | exact HB.out | apply kC | apply kA | apply kD) | exact HB.out)) hb); clear HO460; clear HO464; clear HB; have HO460 := n0_; have HO464 := n1_; have HO468 := n2_; have HB := n3_; clear n0_ n1_ n2_ n3_; (try clear hb); (try clear hb2); (try clear hk); (try clear hi); (try clear ho0); obtain ⟨Ao13, co13, eo13⟩ := Kd.R_slice HO468.out; subst eo13) | ((with_reducible refine gate_callee (f := 40) rfl ?_); refine goesL_ (some 13) rfl rfl Try.func40 (by kernel_rfl) rfl #[.agg #[.bool t465, .slice Ao13 t466.length co13]] rfl (by (try simp only [List.map_toArray, List.map_cons, List.map_nil]); first | done | rfl | (simp only [List.length_drop, List.length_take]; rfl)) ?_; (with_reducible refine (computusref01_Small.calls k t465 _ _ t466 t469 t470 _ ?side1 ?side2 A7.out).mono ?_); (case side1 => repeat (first | exact (Kd.R_reads' HO468.out).2.2 | (with_reducible refine Kd.C_alloc ?_ _) | (with_reducible refine Kd.C_drewN ?_ _) | (with_reducible refine Kd.C_drew ?_))); (case side2 => exact (Kd.R_reads' HO468.out).2.1); rintro e w14 ⟨rfl, hb⟩; refine ⟨_, rfl, ?_⟩; have n0_ := Aside0.mk (Kd.R_below (by (with_reducible repeat (first | apply Kd.R_alloc | apply Kd.R_drewN | apply Kd.R_drew)); exact HO460.out) hb); have n1_ := Aside0.mk (Kd.R_below (by (with_reducible repeat (first | apply Kd.R_alloc | apply Kd.R_drewN | apply Kd.R_drew)); exact HO464.out) hb); have n2_ := Aside0.mk (Kd.R_below (by (with_reducible repeat (first | apply Kd.R_alloc | apply Kd.R_drewN | apply Kd.R_drew)); exact HO468.out) hb); have n3_ := Aside0.mk (kL (by repeat (first | (with_reducible first | exact HB.out | apply kC | apply kA | apply kD) | exact HB.out)) hb); clear HO460; clear HO464; clear HO468; clear HB; have HO460 := n0_; have HO464 := n1_; have HO468 := n2_; have HB := n3_; clear n0_ n1_ n2_ n3_; (try clear hb); (try clear hb2); (try clear hk); (try clear hi)))
    go_ret2
    exact ⟨by first | rfl | (simp [errW_none, errW_some] <;> rfl) | (simp [*, errW_none, errW_some] <;> rfl), by repeat (first | (with_reducible first | exact HB.out | apply kC | apply kA | apply kD) | exact HB.out)⟩
noncomputable def computusref01_Div.con (k : Nat) : Con
  | [.int .i64 a0, .int .i64 a1] => some ((computusref01_Div.f k a0 a1).isSome, .tup [.int .i64 (gd (computusref01_Div.f k a0 a1)).1, .int .i64 (gd (computusref01_Div.f k a0 a1)).2])
  | _ => none
set_option maxRecDepth 100000 in
theorem computusref01_Div.cok (k : Nat) : COk Try.prog 49 (computusref01_Div.con k) := by
  intro args p v hc hp w A hA
  unfold computusref01_Div.con at hc
  split at hc
  · rename_i a0 a1
    simp only [Option.some.injEq, Prod.mk.injEq] at hc
    obtain ⟨rfl, rfl⟩ := hc
    rcases hf : computusref01_Div.f k a0 a1 with _ | ⟨r1, r2⟩
    · rw [hf] at hp; cases hp
    obtain rfl : A = [.int .i64 a0, .int .i64 a1] := by simpa [rl_cons, rl_nil, rv_int, rv_bool, rv_str, rv_agg, rv_fn] using hA
    exact gives_of_calls (fn := Try.f49) Try.func49 (by kernel_rfl) (by kernel_rfl) (computusref01_Div.calls _ _ _ _ _ w hf) (fun _ => by simp [gd_some, rl_cons, rl_nil, rv_int, rv_bool, rv_str, rv_agg, rv_tup]) (fun _ h => h)
  · cases hc
def computusref04_Floor.f (k : Nat) (a0_0 : Int) (a0_1 : Int) : Option (Int × Int) := (computusref04_Right.f a0_0 a0_1).bind fun t472 => (if t472 = true then ((computusref04_ten.f k a0_1).bind fun t473 => ((computusref01_Div.f k a0_0 t473).bind fun bt474 => (some (bt474.1, bt474.2)))) else (some (0, 1)))
set_option maxRecDepth 100000 in
theorem computusref04_Floor.vc (k : Nat) (a0_0 : Int) (a0_1 : Int) (K : AV → Prop) : afv PA Try.prog (tab [(15, computusref04_Right.con), (47, computusref04_ten.con k), (49, computusref01_Div.con k)]) noLoops 2 22 [.agg [.int .i64 a0_0, .int .i64 a0_1]] K = (brc (Option.isSome (computusref04_Right.f a0_0 a0_1)) (∀ (m0 : Bool), m0 = gd (computusref04_Right.f a0_0 a0_1) → brc (!m0) (K (AV.tup [AV.int IntKind.i64 0, AV.int IntKind.i64 1])) (brc (Option.isSome (computusref04_ten.f k a0_1)) (∀ (m1 : Int), m1 = gd (computusref04_ten.f k a0_1) → brc (Option.isSome (computusref01_Div.f k a0_0 m1)) (∀ (m2 : Int), m2 = Prod.fst (gd (computusref01_Div.f k a0_0 m1)) → ∀ (m3 : Int), m3 = Prod.snd (gd (computusref01_Div.f k a0_0 m1)) → K (AV.tup [AV.int IntKind.i64 m2, AV.int IntKind.i64 m3])) False) False)) False) := by kernel_rfl
set_option maxHeartbeats 1000000 in
set_option maxRecDepth 100000 in
theorem computusref04_Floor.calls (k : Nat) (a0_0 : Int) (a0_1 : Int) (r1 : Int) (r2 : Int) (w : World) (h : computusref04_Floor.f k a0_0 a0_1 = some (r1, r2)) :
    Calls Try.prog 22 #[.agg #[.int .i64 a0_0, .int .i64 a0_1]] w fun e w' => e = .returned (.tuple #[.int .i64 r1, .int .i64 r2]) ∧ Below w.heap.size w w' := by
  refine calls_of_vc (A := [.agg #[.int .i64 a0_0, .int .i64 a0_1]]) (v := .tup [.int .i64 r1, .int .i64 r2]) (tab_cons (computusref04_Right.cok) (tab_cons (computusref04_ten.cok k) (tab_cons (computusref01_Div.cok k) (tab_nil)))) ((computusref04_Floor.vc k a0_0 a0_1 _).mpr ?_) (by simp [rl_cons, rl_nil, rv_int, rv_bool, rv_str, rv_agg, rv_fn]) (fun ρ V' hV => by simpa [rl_cons, rl_nil, rv_int, rv_bool, rv_str, rv_agg, rv_tup] using hV)
  unfold computusref04_Floor.f at h
  (try simp only [bne, Option.bind_eq_some_iff, ite_some_iff] at h)
  (try simp only [bne, brc_iff, wrap_i64])
  first
    | grind (splits := 60) [gd_some]
    | ((repeat' (first | (have or_ : Or _ _ := h; clear or_; rcases h with h | h) | (have or_ : Exists _ := h; clear or_; obtain ⟨_, h⟩ := h) | (have or_ : And _ _ := h; clear or_; obtain ⟨hq_, h⟩ := h))) <;> (try simp only [Option.some.injEq, Prod.mk.injEq, reduceCtorEq] at h) <;> (try subst_vars) <;> first | (simp_all [gd_some] <;> (try omega) <;> done) | grind (splits := 60) [gd_some])
    | (intros; subst_vars; simp_all [gd_some]; done)
noncomputable def computusref04_Floor.con (k : Nat) : Con
  | [.agg [.int .i64 a0_0, .int .i64 a0_1]] => some ((computusref04_Floor.f k a0_0 a0_1).isSome, .tup [.int .i64 (gd (computusref04_Floor.f k a0_0 a0_1)).1, .int .i64 (gd (computusref04_Floor.f k a0_0 a0_1)).2])
  | _ => none
set_option maxRecDepth 100000 in
theorem computusref04_Floor.cok (k : Nat) : COk Try.prog 22 (computusref04_Floor.con k) := by
  intro args p v hc hp w A hA
  unfold computusref04_Floor.con at hc
  split at hc
  · rename_i a0_0 a0_1
    simp only [Option.some.injEq, Prod.mk.injEq] at hc
    obtain ⟨rfl, rfl⟩ := hc
    rcases hf : computusref04_Floor.f k a0_0 a0_1 with _ | ⟨r1, r2⟩
    · rw [hf] at hp; cases hp
    obtain rfl : A = [.agg #[.int .i64 a0_0, .int .i64 a0_1]] := by simpa [rl_cons, rl_nil, rv_int, rv_bool, rv_str, rv_agg, rv_fn] using hA
    exact gives_of_calls (fn := Try.f22) Try.func22 (by kernel_rfl) (by kernel_rfl) (computusref04_Floor.calls _ _ _ _ _ w hf) (fun _ => by simp [gd_some, rl_cons, rl_nil, rv_int, rv_bool, rv_str, rv_agg, rv_tup]) (fun _ h => h)
  · cases hc
end Go.Proofs.Ytkongoedgngfhaa.P
namespace Go.Proofs.Ytkongoedgngfhaa.P
open Go.RowKit Go.Proofs.YtkongoedgngfhaaW.PrintWords Go.Proofs.YtkongoedgngfhaaW.PrintLast Go.Proofs.YtkongoedgngfhaaW.PrintMore
open Go.Proofs.Ytkongoedgngfhaa.A
attribute [local go_sem] max2_int min2_int max_two min_two max_three min_three max_four min_four   -- for this text's walks alone
set_option linter.unusedVariables false
set_option linter.unusedSimpArgs false
def computusref04_Trim.l0 : Nat → Int → Int → Option (Int × Int)
  | 0, _, _ => none
  | k + 1, x477000, x477001 => (computusref04_Right.f x477000 x477001).bind fun t478 => (if t478 = true then (if x477001 > 0 then (if (Int.tmod x477000 10) = 0 then (computusref04_Trim.l0 k (wrap64 (Int.tdiv x477000 10)) (wrap64 (x477001 - 1))) else (some (x477000, x477001))) else (some (x477000, x477001))) else (some (x477000, x477001)))
def computusref04_Trim.f (k : Nat) (a0_0 : Int) (a0_1 : Int) : Option (Int × Int) := computusref04_Trim.l0 k a0_0 a0_1
/-- The rounds, as the code goes through them. -/
noncomputable def computusref04_Trim.V (K : AV → Prop) : Nat → Int → Int → Prop
  | 0, _, _ => False
  | d + 1, n, s => brc (computusref04_Right.f n s).isSome (∀ m : Bool, m = gd (computusref04_Right.f n s) → brc m (brc (decide (s > 0)) (brc (Int.tmod n 10 == 0) (computusref04_Trim.V K d (IntKind.i64.wrap (Int.tdiv n 10)) (IntKind.i64.wrap (s - 1))) (K (.agg [.int .i64 n, .int .i64 s]))) (K (.agg [.int .i64 n, .int .i64 s]))) (K (.agg [.int .i64 n, .int .i64 s]))) False
set_option maxRecDepth 100000 in
theorem computusref04_Trim.vc (a0_0 : Int) (a0_1 : Int) (K : AV → Prop) : afv PA Try.prog (tab [(15, computusref04_Right.con)]) noLoops 12 24 [.agg [.int .i64 a0_0, .int .i64 a0_1]] K = computusref04_Trim.V K 12 a0_0 a0_1 := by kernel_rfl
theorem computusref04_Trim.oneV (r1 r2 : Int) (d k : Nat) (n s : Int) (hd : 0 < s ∧ s ≤ 9 → ∀ k, computusref04_Trim.l0 k (wrap64 (Int.tdiv n 10)) (wrap64 (s - 1)) = some (r1, r2) → computusref04_Trim.V (fun v => v = .agg [.int .i64 r1, .int .i64 r2]) d (IntKind.i64.wrap (Int.tdiv n 10)) (IntKind.i64.wrap (s - 1)))
    (h : computusref04_Trim.l0 k n s = some (r1, r2)) : computusref04_Trim.V (fun v => v = .agg [.int .i64 r1, .int .i64 r2]) (d + 1) n s := by
  cases k with
  | zero => simp [computusref04_Trim.l0] at h
  | succ k =>
    simp only [computusref04_Trim.l0] at h
    have hr : computusref04_Right.f n s = some (decide (0 ≤ s ∧ s ≤ 9)) := by
      unfold computusref04_Right.f
      by_cases h0 : s ≥ 0
      · rw [if_pos h0]; congr 1; apply decide_eq_decide.2; omega
      · rw [if_neg h0, decide_eq_false (by omega)]
    have done : some (n, s) = some (r1, r2) → (AV.agg [.int .i64 n, .int .i64 s] : AV) = .agg [.int .i64 r1, .int .i64 r2] := fun e => by
      simp only [Option.some.injEq, Prod.mk.injEq] at e
      rw [e.1, e.2]
    simp only [computusref04_Trim.V]
    rw [hr] at h ⊢
    simp only [Option.bind_some, decide_eq_true_eq] at h
    by_cases hok : 0 ≤ s ∧ s ≤ 9
    · rw [if_pos hok] at h
      rw [decide_eq_true hok]
      show ∀ m : Bool, m = true → _
      rintro _ rfl
      show brc (decide (s > 0)) _ _
      by_cases hs : s > 0
      · rw [if_pos hs] at h
        rw [decide_eq_true hs]
        show brc (Int.tmod n 10 == 0) _ _
        by_cases hz : Int.tmod n 10 = 0
        · rw [if_pos hz] at h
          rw [beq_iff_eq.2 hz]
          exact hd ⟨hs, hok.2⟩ k h
        · rw [if_neg hz] at h
          rw [beq_eq_false_iff_ne.2 hz]
          exact done h
      · rw [if_neg hs] at h
        rw [decide_eq_false hs]
        exact done h
    · rw [if_neg hok] at h
      rw [decide_eq_false hok]
      show ∀ m : Bool, m = false → _
      rintro _ rfl
      exact done h
theorem computusref04_Trim.toV (r1 r2 : Int) : ∀ (d k : Nat) (n s : Int), (0 ≤ s → s ≤ 9 → s ≤ d) → computusref04_Trim.l0 k n s = some (r1, r2) → computusref04_Trim.V (fun v => v = .agg [.int .i64 r1, .int .i64 r2]) (d + 1) n s := by
  intro d
  induction d with
  | zero =>
    intro k n s hd h
    exact computusref04_Trim.oneV r1 r2 0 k n s (fun hs k h => by omega) h
  | succ d ih =>
    intro k n s hd h
    exact computusref04_Trim.oneV r1 r2 (d + 1) k n s (fun hs k h => ih k _ _ (fun h1 h2 => by rw [wrap_i64]; unfold wrap64 at *; omega) (by rw [wrap_i64, wrap_i64]; exact h)) h
set_option maxRecDepth 100000 in
theorem computusref04_Trim.calls (k : Nat) (a0_0 : Int) (a0_1 : Int) (r1 : Int) (r2 : Int) (w : World) (h : computusref04_Trim.f k a0_0 a0_1 = some (r1, r2)) :
    Calls Try.prog 24 #[.agg #[.int .i64 a0_0, .int .i64 a0_1]] w fun e w' => e = .returned (.agg #[.int .i64 r1, .int .i64 r2]) ∧ Below w.heap.size w w' := by
  refine calls_of_vc (A := [.agg #[.int .i64 a0_0, .int .i64 a0_1]]) (v := .agg [.int .i64 r1, .int .i64 r2]) (tab_cons (computusref04_Right.cok) tab_nil) ((computusref04_Trim.vc a0_0 a0_1 _).mpr ?_) (by simp [rl_cons, rl_nil, rv_int, rv_bool, rv_str, rv_agg, rv_fn]) (fun ρ V' hV => by simpa [rl_cons, rl_nil, rv_int, rv_bool, rv_str, rv_agg, rv_tup] using hV)
  exact computusref04_Trim.toV r1 r2 11 k a0_0 a0_1 (fun h1 h2 => by omega) h
noncomputable def computusref04_Trim.con (k : Nat) : Con
  | [.agg [.int .i64 a0_0, .int .i64 a0_1]] => some ((computusref04_Trim.f k a0_0 a0_1).isSome, .agg [.int .i64 (gd (computusref04_Trim.f k a0_0 a0_1)).1, .int .i64 (gd (computusref04_Trim.f k a0_0 a0_1)).2])
  | _ => none
set_option maxRecDepth 100000 in
theorem computusref04_Trim.cok (k : Nat) : COk Try.prog 24 (computusref04_Trim.con k) := by
  intro args p v hc hp w A hA
  unfold computusref04_Trim.con at hc
  split at hc
  · rename_i a0_0 a0_1
    simp only [Option.some.injEq, Prod.mk.injEq] at hc
    obtain ⟨rfl, rfl⟩ := hc
    rcases hf : computusref04_Trim.f k a0_0 a0_1 with _ | ⟨r1, r2⟩
    · rw [hf] at hp; cases hp
    obtain rfl : A = [.agg #[.int .i64 a0_0, .int .i64 a0_1]] := by simpa [rl_cons, rl_nil, rv_int, rv_bool, rv_str, rv_agg, rv_fn] using hA
    exact gives_of_calls (fn := Try.f24) Try.func24 (by kernel_rfl) (by kernel_rfl) (computusref04_Trim.calls _ _ _ _ _ w hf) (fun _ => by simp [gd_some, rl_cons, rl_nil, rv_int, rv_bool, rv_str, rv_agg, rv_tup]) (fun _ h => h)
  · cases hc
def cmp_isNaN_int64.f (a0 : Int) : Option (Bool) := some (a0 != a0)
set_option maxHeartbeats 8000000 in
set_option maxRecDepth 100000 in
theorem cmp_isNaN_int64.calls (a0 : Int) (r : Bool) (w : World) (h : cmp_isNaN_int64.f a0 = some r) :
    Calls Try.prog 62 #[.int .i64 a0] w fun e w' => e = .returned (.bool r) ∧ Drawn0 w w' := by
  have H : (some (a0 != a0)) = some r := h
  clear h
  obtain rfl := Option.some.inj H
  go_enter Try.func62, Try.ntmps62
  go_wp2
  go_ret
  exact ⟨by first | rfl | (simp; done) | (simp [*]; done), by repeat (first | exact Drawn0.refl _ | apply Drawn0.step)⟩
def cmp_Compare_int64.f (a0 : Int) (a1 : Int) : Option (Int) := (cmp_isNaN_int64.f a0).bind fun t479 => ((cmp_isNaN_int64.f a1).bind fun t480 => (if t479 = true then (if t480 = true then (some 0) else (some (-1))) else (if t480 = true then (some 1) else (if a0 < a1 then (some (-1)) else (if a0 > a1 then (some 1) else (some 0))))))
set_option maxHeartbeats 8000000 in
set_option maxRecDepth 100000 in
theorem cmp_Compare_int64.calls (a0 : Int) (a1 : Int) (r : Int) (w : World) (h : cmp_Compare_int64.f a0 a1 = some r) :
    Calls Try.prog 50 #[.int .i64 a0, .int .i64 a1] w fun e w' => e = .returned (.int .i64 r) ∧ Drawn0 w w' := by
  have H : ((cmp_isNaN_int64.f a0).bind fun t479 => ((cmp_isNaN_int64.f a1).bind fun t480 => (if t479 = true then (if t480 = true then (some 0) else (some (-1))) else (if t480 = true then (some 1) else (if a0 < a1 then (some (-1)) else (if a0 > a1 then (some 1) else (some 0))))))) = some r := h
  clear h
  replace H := Option.bind_eq_some_iff.mp H
  obtain ⟨t479, A30, H⟩ := H
  replace H : ((cmp_isNaN_int64.f a1).bind fun t480 => (if t479 = true then (if t480 = true then (some 0) else (some (-1))) else (if t480 = true then (some 1) else (if a0 < a1 then (some (-1)) else (if a0 > a1 then (some 1) else (some 0)))))) = some r := H
  have A3 := Aside0.mk A30
  clear A30
  replace H := Option.bind_eq_some_iff.mp H
  obtain ⟨t480, A40, H⟩ := H
  replace H : (if t479 = true then (if t480 = true then (some 0) else (some (-1))) else (if t480 = true then (some 1) else (if a0 < a1 then (some (-1)) else (if a0 > a1 then (some 1) else (some 0))))) = some r := H
  have A4 := Aside0.mk A40
  clear A40
  by_cases c5 : t479 = true
  · subst c5
    have H1 : (if t480 = true then (some 0) else (some (-1))) = some r := by rw [if_pos rfl] at H; exact H
    clear H
    have H := H1
    clear H1
    by_cases c6 : t480 = true
    · subst c6
      have H1 : (some 0) = some r := by rw [if_pos rfl] at H; exact H
      clear H
      have H := H1
      clear H1
      obtain rfl := Option.some.inj H
      go_enter Try.func50, Try.ntmps50
      go_wp2_with (first | ((with_reducible refine gate_callee (f := 62) rfl ?_); refine goesL_ (some 8) rfl rfl Try.func62 (by kernel_rfl) rfl #[.int .i64 a0] rfl (by (try simp only [List.map_toArray, List.map_cons, List.map_nil]); first | done | rfl | (simp only [List.length_drop, List.length_take]; rfl)) ?_; (with_reducible refine (cmp_isNaN_int64.calls a0 true _ A3.out).mono ?_); rintro e w' ⟨rfl, ⟨nd, rfl⟩⟩; refine ⟨_, rfl, ?_⟩) | ((with_reducible refine gate_callee (f := 62) rfl ?_); refine goesL_ (some 10) rfl rfl Try.func62 (by kernel_rfl) rfl #[.int .i64 a1] rfl (by (try simp only [List.map_toArray, List.map_cons, List.map_nil]); first | done | rfl | (simp only [List.length_drop, List.length_take]; rfl)) ?_; (with_reducible refine (cmp_isNaN_int64.calls a1 true _ A4.out).mono ?_); rintro e w' ⟨rfl, ⟨nd, rfl⟩⟩; refine ⟨_, rfl, ?_⟩))
      go_ret
      exact ⟨by first | rfl | (simp; done) | (simp [*]; done), by repeat (first | exact Drawn0.refl _ | apply Drawn0.step)⟩
    · replace c6 := Bool.eq_false_iff.mpr c6
      subst c6
      have H1 : (some (-1)) = some r := by rw [if_neg (show ¬ (false = true) by decide)] at H; exact H
      clear H
      have H := H1
      clear H1
      obtain rfl := Option.some.inj H
      go_enter Try.func50, Try.ntmps50
      go_wp2_with (first | ((with_reducible refine gate_callee (f := 62) rfl ?_); refine goesL_ (some 8) rfl rfl Try.func62 (by kernel_rfl) rfl #[.int .i64 a0] rfl (by (try simp only [List.map_toArray, List.map_cons, List.map_nil]); first | done | rfl | (simp only [List.length_drop, List.length_take]; rfl)) ?_; (with_reducible refine (cmp_isNaN_int64.calls a0 true _ A3.out).mono ?_); rintro e w' ⟨rfl, ⟨nd, rfl⟩⟩; refine ⟨_, rfl, ?_⟩) | ((with_reducible refine gate_callee (f := 62) rfl ?_); refine goesL_ (some 10) rfl rfl Try.func62 (by kernel_rfl) rfl #[.int .i64 a1] rfl (by (try simp only [List.map_toArray, List.map_cons, List.map_nil]); first | done | rfl | (simp only [List.length_drop, List.length_take]; rfl)) ?_; (with_reducible refine (cmp_isNaN_int64.calls a1 false _ A4.out).mono ?_); rintro e w' ⟨rfl, ⟨nd, rfl⟩⟩; refine ⟨_, rfl, ?_⟩))
      go_ret
      exact ⟨by first | rfl | (simp; done) | (simp [*]; done), by repeat (first | exact Drawn0.refl _ | apply Drawn0.step)⟩
  · replace c5 := Bool.eq_false_iff.mpr c5
    subst c5
    have H1 : (if t480 = true then (some 1) else (if a0 < a1 then (some (-1)) else (if a0 > a1 then (some 1) else (some 0)))) = some r := by rw [if_neg (show ¬ (false = true) by decide)] at H; exact H
    clear H
    have H := H1
    clear H1
    by_cases c7 : t480 = true
    · subst c7
      have H1 : (some 1) = some r := by rw [if_pos rfl] at H; exact H
      clear H
      have H := H1
      clear H1
      obtain rfl := Option.some.inj H
      go_enter Try.func50, Try.ntmps50
      go_wp2_with (first | ((with_reducible refine gate_callee (f := 62) rfl ?_); refine goesL_ (some 8) rfl rfl Try.func62 (by kernel_rfl) rfl #[.int .i64 a0] rfl (by (try simp only [List.map_toArray, List.map_cons, List.map_nil]); first | done | rfl | (simp only [List.length_drop, List.length_take]; rfl)) ?_; (with_reducible refine (cmp_isNaN_int64.calls a0 false _ A3.out).mono ?_); rintro e w' ⟨rfl, ⟨nd, rfl⟩⟩; refine ⟨_, rfl, ?_⟩) | ((with_reducible refine gate_callee (f := 62) rfl ?_); refine goesL_ (some 10) rfl rfl Try.func62 (by kernel_rfl) rfl #[.int .i64 a1] rfl (by (try simp only [List.map_toArray, List.map_cons, List.map_nil]); first | done | rfl | (simp only [List.length_drop, List.length_take]; rfl)) ?_; (with_reducible refine (cmp_isNaN_int64.calls a1 true _ A4.out).mono ?_); rintro e w' ⟨rfl, ⟨nd, rfl⟩⟩; refine ⟨_, rfl, ?_⟩))
      go_ret
      exact ⟨by first | rfl | (simp; done) | (simp [*]; done), by repeat (first | exact Drawn0.refl _ | apply Drawn0.step)⟩
    · replace c7 := Bool.eq_false_iff.mpr c7
      subst c7
      have H1 : (if a0 < a1 then (some (-1)) else (if a0 > a1 then (some 1) else (some 0))) = some r := by rw [if_neg (show ¬ (false = true) by decide)] at H; exact H
      clear H
      have H := H1
      clear H1
      by_cases c8 : a0 < a1
      · rw [if_pos c8] at H
        have c8b0 : decide (a0 < a1) = true := decide_eq_true c8
        clear c8
        obtain rfl := Option.some.inj H
        go_enter Try.func50, Try.ntmps50
        go_wp2_with (first | ((with_reducible refine gate_callee (f := 62) rfl ?_); refine goesL_ (some 8) rfl rfl Try.func62 (by kernel_rfl) rfl #[.int .i64 a0] rfl (by (try simp only [List.map_toArray, List.map_cons, List.map_nil]); first | done | rfl | (simp only [List.length_drop, List.length_take]; rfl)) ?_; (with_reducible refine (cmp_isNaN_int64.calls a0 false _ A3.out).mono ?_); rintro e w' ⟨rfl, ⟨nd, rfl⟩⟩; refine ⟨_, rfl, ?_⟩) | ((with_reducible refine gate_callee (f := 62) rfl ?_); refine goesL_ (some 10) rfl rfl Try.func62 (by kernel_rfl) rfl #[.int .i64 a1] rfl (by (try simp only [List.map_toArray, List.map_cons, List.map_nil]); first | done | rfl | (simp only [List.length_drop, List.length_take]; rfl)) ?_; (with_reducible refine (cmp_isNaN_int64.calls a1 false _ A4.out).mono ?_); rintro e w' ⟨rfl, ⟨nd, rfl⟩⟩; refine ⟨_, rfl, ?_⟩))
        go_ret
        exact ⟨by first | rfl | (simp; done) | (simp [*]; done), by repeat (first | exact Drawn0.refl _ | apply Drawn0.step)⟩
      · rw [if_neg c8] at H
        have c8b0 : decide (a0 < a1) = false := decide_eq_false c8
        clear c8
        by_cases c9 : a0 > a1
        · rw [if_pos c9] at H
          have c9b0 : decide (a1 < a0) = true := decide_eq_true c9
          clear c9
          obtain rfl := Option.some.inj H
          go_enter Try.func50, Try.ntmps50
          go_wp2_with (first | ((with_reducible refine gate_callee (f := 62) rfl ?_); refine goesL_ (some 8) rfl rfl Try.func62 (by kernel_rfl) rfl #[.int .i64 a0] rfl (by (try simp only [List.map_toArray, List.map_cons, List.map_nil]); first | done | rfl | (simp only [List.length_drop, List.length_take]; rfl)) ?_; (with_reducible refine (cmp_isNaN_int64.calls a0 false _ A3.out).mono ?_); rintro e w' ⟨rfl, ⟨nd, rfl⟩⟩; refine ⟨_, rfl, ?_⟩) | ((with_reducible refine gate_callee (f := 62) rfl ?_); refine goesL_ (some 10) rfl rfl Try.func62 (by kernel_rfl) rfl #[.int .i64 a1] rfl (by (try simp only [List.map_toArray, List.map_cons, List.map_nil]); first | done | rfl | (simp only [List.length_drop, List.length_take]; rfl)) ?_; (with_reducible refine (cmp_isNaN_int64.calls a1 false _ A4.out).mono ?_); rintro e w' ⟨rfl, ⟨nd, rfl⟩⟩; refine ⟨_, rfl, ?_⟩))
          go_ret
          exact ⟨by first | rfl | (simp; done) | (simp [*]; done), by repeat (first | exact Drawn0.refl _ | apply Drawn0.step)⟩
        · rw [if_neg c9] at H
          have c9b0 : decide (a1 < a0) = false := decide_eq_false c9
          clear c9
          obtain rfl := Option.some.inj H
          go_enter Try.func50, Try.ntmps50
          go_wp2_with (first | ((with_reducible refine gate_callee (f := 62) rfl ?_); refine goesL_ (some 8) rfl rfl Try.func62 (by kernel_rfl) rfl #[.int .i64 a0] rfl (by (try simp only [List.map_toArray, List.map_cons, List.map_nil]); first | done | rfl | (simp only [List.length_drop, List.length_take]; rfl)) ?_; (with_reducible refine (cmp_isNaN_int64.calls a0 false _ A3.out).mono ?_); rintro e w' ⟨rfl, ⟨nd, rfl⟩⟩; refine ⟨_, rfl, ?_⟩) | ((with_reducible refine gate_callee (f := 62) rfl ?_); refine goesL_ (some 10) rfl rfl Try.func62 (by kernel_rfl) rfl #[.int .i64 a1] rfl (by (try simp only [List.map_toArray, List.map_cons, List.map_nil]); first | done | rfl | (simp only [List.length_drop, List.length_take]; rfl)) ?_; (with_reducible refine (cmp_isNaN_int64.calls a1 false _ A4.out).mono ?_); rintro e w' ⟨rfl, ⟨nd, rfl⟩⟩; refine ⟨_, rfl, ?_⟩))
          go_ret
          exact ⟨by first | rfl | (simp; done) | (simp [*]; done), by repeat (first | exact Drawn0.refl _ | apply Drawn0.step)⟩
noncomputable def cmp_Compare_int64.con : Con
  | [.int .i64 a0, .int .i64 a1] => some ((cmp_Compare_int64.f a0 a1).isSome, .int .i64 (gd (cmp_Compare_int64.f a0 a1)))
  | _ => none
set_option maxRecDepth 100000 in
theorem cmp_Compare_int64.cok : COk Try.prog 50 (cmp_Compare_int64.con) := by
  intro args p v hc hp w A hA
  unfold cmp_Compare_int64.con at hc
  split at hc
  · rename_i a0 a1
    simp only [Option.some.injEq, Prod.mk.injEq] at hc
    obtain ⟨rfl, rfl⟩ := hc
    rcases hf : cmp_Compare_int64.f a0 a1 with _ | r
    · rw [hf] at hp; cases hp
    obtain rfl : A = [.int .i64 a0, .int .i64 a1] := by simpa [rl_cons, rl_nil, rv_int, rv_bool, rv_str, rv_agg, rv_fn] using hA
    exact gives_of_calls (fn := Try.f50) Try.func50 (by kernel_rfl) (by kernel_rfl) (cmp_Compare_int64.calls _ _ _ w hf) (fun _ => by simp [gd_some, rl_cons, rl_nil, rv_int, rv_bool, rv_str, rv_agg, rv_tup]) (fun _ h => h.below)
  · cases hc
end Go.Proofs.Ytkongoedgngfhaa.P
namespace Go.Proofs.Ytkongoedgngfhaa.P
open Go.RowKit Go.Proofs.YtkongoedgngfhaaW.PrintWords Go.Proofs.YtkongoedgngfhaaW.PrintLast Go.Proofs.YtkongoedgngfhaaW.PrintMore
open Go.Proofs.Ytkongoedgngfhaa.A
attribute [local go_sem] max2_int min2_int max_two min_two max_three min_three max_four min_four   -- for this text's walks alone
set_option linter.unusedVariables false
set_option linter.unusedSimpArgs false
def dec_Cmp.j0 : Nat → Bool → Int → Int → Int → Int → Option (Int)
  | 0, _, _, _, _, _ => none
  | k + 1, x14, x482000, x482001, x483000, x483001 => if x14 = true then (some 0) else ((dec_Dec_split.f k x482000 x482001).bind fun bt485 => ((dec_Dec_split.f k x483000 x483001).bind fun bt487 => (if (bt485.1 == bt487.1 && (bt485.2 == bt487.2)) = true then (some 0) else (if bt485.1 = bt487.1 then ((cmp_Compare_int64.f bt485.2 bt487.2).bind fun t491 => (some t491)) else ((cmp_Compare_int64.f bt485.1 bt487.1).bind fun t492 => (some t492))))))
def dec_Cmp.f (k : Nat) (a0_0 : Int) (a0_1 : Int) (a1_0 : Int) (a1_1 : Int) : Option (Int) := (dec_Right.f a0_0 a0_1).bind fun t483 => (if t483 = true then ((dec_Right.f a1_0 a1_1).bind fun t484 => (dec_Cmp.j0 k (!t484) a0_0 a0_1 a1_0 a1_1)) else (dec_Cmp.j0 k true a0_0 a0_1 a1_0 a1_1))
set_option maxRecDepth 100000 in
theorem dec_Cmp.vc (k : Nat) (a0_0 : Int) (a0_1 : Int) (a1_0 : Int) (a1_1 : Int) (K : AV → Prop) : afv PA Try.prog (tab [(31, dec_Right.con), (50, cmp_Compare_int64.con), (48, dec_Dec_split.con k)]) noLoops 2 25 [.agg [.int .i64 a0_0, .int .i64 a0_1], .agg [.int .i64 a1_0, .int .i64 a1_1]] K = (brc (Option.isSome (dec_Right.f a0_0 a0_1)) (∀ (m0 : Bool), m0 = gd (dec_Right.f a0_0 a0_1) → brc (!m0) (K (AV.int IntKind.i64 0)) (brc (Option.isSome (dec_Right.f a1_0 a1_1)) (∀ (m1 : Bool), m1 = gd (dec_Right.f a1_0 a1_1) → brc (!m1) (K (AV.int IntKind.i64 0)) (brc (Option.isSome (dec_Dec_split.f k a0_0 a0_1)) (∀ (m2 : Int), m2 = Prod.fst (gd (dec_Dec_split.f k a0_0 a0_1)) → ∀ (m3 : Int), m3 = Prod.snd (gd (dec_Dec_split.f k a0_0 a0_1)) → brc (Option.isSome (dec_Dec_split.f k a1_0 a1_1)) (∀ (m4 : Int), m4 = Prod.fst (gd (dec_Dec_split.f k a1_0 a1_1)) → ∀ (m5 : Int), m5 = Prod.snd (gd (dec_Dec_split.f k a1_0 a1_1)) → brc (m2 == m4 && (m3 == m5 && true)) (K (AV.int IntKind.i64 0)) (brc (m2 != m4) (brc (Option.isSome (cmp_Compare_int64.f m2 m4)) (∀ (m6 : Int), m6 = gd (cmp_Compare_int64.f m2 m4) → K (AV.int IntKind.i64 m6)) False) (brc (Option.isSome (cmp_Compare_int64.f m3 m5)) (∀ (m6 : Int), m6 = gd (cmp_Compare_int64.f m3 m5) → K (AV.int IntKind.i64 m6)) False))) False) False)) False)) False) := by kernel_rfl
set_option maxHeartbeats 1000000 in
set_option maxRecDepth 100000 in
theorem dec_Cmp.calls (k : Nat) (a0_0 : Int) (a0_1 : Int) (a1_0 : Int) (a1_1 : Int) (r : Int) (w : World) (h : dec_Cmp.f k a0_0 a0_1 a1_0 a1_1 = some r) :
    Calls Try.prog 25 #[.agg #[.int .i64 a0_0, .int .i64 a0_1], .agg #[.int .i64 a1_0, .int .i64 a1_1]] w fun e w' => e = .returned (.int .i64 r) ∧ Below w.heap.size w w' := by
  refine calls_of_vc (A := [.agg #[.int .i64 a0_0, .int .i64 a0_1], .agg #[.int .i64 a1_0, .int .i64 a1_1]]) (v := .int .i64 r) (tab_cons (dec_Right.cok) (tab_cons (cmp_Compare_int64.cok) (tab_cons (dec_Dec_split.cok k) (tab_nil)))) ((dec_Cmp.vc k a0_0 a0_1 a1_0 a1_1 _).mpr ?_) (by simp [rl_cons, rl_nil, rv_int, rv_bool, rv_str, rv_agg, rv_fn]) (fun ρ V' hV => by simpa [rl_cons, rl_nil, rv_int, rv_bool, rv_str, rv_agg, rv_tup] using hV)
  unfold dec_Cmp.f at h
  cases k with
  | zero =>
    (try simp only [dec_Cmp.j0] at h)
    (try simp only [bne, Option.bind_eq_some_iff, ite_some_iff] at h)
    (try simp only [bne, brc_iff, wrap_i64])
    first
      | grind (splits := 60) [gd_some]
      | ((repeat' (first | (have or_ : Or _ _ := h; clear or_; rcases h with h | h) | (have or_ : Exists _ := h; clear or_; obtain ⟨_, h⟩ := h) | (have or_ : And _ _ := h; clear or_; obtain ⟨hq_, h⟩ := h))) <;> (try simp only [Option.some.injEq, Prod.mk.injEq, reduceCtorEq] at h) <;> (try subst_vars) <;> first | (simp_all [gd_some] <;> (try omega) <;> done) | grind (splits := 60) [gd_some])
      | (intros; subst_vars; simp_all [gd_some]; done)
  | succ k =>
    (try simp only [dec_Cmp.j0] at h)
    (try simp only [bne, Option.bind_eq_some_iff, ite_some_iff] at h)
    (try simp only [bne, brc_iff, wrap_i64])
    first
      | grind (splits := 60) [gd_some, dec_Dec_split.up]
      | ((repeat' (first | (have or_ : Or _ _ := h; clear or_; rcases h with h | h) | (have or_ : Exists _ := h; clear or_; obtain ⟨_, h⟩ := h) | (have or_ : And _ _ := h; clear or_; obtain ⟨hq_, h⟩ := h; (try first | replace hq_ := dec_Dec_split.le (n := k + 1) hq_ (by omega))))) <;> (try simp only [Option.some.injEq, Prod.mk.injEq, reduceCtorEq] at h) <;> (try subst_vars) <;> first | (simp_all [gd_some] <;> (try omega) <;> done) | grind (splits := 60) [gd_some, dec_Dec_split.up])
      | (intros; subst_vars; simp_all [gd_some]; done)
noncomputable def dec_Cmp.con (k : Nat) : Con
  | [.agg [.int .i64 a0_0, .int .i64 a0_1], .agg [.int .i64 a1_0, .int .i64 a1_1]] => some ((dec_Cmp.f k a0_0 a0_1 a1_0 a1_1).isSome, .int .i64 (gd (dec_Cmp.f k a0_0 a0_1 a1_0 a1_1)))
  | _ => none
set_option maxRecDepth 100000 in
theorem dec_Cmp.cok (k : Nat) : COk Try.prog 25 (dec_Cmp.con k) := by
  intro args p v hc hp w A hA
  unfold dec_Cmp.con at hc
  split at hc
  · rename_i a0_0 a0_1 a1_0 a1_1
    simp only [Option.some.injEq, Prod.mk.injEq] at hc
    obtain ⟨rfl, rfl⟩ := hc
    rcases hf : dec_Cmp.f k a0_0 a0_1 a1_0 a1_1 with _ | r
    · rw [hf] at hp; cases hp
    obtain rfl : A = [.agg #[.int .i64 a0_0, .int .i64 a0_1], .agg #[.int .i64 a1_0, .int .i64 a1_1]] := by simpa [rl_cons, rl_nil, rv_int, rv_bool, rv_str, rv_agg, rv_fn] using hA
    exact gives_of_calls (fn := Try.f25) Try.func25 (by kernel_rfl) (by kernel_rfl) (dec_Cmp.calls _ _ _ _ _ _ w hf) (fun _ => by simp [gd_some, rl_cons, rl_nil, rv_int, rv_bool, rv_str, rv_agg, rv_tup]) (fun _ h => h)
  · cases hc
end Go.Proofs.Ytkongoedgngfhaa.P
namespace Go.Proofs.Ytkongoedgngfhaa.P
open Go.RowKit Go.Proofs.YtkongoedgngfhaaW.PrintWords Go.Proofs.YtkongoedgngfhaaW.PrintLast Go.Proofs.YtkongoedgngfhaaW.PrintMore
open Go.Proofs.Ytkongoedgngfhaa.A
attribute [local go_sem] max2_int min2_int max_two min_two max_three min_three max_four min_four   -- for this text's walks alone
set_option linter.unusedVariables false
set_option linter.unusedSimpArgs false
attribute [local go_sem high] eqA23
def computuslaw04_DecRounds.f (k : Nat) (a0_0 : Int) (a0_1 : Int) (a1 : Int) : Option (Bool) := (computuslaw04_given.f a0_0 a0_1).bind fun bt494 => ((dec_Round.f k bt494.1 bt494.2 a1).bind fun bt496 => ((computusref04_Round.f k a0_0 a0_1 a1).bind fun bt500 => ((computuslaw04_given.f a0_0 a0_1).bind fun bt504 => ((dec_Floor.f k bt504.1 bt504.2).bind fun bt506 => ((computusref04_Floor.f k a0_0 a0_1).bind fun bt508 => ((computuslaw04_given.f a0_0 a0_1).bind fun bt510 => ((dec_Trim.f k bt510.1 bt510.2).bind fun bt512 => ((computuslaw04_taken.f bt496.1 bt496.2.1).bind fun bt515 => (if (bt515.1 == bt500.1 && (bt515.2 == bt500.2.1)) = true then (if bt496.2.2 = bt500.2.2 then (if bt506.1 = bt508.1 then (if bt506.2 = bt508.2 then ((computuslaw04_taken.f bt512.1 bt512.2).bind fun bt517 => ((computusref04_Trim.f k a0_0 a0_1).bind fun bt519 => (if (bt517.1 == bt519.1 && (bt517.2 == bt519.2)) = true then ((computuslaw04_given.f a0_0 a0_1).bind fun bt521 => ((dec_Cmp.f k bt512.1 bt512.2 bt521.1 bt521.2).bind fun t523 => (if t523 = 0 then ((computuslaw04_known.f k).bind fun t524 => (some t524)) else (some false)))) else (some false)))) else (some false)) else (some false)) else (some false)) else (some false))))))))))
set_option maxRecDepth 100000 in
theorem computuslaw04_DecRounds.vc (k : Nat) (a0_0 : Int) (a0_1 : Int) (a1 : Int) (K : AV → Prop) : afv PA Try.prog (tab [(10, computuslaw04_given.con), (14, computuslaw04_taken.con), (16, computuslaw04_known.con k), (19, dec_Round.con k), (20, computusref04_Round.con k), (21, dec_Floor.con k), (22, computusref04_Floor.con k), (23, dec_Trim.con k), (24, computusref04_Trim.con k), (25, dec_Cmp.con k)]) noLoops 2 5 [.agg [.int .i64 a0_0, .int .i64 a0_1], .int .i64 a1] K = (brc (Option.isSome (computuslaw04_given.f a0_0 a0_1)) (∀ (m0 : Int), m0 = Prod.fst (gd (computuslaw04_given.f a0_0 a0_1)) → ∀ (m1 : Int), m1 = Prod.snd (gd (computuslaw04_given.f a0_0 a0_1)) → brc (Option.isSome (dec_Round.f k m0 m1 a1)) (∀ (m2 : Int), m2 = Prod.fst (gd (dec_Round.f k m0 m1 a1)) → ∀ (m3 : Int), m3 = Prod.fst (Prod.snd (gd (dec_Round.f k m0 m1 a1))) → ∀ (m4 : Int), m4 = Prod.snd (Prod.snd (gd (dec_Round.f k m0 m1 a1))) → brc (Option.isSome (computusref04_Round.f k a0_0 a0_1 a1)) (∀ (m5 : Int), m5 = Prod.fst (gd (computusref04_Round.f k a0_0 a0_1 a1)) → ∀ (m6 : Int), m6 = Prod.fst (Prod.snd (gd (computusref04_Round.f k a0_0 a0_1 a1))) → ∀ (m7 : Int), m7 = Prod.snd (Prod.snd (gd (computusref04_Round.f k a0_0 a0_1 a1))) → brc (Option.isSome (computuslaw04_given.f a0_0 a0_1)) (∀ (m8 : Int), m8 = Prod.fst (gd (computuslaw04_given.f a0_0 a0_1)) → ∀ (m9 : Int), m9 = Prod.snd (gd (computuslaw04_given.f a0_0 a0_1)) → brc (Option.isSome (dec_Floor.f k m8 m9)) (∀ (m10 : Int), m10 = Prod.fst (gd (dec_Floor.f k m8 m9)) → ∀ (m11 : Int), m11 = Prod.snd (gd (dec_Floor.f k m8 m9)) → brc (Option.isSome (computusref04_Floor.f k a0_0 a0_1)) (∀ (m12 : Int), m12 = Prod.fst (gd (computusref04_Floor.f k a0_0 a0_1)) → ∀ (m13 : Int), m13 = Prod.snd (gd (computusref04_Floor.f k a0_0 a0_1)) → brc (Option.isSome (computuslaw04_given.f a0_0 a0_1)) (∀ (m14 : Int), m14 = Prod.fst (gd (computuslaw04_given.f a0_0 a0_1)) → ∀ (m15 : Int), m15 = Prod.snd (gd (computuslaw04_given.f a0_0 a0_1)) → brc (Option.isSome (dec_Trim.f k m14 m15)) (∀ (m16 : Int), m16 = Prod.fst (gd (dec_Trim.f k m14 m15)) → ∀ (m17 : Int), m17 = Prod.snd (gd (dec_Trim.f k m14 m15)) → brc (Option.isSome (computuslaw04_taken.f m2 m3)) (∀ (m18 : Int), m18 = Prod.fst (gd (computuslaw04_taken.f m2 m3)) → ∀ (m19 : Int), m19 = Prod.snd (gd (computuslaw04_taken.f m2 m3)) → brc (m18 == m5 && (m19 == m6 && true)) (brc (m4 == m7) (brc (m10 == m12) (brc (m11 == m13) (brc (Option.isSome (computuslaw04_taken.f m16 m17)) (∀ (m20 : Int), m20 = Prod.fst (gd (computuslaw04_taken.f m16 m17)) → ∀ (m21 : Int), m21 = Prod.snd (gd (computuslaw04_taken.f m16 m17)) → brc (Option.isSome (computusref04_Trim.f k a0_0 a0_1)) (∀ (m22 : Int), m22 = Prod.fst (gd (computusref04_Trim.f k a0_0 a0_1)) → ∀ (m23 : Int), m23 = Prod.snd (gd (computusref04_Trim.f k a0_0 a0_1)) → brc (m20 == m22 && (m21 == m23 && true)) (brc (Option.isSome (computuslaw04_given.f a0_0 a0_1)) (∀ (m24 : Int), m24 = Prod.fst (gd (computuslaw04_given.f a0_0 a0_1)) → ∀ (m25 : Int), m25 = Prod.snd (gd (computuslaw04_given.f a0_0 a0_1)) → brc (Option.isSome (dec_Cmp.f k m16 m17 m24 m25)) (∀ (m26 : Int), m26 = gd (dec_Cmp.f k m16 m17 m24 m25) → brc (m26 == 0) (brc (decide (computuslaw04_known.f k = some true)) (∀ (m27 : Bool), m27 = true → K (AV.bool m27)) False) (K (AV.bool false))) False) False) (K (AV.bool false))) False) False) (K (AV.bool false))) (K (AV.bool false))) (K (AV.bool false))) (K (AV.bool false))) False) False) False) False) False) False) False) False) False) := by kernel_rfl
set_option maxHeartbeats 1000000 in
set_option maxRecDepth 100000 in
theorem computuslaw04_DecRounds.calls (k : Nat) (a0_0 : Int) (a0_1 : Int) (a1 : Int) (r : Bool) (w : World) (h : computuslaw04_DecRounds.f k a0_0 a0_1 a1 = some r) (hR : r = true) :
    Calls Try.prog 5 #[.agg #[.int .i64 a0_0, .int .i64 a0_1], .int .i64 a1] w fun e w' => e = .returned (.bool r) ∧ Below w.heap.size w w' := by
  refine calls_of_vc (A := [.agg #[.int .i64 a0_0, .int .i64 a0_1], .int .i64 a1]) (v := .bool r) (tab_cons (computuslaw04_given.cok) (tab_cons (computuslaw04_taken.cok) (tab_cons (computuslaw04_known.cok k) (tab_cons (dec_Round.cok k) (tab_cons (computusref04_Round.cok k) (tab_cons (dec_Floor.cok k) (tab_cons (computusref04_Floor.cok k) (tab_cons (dec_Trim.cok k) (tab_cons (computusref04_Trim.cok k) (tab_cons (dec_Cmp.cok k) (tab_nil))))))))))) ((computuslaw04_DecRounds.vc k a0_0 a0_1 a1 _).mpr ?_) (by simp [rl_cons, rl_nil, rv_int, rv_bool, rv_str, rv_agg, rv_fn]) (fun ρ V' hV => by simpa [rl_cons, rl_nil, rv_int, rv_bool, rv_str, rv_agg, rv_tup] using hV)
  unfold computuslaw04_DecRounds.f at h
  (try simp only [bne, Option.bind_eq_some_iff, ite_some_iff] at h)
  (try simp only [bne, brc_iff, wrap_i64])
  first
    | grind (splits := 60) [gd_some]
    | ((repeat' (first | (have or_ : Or _ _ := h; clear or_; rcases h with h | h) | (have or_ : Exists _ := h; clear or_; obtain ⟨_, h⟩ := h) | (have or_ : And _ _ := h; clear or_; obtain ⟨hq_, h⟩ := h))) <;> (try simp only [Option.some.injEq, Prod.mk.injEq, reduceCtorEq] at h) <;> (try subst_vars) <;> first | (simp_all [gd_some] <;> (try omega) <;> rcases hb0 : decide (computuslaw04_known.f k = some true) with _ | _ <;> simp_all [gd_some] <;> done) | grind (splits := 60) [gd_some])
    | (intros; subst_vars; simp_all [gd_some]; done)
/-- THE ONE PURE STATEMENT of computuslaw04_DecRounds: yours. -/
def computuslaw04_DecRounds.Pure : Prop := ∀ (a0_0 : Int) (a0_1 : Int) (a1 : Int), (Lit.int .i64 a0_0).wf = true → (Lit.int .i64 a0_1).wf = true → (Lit.int .i64 a1).wf = true → ∃ k, computuslaw04_DecRounds.f k a0_0 a0_1 a1 = some true
theorem computuslaw04_DecRounds.walk (P : computuslaw04_DecRounds.Pure) (a0_0 : Int) (a0_1 : Int) (a1 : Int) (w : World) (w0_0 : (Lit.int .i64 a0_0).wf = true) (w0_1 : (Lit.int .i64 a0_1).wf = true) (w1 : (Lit.int .i64 a1).wf = true) :
    Calls Try.prog 5 #[.agg #[.int .i64 a0_0, .int .i64 a0_1], .int .i64 a1] w fun e w' => e = .returned (.bool true) ∧ Below w.heap.size w w' := by
  obtain ⟨k, h⟩ := P a0_0 a0_1 a1 w0_0 w0_1 w1
  refine (computuslaw04_DecRounds.calls k a0_0 a0_1 a1 true w h rfl).mono ?_
  rintro e w' ⟨rfl, hd⟩
  exact ⟨rfl, hd⟩
end Go.Proofs.Ytkongoedgngfhaa.P
namespace Go.Proofs.Ytkongoedgngfhaa.Civ
set_option linter.unusedVariables false
set_option linter.unusedSimpArgs false
open Go.RowKit Go.Proofs.YtkongoedgngfhaaW.PrintWords Go.Proofs.YtkongoedgngfhaaW.PrintLast Go.Proofs.YtkongoedgngfhaaW.PrintMore
theorem w64 {x : Int} (h1 : -9223372036854775808 ≤ x) (h2 : x ≤ 9223372036854775807) : wrap64 x = x := by unfold wrap64; omega
/-- A number is one of 64 bits. -/
def I64 (x : Int) : Prop := -9223372036854775808 ≤ x ∧ x ≤ 9223372036854775807
theorem i64_of_wf {x : Int} (h : (Lit.int .i64 x).wf = true) : I64 x := by
  simp only [Lit.wf, IntKind.min, IntKind.max, IntKind.signed, IntKind.bits, Bool.and_eq_true, decide_eq_true_eq, if_true] at h
  exact h
theorem wrap_i64 (x : Int) : I64 (wrap64 x) := by unfold I64 wrap64; omega
theorem td_pos {a b : Int} (ha : 0 ≤ a) : Int.tdiv a b = a / b := Int.tdiv_eq_ediv_of_nonneg ha
theorem tm_pos {a b : Int} (ha : 0 ≤ a) : Int.tmod a b = a % b := Int.tmod_eq_emod_of_nonneg ha
theorem td_neg {a b : Int} (ha : a ≤ 0) : Int.tdiv a b = -((-a) / b) := by
  have : Int.tdiv (-a) b = (-a) / b := Int.tdiv_eq_ediv_of_nonneg (by omega)
  rw [← this, Int.neg_tdiv, Int.neg_neg]
theorem tm_neg {a b : Int} (ha : a ≤ 0) : Int.tmod a b = -((-a) % b) := by
  have : Int.tmod (-a) b = (-a) % b := Int.tmod_eq_emod_of_nonneg (by omega)
  rw [← this, Int.neg_tmod, Int.neg_neg]
/-- Cut division against floored division. -/
theorem cut_floor (a : Int) {b : Int} (hb : 0 < b) : (Int.tmod a b < 0 → Int.tdiv a b = a / b + 1 ∧ Int.tmod a b = a % b - b ∧ 0 < a % b) ∧ (¬ Int.tmod a b < 0 → Int.tdiv a b = a / b ∧ Int.tmod a b = a % b) := by
  rcases Int.le_total 0 a with h | h
  · rw [td_pos h, tm_pos h]
    have := Int.emod_nonneg a (Int.ne_of_gt hb)
    exact ⟨fun h => by omega, fun _ => ⟨rfl, rfl⟩⟩
  · rw [td_neg h, tm_neg h]
    have e := Int.mul_ediv_add_emod (-a) b
    have h1 := Int.emod_nonneg (-a) (Int.ne_of_gt hb)
    have h2 := Int.emod_lt_of_pos (-a) hb
    generalize (-a) / b = q at *
    generalize (-a) % b = r at *
    constructor
    · intro hr
      have := (Int.ediv_emod_unique (a := a) (b := b) (r := b - r) (q := -q - 1) hb).2 ⟨by rw [Int.mul_sub, Int.mul_neg]; omega, by omega, by omega⟩
      omega
    · intro hr
      have := (Int.ediv_emod_unique (a := a) (b := b) (r := 0) (q := -q) hb).2 ⟨by rw [Int.mul_neg]; omega, by omega, by omega⟩
      omega
theorem tmod_zero_iff (a : Int) {b : Int} (hb : 0 < b) : Int.tmod a b = 0 ↔ a % b = 0 := by
  have c := cut_floor a hb
  have h1 := Int.emod_nonneg a (Int.ne_of_gt hb)
  have h2 := Int.emod_lt_of_pos a hb
  by_cases h : Int.tmod a b < 0
  · have := (c.1 h).2.1; have := (c.1 h).2.2; omega
  · have := (c.2 h).2; omega
theorem tmod_bd (a : Int) {b : Int} (hb : 0 < b) : -b < Int.tmod a b ∧ Int.tmod a b < b := by
  have c := cut_floor a hb
  have h1 := Int.emod_nonneg a (Int.ne_of_gt hb)
  have h2 := Int.emod_lt_of_pos a hb
  by_cases h : Int.tmod a b < 0
  · have := (c.1 h).2.1; have := (c.1 h).2.2; omega
  · have := (c.2 h).2; omega
theorem ediv_i64 {a b : Int} (ha : I64 a) (hb : 0 < b) : -9223372036854775808 ≤ a / b ∧ a / b ≤ 9223372036854775807 := by
  obtain ⟨h1, h2⟩ := ha
  have e := Int.mul_ediv_add_emod a b
  have g1 := Int.emod_nonneg a (Int.ne_of_gt hb)
  have g2 := Int.emod_lt_of_pos a hb
  constructor
  · rw [Int.le_ediv_iff_mul_le hb]
    have : -9223372036854775808 * b ≤ -9223372036854775808 * 1 := Int.mul_le_mul_of_nonpos_left (by omega) (by omega)
    omega
  · rcases Int.lt_or_le a 0 with h | h
    · have : a / b < 0 := Int.ediv_lt_of_lt_mul hb (by omega)
      omega
    · have := Int.ediv_le_self b h; omega
theorem Ev.at1 {α : Type} {g : Nat → Option α} {r : α} (h : ∀ k, g (k + 1) = some r) : Ev g r :=
  ⟨1, fun k hk => by obtain ⟨m, rfl⟩ : ∃ m, k = m + 1 := ⟨k - 1, by omega⟩; exact h m⟩
theorem Ev.cast {α : Type} {g : Nat → Option α} {r r' : α} (h : Ev g r) (e : r = r') : Ev g r' := e ▸ h
/-- What is told without rounds, and then what hangs on rounds. -/
theorem Ev.bind0 {α β : Type} {g : Option α} {f : Nat → α → Option β} {a : α} {r : β} (h : g = some a) (k : Ev (fun n => f n a) r) : Ev (fun n => g.bind (f n)) r := by
  subst h; exact k
/-- One round, as it stands. -/
theorem Ev.succ {α : Type} {g : Nat → Option α} {r : α} (h : Ev (fun k => g (k + 1)) r) : Ev g r := Ev.step (f := fun k => g (k + 1)) (fun _ => rfl) h
theorem Ev.pos {α : Type} {c : Prop} [Decidable c] {f g : Nat → Option α} {r : α} (h : c) (k : Ev f r) : Ev (fun n => if c then f n else g n) r := by
  simpa only [if_pos h] using k
theorem Ev.neg {α : Type} {c : Prop} [Decidable c] {f g : Nat → Option α} {r : α} (h : ¬ c) (k : Ev g r) : Ev (fun n => if c then f n else g n) r := by
  simpa only [if_neg h] using k
end Go.Proofs.Ytkongoedgngfhaa.Civ
namespace Go.Proofs.Ytkongoedgngfhaa.Civ
set_option linter.unusedVariables false
set_option linter.unusedSimpArgs false
open Go.RowKit Go.Proofs.YtkongoedgngfhaaW.PrintWords Go.Proofs.YtkongoedgngfhaaW.PrintLast Go.Proofs.YtkongoedgngfhaaW.PrintMore Go.Proofs.Ytkongoedgngfhaa.P
theorem u64m (x : Int) : IntKind.u64.wrap x = x % 18446744073709551616 := by simp [IntKind.wrap, IntKind.bits, IntKind.signed]
theorem u64w {x : Int} (h1 : 0 ≤ x) (h2 : x ≤ 18446744073709551615) : IntKind.u64.wrap x = x := by rw [u64m]; omega
theorem wraps_u64 (n : Int) (h₀ : 0 ≤ n) (h₁ : n < 2 ^ 64) : IntKind.u64.wrap n = n := by rw [u64m]; omega
theorem and32 {x : Int} (h1 : 0 ≤ x) (h2 : x ≤ 18446744073709551615) : Go.bits .and .u64 x 4294967295 = x % 4294967296 :=
  bits_mask .u64 64 (by decide) wraps_u64 32 (by decide) x h1 (by omega)
/-- Two parts that do not overlap. -/
theorem orj (i : Nat) (hi : i ≤ 63) {x y : Int} (hx0 : 0 ≤ x) (hx : x % 2 ^ i = 0) (hx1 : x ≤ 18446744073709551615) (hy0 : 0 ≤ y) (hy : y < 2 ^ i) : Go.bits .or .u64 x y = x + y := by
  refine bits_join .u64 64 (by decide) wraps_u64 i x y hx0 hx (by omega) hy0 hy ?_
  have : (2 : Int) ^ i ≤ 2 ^ 63 := by exact_mod_cast Nat.pow_le_pow_right (by decide) hi
  omega
/-- Its six parts. -/
def dig (n : Int) : List Int := [n % 4294967296, n / 4294967296 % 4294967296, n / 4294967296 / 4294967296 % 4294967296, n / 4294967296 / 4294967296 / 4294967296 % 4294967296, n / 4294967296 / 4294967296 / 4294967296 / 4294967296 % 4294967296, n / 4294967296 / 4294967296 / 4294967296 / 4294967296 / 4294967296 % 4294967296]
theorem part_bd (x : Int) : 0 ≤ x % 4294967296 ∧ x % 4294967296 < 4294967296 := by omega
theorem part_eq (x : Int) : x = x % 4294967296 + 4294967296 * (x / 4294967296) := by omega
theorem dig_form {a : Int} (h0 : 0 ≤ a) (h1 : a < 6277101735386680763835789423207666416102355444464034512896) : ∃ a0 a1 a2 a3 a4 a5, dig a = [a0, a1, a2, a3, a4, a5] ∧ ((0 ≤ a0 ∧ a0 < 4294967296) ∧ (0 ≤ a1 ∧ a1 < 4294967296) ∧ (0 ≤ a2 ∧ a2 < 4294967296) ∧ (0 ≤ a3 ∧ a3 < 4294967296) ∧ (0 ≤ a4 ∧ a4 < 4294967296) ∧ (0 ≤ a5 ∧ a5 < 4294967296)) ∧ a = a0 + 4294967296 * (a1 + 4294967296 * (a2 + 4294967296 * (a3 + 4294967296 * (a4 + 4294967296 * (a5))))) := by
  refine ⟨_, _, _, _, _, _, rfl, ⟨part_bd _, part_bd _, part_bd _, part_bd _, part_bd _, part_bd _⟩, ?_⟩
  have e : a / 4294967296 / 4294967296 / 4294967296 / 4294967296 / 4294967296 % 4294967296 = a / 4294967296 / 4294967296 / 4294967296 / 4294967296 / 4294967296 := by
    have h : a / 4294967296 / 4294967296 / 4294967296 / 4294967296 / 4294967296 = a / 1461501637330902918203684832716283019655932542976 := by omega
    omega
  rw [e, ← part_eq, ← part_eq, ← part_eq, ← part_eq, ← part_eq]
theorem part_lo {x y : Int} (h : 0 ≤ x ∧ x < 4294967296) : (x + 4294967296 * y) % 4294967296 = x ∧ (x + 4294967296 * y) / 4294967296 = y := by omega
theorem dig_of {a : Int} {a0 a1 a2 a3 a4 a5 : Int} (h : (0 ≤ a0 ∧ a0 < 4294967296) ∧ (0 ≤ a1 ∧ a1 < 4294967296) ∧ (0 ≤ a2 ∧ a2 < 4294967296) ∧ (0 ≤ a3 ∧ a3 < 4294967296) ∧ (0 ≤ a4 ∧ a4 < 4294967296) ∧ (0 ≤ a5 ∧ a5 < 4294967296)) (e : a = a0 + 4294967296 * (a1 + 4294967296 * (a2 + 4294967296 * (a3 + 4294967296 * (a4 + 4294967296 * (a5)))))) : dig a = [a0, a1, a2, a3, a4, a5] := by
  obtain ⟨h0, h1, h2, h3, h4, h5⟩ := h
  have h6 : a5 % 4294967296 = a5 := by omega
  unfold dig
  rw [e]
  simp only [(part_lo h0).1, (part_lo h0).2, (part_lo h1).1, (part_lo h1).2, (part_lo h2).1, (part_lo h2).2, (part_lo h3).1, (part_lo h3).2, (part_lo h4).1, (part_lo h4).2, h6]
theorem dig_zero : dig 0 = List.replicate 6 0 := rfl
theorem dig_length (a : Int) : (dig a).length = 6 := rfl
theorem hv_bd {a0 a1 a2 a3 a4 a5 : Int} (h : (0 ≤ a0 ∧ a0 < 4294967296) ∧ (0 ≤ a1 ∧ a1 < 4294967296) ∧ (0 ≤ a2 ∧ a2 < 4294967296) ∧ (0 ≤ a3 ∧ a3 < 4294967296) ∧ (0 ≤ a4 ∧ a4 < 4294967296) ∧ (0 ≤ a5 ∧ a5 < 4294967296)) : 0 ≤ a0 + 4294967296 * (a1 + 4294967296 * (a2 + 4294967296 * (a3 + 4294967296 * (a4 + 4294967296 * (a5))))) ∧ a0 + 4294967296 * (a1 + 4294967296 * (a2 + 4294967296 * (a3 + 4294967296 * (a4 + 4294967296 * (a5))))) < 6277101735386680763835789423207666416102355444464034512896 := by
  obtain ⟨h0, h1, h2, h3, h4, h5⟩ := h
  have g4 : 0 ≤ a4 + 4294967296 * a5 ∧ a4 + 4294967296 * a5 < 18446744073709551616 := by omega
  generalize a4 + 4294967296 * a5 = x4 at *
  have g3 : 0 ≤ a3 + 4294967296 * x4 ∧ a3 + 4294967296 * x4 < 79228162514264337593543950336 := by omega
  generalize a3 + 4294967296 * x4 = x3 at *
  have g2 : 0 ≤ a2 + 4294967296 * x3 ∧ a2 + 4294967296 * x3 < 340282366920938463463374607431768211456 := by omega
  generalize a2 + 4294967296 * x3 = x2 at *
  have g1 : 0 ≤ a1 + 4294967296 * x2 ∧ a1 + 4294967296 * x2 < 1461501637330902918203684832716283019655932542976 := by omega
  generalize a1 + 4294967296 * x2 = x1 at *
  omega
theorem mod_of {x D c : Int} (h : x = D + 6277101735386680763835789423207666416102355444464034512896 * c) (h0 : 0 ≤ D ∧ D < 6277101735386680763835789423207666416102355444464034512896) : x % 6277101735386680763835789423207666416102355444464034512896 = D := by omega
theorem add_next (k : Nat) {x0 x1 x5 : List Int} {c i u v : Int} (h0 : 0 ≤ i) (h6 : i < 6) (l0 : x0.length = 6) (l1 : x1.length = 6) (l5 : x5.length = 6) (hc : 0 ≤ c ∧ c ≤ 1)
    (hu : rd x0 i = u) (hv : rd x1 i = v) (ub : 0 ≤ u ∧ u < 4294967296) (vb : 0 ≤ v ∧ v < 4294967296) :
    ∃ d c', computusref01_add.l0 (k + 1) x0 x1 x5 c i = computusref01_add.l0 k x0 x1 (x5.set i.toNat d) c' (i + 1) ∧ (0 ≤ d ∧ d < 4294967296) ∧ (0 ≤ c' ∧ c' ≤ 1) ∧ c + u + v = d + 4294967296 * c' := by
  refine ⟨(c + u + v) % 4294967296, (c + u + v) / 4294967296, ?_, part_bd _, by omega, part_eq _⟩
  simp only [computusref01_add.l0]
  rw [if_pos h6, if_pos h0, l0, l1, l5, if_pos (by omega), if_pos (by omega), if_pos (by omega), hu, hv, u64w (x := c + u) (by omega) (by omega), u64w (x := c + u + v) (by omega) (by omega), and32 (by omega) (by omega), w64 (by omega) (by omega)]
theorem add_key {a0 a1 a2 a3 a4 a5 b0 b1 b2 b3 b4 b5 d0 d1 d2 d3 d4 d5 c1 c2 c3 c4 c5 c6 : Int} (h0 : 0 + a0 + b0 = d0 + 4294967296 * c1) (h1 : c1 + a1 + b1 = d1 + 4294967296 * c2) (h2 : c2 + a2 + b2 = d2 + 4294967296 * c3) (h3 : c3 + a3 + b3 = d3 + 4294967296 * c4) (h4 : c4 + a4 + b4 = d4 + 4294967296 * c5) (h5 : c5 + a5 + b5 = d5 + 4294967296 * c6) : (a0 + 4294967296 * (a1 + 4294967296 * (a2 + 4294967296 * (a3 + 4294967296 * (a4 + 4294967296 * (a5)))))) + (b0 + 4294967296 * (b1 + 4294967296 * (b2 + 4294967296 * (b3 + 4294967296 * (b4 + 4294967296 * (b5)))))) = (d0 + 4294967296 * (d1 + 4294967296 * (d2 + 4294967296 * (d3 + 4294967296 * (d4 + 4294967296 * (d5)))))) + 6277101735386680763835789423207666416102355444464034512896 * c6 := by omega
theorem add_dig (k : Nat) {a b : Int} (ha : 0 ≤ a) (ha1 : a < 6277101735386680763835789423207666416102355444464034512896) (hb : 0 ≤ b) (hb1 : b < 6277101735386680763835789423207666416102355444464034512896) : computusref01_add.f (k + 7) (dig a) (dig b) = some (dig ((a + b) % 6277101735386680763835789423207666416102355444464034512896)) := by
  obtain ⟨a0, a1, a2, a3, a4, a5, ea, ⟨A0, A1, A2, A3, A4, A5⟩, va⟩ := dig_form ha ha1
  obtain ⟨b0, b1, b2, b3, b4, b5, eb, ⟨B0, B1, B2, B3, B4, B5⟩, vb⟩ := dig_form hb hb1
  clear ha ha1 hb hb1
  rw [ea, eb]
  unfold computusref01_add.f
  rw [if_pos (by decide), show (List.replicate 6 0 : List Int) = [0, 0, 0, 0, 0, 0] from rfl]
  have C0 : (0 : Int) ≤ 0 ∧ (0 : Int) ≤ 1 := by decide
  obtain ⟨d0, c1, e0, D0, C1, E0⟩ := add_next (k + 6) (x0 := [a0, a1, a2, a3, a4, a5]) (x1 := [b0, b1, b2, b3, b4, b5]) (x5 := [0, 0, 0, 0, 0, 0]) (c := 0) (i := 0) (u := a0) (v := b0) (by decide) (by decide) rfl rfl rfl C0 rfl rfl A0 B0
  refine e0.trans ?_
  show computusref01_add.l0 (k + 6) [a0, a1, a2, a3, a4, a5] [b0, b1, b2, b3, b4, b5] [d0, 0, 0, 0, 0, 0] c1 1 = _
  obtain ⟨d1, c2, e1, D1, C2, E1⟩ := add_next (k + 5) (x0 := [a0, a1, a2, a3, a4, a5]) (x1 := [b0, b1, b2, b3, b4, b5]) (x5 := [d0, 0, 0, 0, 0, 0]) (c := c1) (i := 1) (u := a1) (v := b1) (by decide) (by decide) rfl rfl rfl C1 rfl rfl A1 B1
  refine e1.trans ?_
  show computusref01_add.l0 (k + 5) [a0, a1, a2, a3, a4, a5] [b0, b1, b2, b3, b4, b5] [d0, d1, 0, 0, 0, 0] c2 2 = _
  obtain ⟨d2, c3, e2, D2, C3, E2⟩ := add_next (k + 4) (x0 := [a0, a1, a2, a3, a4, a5]) (x1 := [b0, b1, b2, b3, b4, b5]) (x5 := [d0, d1, 0, 0, 0, 0]) (c := c2) (i := 2) (u := a2) (v := b2) (by decide) (by decide) rfl rfl rfl C2 rfl rfl A2 B2
  refine e2.trans ?_
  show computusref01_add.l0 (k + 4) [a0, a1, a2, a3, a4, a5] [b0, b1, b2, b3, b4, b5] [d0, d1, d2, 0, 0, 0] c3 3 = _
  obtain ⟨d3, c4, e3, D3, C4, E3⟩ := add_next (k + 3) (x0 := [a0, a1, a2, a3, a4, a5]) (x1 := [b0, b1, b2, b3, b4, b5]) (x5 := [d0, d1, d2, 0, 0, 0]) (c := c3) (i := 3) (u := a3) (v := b3) (by decide) (by decide) rfl rfl rfl C3 rfl rfl A3 B3
  refine e3.trans ?_
  show computusref01_add.l0 (k + 3) [a0, a1, a2, a3, a4, a5] [b0, b1, b2, b3, b4, b5] [d0, d1, d2, d3, 0, 0] c4 4 = _
  obtain ⟨d4, c5, e4, D4, C5, E4⟩ := add_next (k + 2) (x0 := [a0, a1, a2, a3, a4, a5]) (x1 := [b0, b1, b2, b3, b4, b5]) (x5 := [d0, d1, d2, d3, 0, 0]) (c := c4) (i := 4) (u := a4) (v := b4) (by decide) (by decide) rfl rfl rfl C4 rfl rfl A4 B4
  refine e4.trans ?_
  show computusref01_add.l0 (k + 2) [a0, a1, a2, a3, a4, a5] [b0, b1, b2, b3, b4, b5] [d0, d1, d2, d3, d4, 0] c5 5 = _
  obtain ⟨d5, c6, e5, D5, C6, E5⟩ := add_next (k + 1) (x0 := [a0, a1, a2, a3, a4, a5]) (x1 := [b0, b1, b2, b3, b4, b5]) (x5 := [d0, d1, d2, d3, d4, 0]) (c := c5) (i := 5) (u := a5) (v := b5) (by decide) (by decide) rfl rfl rfl C5 rfl rfl A5 B5
  refine e5.trans ?_
  show computusref01_add.l0 (k + 1) [a0, a1, a2, a3, a4, a5] [b0, b1, b2, b3, b4, b5] [d0, d1, d2, d3, d4, d5] c6 6 = _
  simp only [computusref01_add.l0]
  have key := add_key E0 E1 E2 E3 E4 E5
  rw [← va, ← vb] at key
  rw [if_neg (by decide), dig_of ⟨D0, D1, D2, D3, D4, D5⟩ (mod_of key (hv_bd ⟨D0, D1, D2, D3, D4, D5⟩))]
theorem add_ev {a b : Int} (ha : 0 ≤ a) (hb : 0 ≤ b) (h : a + b < 6277101735386680763835789423207666416102355444464034512896) : Ev (fun k => computusref01_add.f k (dig a) (dig b)) (dig (a + b)) := by
  have e := Ev.of (computusref01_add.mono (dig a) (dig b)) (add_dig 0 ha (by omega) hb (by omega))
  rwa [show (a + b) % 6277101735386680763835789423207666416102355444464034512896 = a + b by omega] at e
theorem less_next (k : Nat) {x0 x1 x5 : List Int} {c i u v : Int} (h0 : 0 ≤ i) (h6 : i < 6) (l0 : x0.length = 6) (l1 : x1.length = 6) (l5 : x5.length = 6) (hc : 0 ≤ c ∧ c ≤ 1)
    (hu : rd x0 i = u) (hv : rd x1 i = v) (ub : 0 ≤ u ∧ u < 4294967296) (vb : 0 ≤ v ∧ v < 4294967296) :
    ∃ d c', computusref01_less.l0 (k + 1) x0 x1 x5 c i = computusref01_less.l0 k x0 x1 (x5.set i.toNat d) c' (i + 1) ∧ (0 ≤ d ∧ d < 4294967296) ∧ (0 ≤ c' ∧ c' ≤ 1) ∧ u - v - c = d - 4294967296 * c' := by
  refine ⟨(u + 4294967296 - v - c) % 4294967296, 1 - (u + 4294967296 - v - c) / 4294967296, ?_, part_bd _, by omega, by omega⟩
  simp only [computusref01_less.l0]
  rw [if_pos h6, if_pos h0, l0, l1, l5, if_pos (by omega), if_pos (by omega), if_pos (by omega), hu, hv, u64w (x := u + 4294967296) (by omega) (by omega), u64w (x := u + 4294967296 - v) (by omega) (by omega), u64w (x := u + 4294967296 - v - c) (by omega) (by omega), and32 (by omega) (by omega), u64w (x := 1 - (u + 4294967296 - v - c) / 4294967296) (by omega) (by omega), w64 (by omega) (by omega)]
theorem less_key {a0 a1 a2 a3 a4 a5 b0 b1 b2 b3 b4 b5 d0 d1 d2 d3 d4 d5 c1 c2 c3 c4 c5 c6 : Int} (h0 : a0 - b0 - 0 = d0 - 4294967296 * c1) (h1 : a1 - b1 - c1 = d1 - 4294967296 * c2) (h2 : a2 - b2 - c2 = d2 - 4294967296 * c3) (h3 : a3 - b3 - c3 = d3 - 4294967296 * c4) (h4 : a4 - b4 - c4 = d4 - 4294967296 * c5) (h5 : a5 - b5 - c5 = d5 - 4294967296 * c6) : (a0 + 4294967296 * (a1 + 4294967296 * (a2 + 4294967296 * (a3 + 4294967296 * (a4 + 4294967296 * (a5)))))) - (b0 + 4294967296 * (b1 + 4294967296 * (b2 + 4294967296 * (b3 + 4294967296 * (b4 + 4294967296 * (b5)))))) = (d0 + 4294967296 * (d1 + 4294967296 * (d2 + 4294967296 * (d3 + 4294967296 * (d4 + 4294967296 * (d5)))))) - 6277101735386680763835789423207666416102355444464034512896 * c6 := by omega
theorem sub_of {x D c : Int} (h : x = D - 6277101735386680763835789423207666416102355444464034512896 * c) (h0 : 0 ≤ D ∧ D < 6277101735386680763835789423207666416102355444464034512896) (hx : 0 ≤ x) (hx1 : x < 6277101735386680763835789423207666416102355444464034512896) : x = D := by omega
theorem less_dig (k : Nat) {a b : Int} (ha1 : a < 6277101735386680763835789423207666416102355444464034512896) (hb : 0 ≤ b) (hab : b ≤ a) : computusref01_less.f (k + 7) (dig a) (dig b) = some (dig (a - b)) := by
  have h1 : 0 ≤ a - b := by omega
  have h2 : a - b < 6277101735386680763835789423207666416102355444464034512896 := by omega
  obtain ⟨a0, a1, a2, a3, a4, a5, ea, ⟨A0, A1, A2, A3, A4, A5⟩, va⟩ := dig_form (a := a) (by omega) ha1
  obtain ⟨b0, b1, b2, b3, b4, b5, eb, ⟨B0, B1, B2, B3, B4, B5⟩, vb⟩ := dig_form hb (by omega)
  clear ha1 hb hab
  rw [ea, eb]
  unfold computusref01_less.f
  rw [if_pos (by decide), show (List.replicate 6 0 : List Int) = [0, 0, 0, 0, 0, 0] from rfl]
  have C0 : (0 : Int) ≤ 0 ∧ (0 : Int) ≤ 1 := by decide
  obtain ⟨d0, c1, e0, D0, C1, E0⟩ := less_next (k + 6) (x0 := [a0, a1, a2, a3, a4, a5]) (x1 := [b0, b1, b2, b3, b4, b5]) (x5 := [0, 0, 0, 0, 0, 0]) (c := 0) (i := 0) (u := a0) (v := b0) (by decide) (by decide) rfl rfl rfl C0 rfl rfl A0 B0
  refine e0.trans ?_
  show computusref01_less.l0 (k + 6) [a0, a1, a2, a3, a4, a5] [b0, b1, b2, b3, b4, b5] [d0, 0, 0, 0, 0, 0] c1 1 = _
  obtain ⟨d1, c2, e1, D1, C2, E1⟩ := less_next (k + 5) (x0 := [a0, a1, a2, a3, a4, a5]) (x1 := [b0, b1, b2, b3, b4, b5]) (x5 := [d0, 0, 0, 0, 0, 0]) (c := c1) (i := 1) (u := a1) (v := b1) (by decide) (by decide) rfl rfl rfl C1 rfl rfl A1 B1
  refine e1.trans ?_
  show computusref01_less.l0 (k + 5) [a0, a1, a2, a3, a4, a5] [b0, b1, b2, b3, b4, b5] [d0, d1, 0, 0, 0, 0] c2 2 = _
  obtain ⟨d2, c3, e2, D2, C3, E2⟩ := less_next (k + 4) (x0 := [a0, a1, a2, a3, a4, a5]) (x1 := [b0, b1, b2, b3, b4, b5]) (x5 := [d0, d1, 0, 0, 0, 0]) (c := c2) (i := 2) (u := a2) (v := b2) (by decide) (by decide) rfl rfl rfl C2 rfl rfl A2 B2
  refine e2.trans ?_
  show computusref01_less.l0 (k + 4) [a0, a1, a2, a3, a4, a5] [b0, b1, b2, b3, b4, b5] [d0, d1, d2, 0, 0, 0] c3 3 = _
  obtain ⟨d3, c4, e3, D3, C4, E3⟩ := less_next (k + 3) (x0 := [a0, a1, a2, a3, a4, a5]) (x1 := [b0, b1, b2, b3, b4, b5]) (x5 := [d0, d1, d2, 0, 0, 0]) (c := c3) (i := 3) (u := a3) (v := b3) (by decide) (by decide) rfl rfl rfl C3 rfl rfl A3 B3
  refine e3.trans ?_
  show computusref01_less.l0 (k + 3) [a0, a1, a2, a3, a4, a5] [b0, b1, b2, b3, b4, b5] [d0, d1, d2, d3, 0, 0] c4 4 = _
  obtain ⟨d4, c5, e4, D4, C5, E4⟩ := less_next (k + 2) (x0 := [a0, a1, a2, a3, a4, a5]) (x1 := [b0, b1, b2, b3, b4, b5]) (x5 := [d0, d1, d2, d3, 0, 0]) (c := c4) (i := 4) (u := a4) (v := b4) (by decide) (by decide) rfl rfl rfl C4 rfl rfl A4 B4
  refine e4.trans ?_
  show computusref01_less.l0 (k + 2) [a0, a1, a2, a3, a4, a5] [b0, b1, b2, b3, b4, b5] [d0, d1, d2, d3, d4, 0] c5 5 = _
  obtain ⟨d5, c6, e5, D5, C6, E5⟩ := less_next (k + 1) (x0 := [a0, a1, a2, a3, a4, a5]) (x1 := [b0, b1, b2, b3, b4, b5]) (x5 := [d0, d1, d2, d3, d4, 0]) (c := c5) (i := 5) (u := a5) (v := b5) (by decide) (by decide) rfl rfl rfl C5 rfl rfl A5 B5
  refine e5.trans ?_
  show computusref01_less.l0 (k + 1) [a0, a1, a2, a3, a4, a5] [b0, b1, b2, b3, b4, b5] [d0, d1, d2, d3, d4, d5] c6 6 = _
  simp only [computusref01_less.l0]
  have key := less_key E0 E1 E2 E3 E4 E5
  rw [← va, ← vb] at key
  rw [if_neg (by decide), dig_of ⟨D0, D1, D2, D3, D4, D5⟩ (sub_of key (hv_bd ⟨D0, D1, D2, D3, D4, D5⟩) h1 h2)]
theorem less_ev {a b : Int} (ha1 : a < 6277101735386680763835789423207666416102355444464034512896) (hb : 0 ≤ b) (hab : b ≤ a) : Ev (fun k => computusref01_less.f k (dig a) (dig b)) (dig (a - b)) :=
  Ev.of (computusref01_less.mono (dig a) (dig b)) (less_dig 0 ha1 hb hab)
def sgn (a b : Int) : Int := if a < b then -1 else if b < a then 1 else 0
theorem sgn_lt {a b : Int} (h : a < b) : sgn a b = -1 := if_pos h
theorem sgn_gt {a b : Int} (h : b < a) : sgn a b = 1 := by unfold sgn; rw [if_neg (by omega), if_pos h]
theorem sgn_eq {a b : Int} (h : a = b) : sgn a b = 0 := by unfold sgn; rw [if_neg (by omega), if_neg (by omega)]
theorem lt_in {x y u v : Int} (hx : 0 ≤ x ∧ x < 4294967296) (hy : 0 ≤ y ∧ y < 4294967296) (h : u < v) : x + 4294967296 * u < y + 4294967296 * v := by omega
theorem lt_at {x y u v : Int} (h : x < y) (e : u = v) : x + 4294967296 * u < y + 4294967296 * v := by omega
theorem eq_in {x y u v : Int} (h : x = y) (e : u = v) : x + 4294967296 * u = y + 4294967296 * v := by omega
theorem eq_of_not {x y : Int} (h : ¬ x < y) (g : ¬ x > y) : x = y := by omega
theorem cmp_step (k : Nat) {x0 x1 : List Int} {i u v : Int} (h0 : 0 ≤ i) (h6 : i < 6) (l0 : x0.length = 6) (l1 : x1.length = 6) (hu : rd x0 i = u) (hv : rd x1 i = v) :
    computusref01_cmp.l0 (k + 1) x0 x1 i = if u < v then some (-1) else if u > v then some 1 else computusref01_cmp.l0 k x0 x1 (i - 1) := by
  simp only [computusref01_cmp.l0]
  rw [if_pos (by omega), if_pos h0, l0, l1, if_pos (by omega), if_pos (by omega), hu, hv, w64 (by omega) (by omega)]
theorem cmp_dig (k : Nat) {a b : Int} (ha : 0 ≤ a) (ha1 : a < 6277101735386680763835789423207666416102355444464034512896) (hb : 0 ≤ b) (hb1 : b < 6277101735386680763835789423207666416102355444464034512896) : computusref01_cmp.f (k + 7) (dig a) (dig b) = some (sgn a b) := by
  obtain ⟨a0, a1, a2, a3, a4, a5, ea, ⟨A0, A1, A2, A3, A4, A5⟩, va⟩ := dig_form ha ha1
  obtain ⟨b0, b1, b2, b3, b4, b5, eb, ⟨B0, B1, B2, B3, B4, B5⟩, vb⟩ := dig_form hb hb1
  clear ha ha1 hb hb1
  rw [ea, eb]
  unfold computusref01_cmp.f
  rw [cmp_step (k + 6) (i := 5) (u := a5) (v := b5) (by decide) (by decide) rfl rfl rfl rfl]
  by_cases g5 : a5 < b5
  · rw [if_pos g5, va, vb, sgn_lt (lt_in A0 B0 (lt_in A1 B1 (lt_in A2 B2 (lt_in A3 B3 (lt_in A4 B4 (g5))))))]
  rw [if_neg g5]
  by_cases f5 : a5 > b5
  · rw [if_pos f5, va, vb, sgn_gt (lt_in B0 A0 (lt_in B1 A1 (lt_in B2 A2 (lt_in B3 A3 (lt_in B4 A4 (f5))))))]
  rw [if_neg f5]
  have Q5 := eq_of_not g5 f5
  show computusref01_cmp.l0 (k + 6) [a0, a1, a2, a3, a4, a5] [b0, b1, b2, b3, b4, b5] 4 = _
  rw [cmp_step (k + 5) (i := 4) (u := a4) (v := b4) (by decide) (by decide) rfl rfl rfl rfl]
  by_cases g4 : a4 < b4
  · rw [if_pos g4, va, vb, sgn_lt (lt_in A0 B0 (lt_in A1 B1 (lt_in A2 B2 (lt_in A3 B3 (lt_at g4 Q5)))))]
  rw [if_neg g4]
  by_cases f4 : a4 > b4
  · rw [if_pos f4, va, vb, sgn_gt (lt_in B0 A0 (lt_in B1 A1 (lt_in B2 A2 (lt_in B3 A3 (lt_at f4 Q5.symm)))))]
  rw [if_neg f4]
  have Q4 := eq_in (eq_of_not g4 f4) Q5
  show computusref01_cmp.l0 (k + 5) [a0, a1, a2, a3, a4, a5] [b0, b1, b2, b3, b4, b5] 3 = _
  rw [cmp_step (k + 4) (i := 3) (u := a3) (v := b3) (by decide) (by decide) rfl rfl rfl rfl]
  by_cases g3 : a3 < b3
  · rw [if_pos g3, va, vb, sgn_lt (lt_in A0 B0 (lt_in A1 B1 (lt_in A2 B2 (lt_at g3 Q4))))]
  rw [if_neg g3]
  by_cases f3 : a3 > b3
  · rw [if_pos f3, va, vb, sgn_gt (lt_in B0 A0 (lt_in B1 A1 (lt_in B2 A2 (lt_at f3 Q4.symm))))]
  rw [if_neg f3]
  have Q3 := eq_in (eq_of_not g3 f3) Q4
  show computusref01_cmp.l0 (k + 4) [a0, a1, a2, a3, a4, a5] [b0, b1, b2, b3, b4, b5] 2 = _
  rw [cmp_step (k + 3) (i := 2) (u := a2) (v := b2) (by decide) (by decide) rfl rfl rfl rfl]
  by_cases g2 : a2 < b2
  · rw [if_pos g2, va, vb, sgn_lt (lt_in A0 B0 (lt_in A1 B1 (lt_at g2 Q3)))]
  rw [if_neg g2]
  by_cases f2 : a2 > b2
  · rw [if_pos f2, va, vb, sgn_gt (lt_in B0 A0 (lt_in B1 A1 (lt_at f2 Q3.symm)))]
  rw [if_neg f2]
  have Q2 := eq_in (eq_of_not g2 f2) Q3
  show computusref01_cmp.l0 (k + 3) [a0, a1, a2, a3, a4, a5] [b0, b1, b2, b3, b4, b5] 1 = _
  rw [cmp_step (k + 2) (i := 1) (u := a1) (v := b1) (by decide) (by decide) rfl rfl rfl rfl]
  by_cases g1 : a1 < b1
  · rw [if_pos g1, va, vb, sgn_lt (lt_in A0 B0 (lt_at g1 Q2))]
  rw [if_neg g1]
  by_cases f1 : a1 > b1
  · rw [if_pos f1, va, vb, sgn_gt (lt_in B0 A0 (lt_at f1 Q2.symm))]
  rw [if_neg f1]
  have Q1 := eq_in (eq_of_not g1 f1) Q2
  show computusref01_cmp.l0 (k + 2) [a0, a1, a2, a3, a4, a5] [b0, b1, b2, b3, b4, b5] 0 = _
  rw [cmp_step (k + 1) (i := 0) (u := a0) (v := b0) (by decide) (by decide) rfl rfl rfl rfl]
  by_cases g0 : a0 < b0
  · rw [if_pos g0, va, vb, sgn_lt (lt_at g0 Q1)]
  rw [if_neg g0]
  by_cases f0 : a0 > b0
  · rw [if_pos f0, va, vb, sgn_gt (lt_at f0 Q1.symm)]
  rw [if_neg f0]
  have Q0 := eq_in (eq_of_not g0 f0) Q1
  show computusref01_cmp.l0 (k + 1) [a0, a1, a2, a3, a4, a5] [b0, b1, b2, b3, b4, b5] (-1) = _
  simp only [computusref01_cmp.l0]
  rw [if_neg (by decide), va, vb, sgn_eq Q0]
theorem cmp_ev {a b : Int} (ha : 0 ≤ a) (ha1 : a < 6277101735386680763835789423207666416102355444464034512896) (hb : 0 ≤ b) (hb1 : b < 6277101735386680763835789423207666416102355444464034512896) : Ev (fun k => computusref01_cmp.f k (dig a) (dig b)) (sgn a b) :=
  Ev.of (computusref01_cmp.mono (dig a) (dig b)) (cmp_dig 0 ha ha1 hb hb1)
theorem zero_ev {a : Int} (ha : 0 ≤ a) (ha1 : a < 6277101735386680763835789423207666416102355444464034512896) : Ev (fun k => computusref01_zero.f k (dig a)) (decide (a = 0)) := by
  unfold computusref01_zero.f
  simp only [if_pos (show (6 : Int) ≤ 35184372088832 by omega), ← dig_zero]
  refine Ev.bind (cmp_ev ha ha1 (by omega) (by omega)) ?_
  have e : (sgn a 0 == 0) = decide (a = 0) := by
    unfold sgn
    by_cases h : a = 0
    · subst h; rfl
    · rw [if_neg (by omega), if_pos (by omega), decide_eq_false h]; rfl
  rw [e]; exact Ev.now _
end Go.Proofs.Ytkongoedgngfhaa.Civ
namespace Go.Proofs.Ytkongoedgngfhaa.Civ
set_option linter.unusedVariables false
set_option linter.unusedSimpArgs false
open Go.RowKit Go.Proofs.YtkongoedgngfhaaW.PrintWords Go.Proofs.YtkongoedgngfhaaW.PrintLast Go.Proofs.YtkongoedgngfhaaW.PrintMore Go.Proofs.Ytkongoedgngfhaa.P
instance (x : Int) : Decidable (I64 x) := inferInstanceAs (Decidable (_ ∧ _))
/-- A number, if it is one of 64 bits; else out of range. -/
def out (z : Int) : Int × Int := if I64 z then (z, 0) else (0, 10)
theorem out_in {z : Int} (h : I64 z) : out z = (z, 0) := if_pos h
theorem out_no {z : Int} (h : ¬ I64 z) : out z = (0, 10) := if_neg h
/-- Without a sign. -/
def ab (a : Int) : Int := if a < 0 then -a else a
theorem ab_bd {a : Int} (h : I64 a) : 0 ≤ ab a ∧ ab a ≤ 9223372036854775808 := by unfold ab; unfold I64 at h; split <;> omega
theorem ab_pos {a : Int} (h : 0 ≤ a) : ab a = a := by unfold ab; rw [if_neg (by omega)]
theorem ab_neg {a : Int} (h : a < 0) : ab a = -a := by unfold ab; rw [if_pos h]
theorem size_eq (a : Int) (ha : I64 a) : num_size.f a = some (ab a) := by
  unfold num_size.f ab
  unfold I64 at ha
  by_cases h : a < 0
  · rw [if_pos h, if_pos h, u64m, u64m]; congr 1; omega
  · rw [if_neg h, if_neg h, u64m]; congr 1; omega
theorem mul_bd {x y a b : Int} (hx : 0 ≤ x) (hxa : x ≤ a) (hy : 0 ≤ y) (hyb : y ≤ b) : 0 ≤ x * y ∧ x * y ≤ a * b :=
  ⟨Int.mul_nonneg hx hy, Int.mul_le_mul hxa hyb hy (by omega)⟩
theorem mul64_eq (x y : Int) (hx : 0 ≤ x) (hx1 : x ≤ 18446744073709551615) (hy : 0 ≤ y) (hy1 : y ≤ 18446744073709551615) :
    bits_Mul64.f x y = some (x * y / 18446744073709551616, x * y % 18446744073709551616) := by
  unfold bits_Mul64.f
  rw [and32 hx hx1, and32 hy hy1]
  have ex : x = x / 4294967296 * 4294967296 + x % 4294967296 := by omega
  have ey : y = y / 4294967296 * 4294967296 + y % 4294967296 := by omega
  have bx1 : 0 ≤ x / 4294967296 ∧ x / 4294967296 ≤ 4294967295 := by omega
  have bx0 : 0 ≤ x % 4294967296 ∧ x % 4294967296 ≤ 4294967295 := by omega
  have by1 : 0 ≤ y / 4294967296 ∧ y / 4294967296 ≤ 4294967295 := by omega
  have by0 : 0 ≤ y % 4294967296 ∧ y % 4294967296 ≤ 4294967295 := by omega
  have p11 := mul_bd bx1.1 bx1.2 by1.1 by1.2
  have p10 := mul_bd bx1.1 bx1.2 by0.1 by0.2
  have p01 := mul_bd bx0.1 bx0.2 by1.1 by1.2
  have p00 := mul_bd bx0.1 bx0.2 by0.1 by0.2
  have e : x * y = x / 4294967296 * (y / 4294967296) * 18446744073709551616 + (x / 4294967296 * (y % 4294967296) + x % 4294967296 * (y / 4294967296)) * 4294967296 + x % 4294967296 * (y % 4294967296) := by
    conv => lhs; rw [ex, ey]
    simp only [Int.mul_add, Int.add_mul]
    have c1 : x / 4294967296 * 4294967296 * (y / 4294967296 * 4294967296) = x / 4294967296 * (y / 4294967296) * 18446744073709551616 := by
      rw [Int.mul_assoc, Int.mul_left_comm 4294967296, ← Int.mul_assoc (x / 4294967296)]; rfl
    have c2 : x % 4294967296 * (y / 4294967296 * 4294967296) = x % 4294967296 * (y / 4294967296) * 4294967296 := by rw [Int.mul_assoc]
    have c3 : x / 4294967296 * 4294967296 * (y % 4294967296) = x / 4294967296 * (y % 4294967296) * 4294967296 := by rw [Int.mul_assoc, Int.mul_comm 4294967296, ← Int.mul_assoc]
    rw [c1, c2, c3]; omega
  generalize x * y = P at *
  generalize x / 4294967296 * (y / 4294967296) = P11 at *
  generalize x / 4294967296 * (y % 4294967296) = P10 at *
  generalize x % 4294967296 * (y / 4294967296) = P01 at *
  generalize x % 4294967296 * (y % 4294967296) = P00 at *
  clear ex ey bx1 bx0 by1 by0 hx hx1 hy hy1
  rw [u64w (x := P11) (by omega) (by omega), u64w (x := P10) (by omega) (by omega), u64w (x := P00) (by omega) (by omega), u64w (x := P01) (by omega) (by omega)]
  have t : 0 ≤ P00 / 4294967296 ∧ P00 / 4294967296 ≤ 4294967295 := by omega
  rw [u64w (x := P10 + P00 / 4294967296) (by omega) (by omega), and32 (by omega) (by omega)]
  obtain ⟨T, hT⟩ : ∃ T, P10 + P00 / 4294967296 = T := ⟨_, rfl⟩
  rw [hT]
  rw [u64w (x := T % 4294967296 + P01) (by omega) (by omega), u64w (x := P11 + T / 4294967296) (by omega) (by omega), u64w (x := P11 + T / 4294967296 + (T % 4294967296 + P01) / 4294967296) (by omega) (by omega), u64m]
  congr 2
  omega
theorem product_eq (a b : Int) (ha : I64 a) (hb : I64 b) : num_product.f a b = some (ab a * ab b / 18446744073709551616, ab a * ab b % 18446744073709551616) := by
  have h1 := ab_bd ha
  have h2 := ab_bd hb
  unfold num_product.f
  rw [size_eq a ha, size_eq b hb]
  simp only [Option.bind_some]
  rw [mul64_eq _ _ h1.1 (by omega) h2.1 (by omega)]
  rfl
theorem signed_eq (k : Nat) (neg : Bool) (hi lo : Int) (h0 : 0 ≤ hi) (h1 : 0 ≤ lo) (h2 : lo ≤ 18446744073709551615) :
    num_signed.f (k + 1) neg hi lo = some (out (if neg = true then -(hi * 18446744073709551616 + lo) else hi * 18446744073709551616 + lo)) := by
  unfold num_signed.f
  by_cases hh : hi = 0
  · subst hh
    rw [if_pos rfl]
    cases neg with
    | true =>
      simp only [if_true, num_signed.j0]
      by_cases g : lo ≤ 9223372036854775808
      · rw [decide_eq_true g, if_pos rfl, out_in (by unfold I64; omega), u64m]
        congr 2; unfold wrap64; omega
      · rw [decide_eq_false g, if_neg (by simp), out_no (by unfold I64; omega)]
    | false =>
      simp only [num_signed.j0, Bool.false_eq_true, if_false]
      by_cases g : lo > 9223372036854775807
      · rw [if_pos g, out_no (by unfold I64; omega)]
      · rw [if_neg g, out_in (by unfold I64; omega), w64 (by omega) (by omega)]
        congr 2; omega
  · rw [if_neg hh]
    cases neg with
    | true => rw [if_pos rfl, out_no (by unfold I64; omega)]
    | false => rw [if_neg (by simp), out_no (by unfold I64; omega)]
/-- The sign of a product. -/
theorem mul_sign (a b : Int) : (if ((decide (a < 0)) != (decide (b < 0))) = true then -(ab a * ab b) else ab a * ab b) = a * b := by
  by_cases h1 : a < 0
  · by_cases h2 : b < 0
    · rw [decide_eq_true h1, decide_eq_true h2, if_neg (by simp), ab_neg h1, ab_neg h2, Int.neg_mul_neg]
    · rw [decide_eq_true h1, decide_eq_false h2, if_pos (by simp), ab_neg h1, ab_pos (by omega), Int.neg_mul, Int.neg_neg]
  · by_cases h2 : b < 0
    · rw [decide_eq_false h1, decide_eq_true h2, if_pos (by simp), ab_pos (by omega), ab_neg h2, Int.mul_neg, Int.neg_neg]
    · rw [decide_eq_false h1, decide_eq_false h2, if_neg (by simp), ab_pos (by omega), ab_pos (by omega)]
theorem mul_eq (k : Nat) (a b : Int) (ha : I64 a) (hb : I64 b) : num_Mul.f (k + 1) a b = some (out (a * b)) := by
  have h1 := ab_bd ha
  have h2 := ab_bd hb
  have h3 := mul_bd h1.1 h1.2 h2.1 h2.2
  unfold num_Mul.f
  rw [product_eq a b ha hb]
  simp only [Option.bind_some]
  rw [signed_eq _ _ _ _ (by omega) (by omega) (by omega)]
  simp only [Option.bind_some]
  rw [show ab a * ab b / 18446744073709551616 * 18446744073709551616 + ab a * ab b % 18446744073709551616 = ab a * ab b by omega, mul_sign]
/-- How often, the greatest whole number that is not above; what is left. -/
def fl (a b : Int) : Int := if b < 0 then (-a) / (-b) else a / b
def md (a b : Int) : Int := if b < 0 then -((-a) % (-b)) else a % b
theorem fl_unique {a b q r : Int} (h : a = b * q + r) (hr : (0 ≤ r ∧ r < b) ∨ (b < r ∧ r ≤ 0)) : fl a b = q ∧ md a b = r := by
  unfold fl md
  by_cases hb : b < 0
  · rw [if_pos hb, if_pos hb]
    have := (Int.ediv_emod_unique (a := -a) (b := -b) (r := -r) (q := q) (by omega)).2 ⟨by rw [Int.neg_mul]; omega, by omega, by omega⟩
    omega
  · rw [if_neg hb, if_neg hb]
    have := (Int.ediv_emod_unique (a := a) (b := b) (r := r) (q := q) (by omega)).2 ⟨by omega, by omega, by omega⟩
    omega
theorem div64_small (k : Nat) (lo y : Int) (h0 : 0 < y) (h1 : 0 ≤ lo) (h2 : lo ≤ 18446744073709551615) : bits_Div64.f k 0 lo y = some (lo / y, lo % y) := by
  unfold bits_Div64.f
  rw [if_neg (by omega), if_neg (by omega), if_pos rfl, td_pos h1, tm_pos h1]
  have := Int.ediv_le_self y h1
  have := Int.ediv_nonneg h1 (b := y) (by omega)
  rw [u64w (by omega) (by omega)]
/-- Of a product without signs, and how often a number without a sign is there: with the signs. -/
theorem fl_signs {a b c P D : Int} (hP : ab a * ab b = P) (hD : ab c = D) (hc : c ≠ 0) :
    fl (a * b) c = if (((decide (a < 0)) != (decide (b < 0))) != (decide (c < 0))) = true then (if P % D = 0 then -(P / D) else -(P / D) - 1) else P / D := by
  have hs := mul_sign a b
  rw [hP] at hs
  have hD0 : 0 < D := by rw [← hD]; unfold ab; split <;> omega
  have e := Int.mul_ediv_add_emod P D
  have r0 := Int.emod_nonneg P (Int.ne_of_gt hD0)
  have r1 := Int.emod_lt_of_pos P hD0
  have hP0 : ((decide (a < 0)) != (decide (b < 0))) = true → a * b = -P := fun h => by rw [if_pos h] at hs; exact hs.symm
  have hP1 : ((decide (a < 0)) != (decide (b < 0))) = false → a * b = P := fun h => by rw [if_neg (by rw [h]; simp)] at hs; exact hs.symm
  generalize ((decide (a < 0)) != (decide (b < 0))) = s at *
  generalize P / D = q at *
  generalize P % D = r at *
  have em : D * (q + 1) = D * q + D := by rw [Int.mul_add, Int.mul_one]
  by_cases h3 : c < 0
  · rw [ab_neg h3] at hD
    rw [decide_eq_true h3]
    cases s with
    | true =>
      rw [if_neg (by simp), hP0 rfl]
      exact (fl_unique (r := -r) (by rw [← e, show c = -D by omega, Int.neg_mul]; omega) (by omega)).1
    | false =>
      rw [if_pos (by simp), hP1 rfl]
      by_cases hr : r = 0
      · rw [if_pos hr]
        exact (fl_unique (r := 0) (by rw [← e, show c = -D by omega, Int.neg_mul_neg]; omega) (by omega)).1
      · rw [if_neg hr]
        exact (fl_unique (r := r - D) (by rw [← e, show c = -D by omega, show -q - 1 = -(q + 1) by omega, Int.neg_mul_neg]; omega) (by omega)).1
  · rw [ab_pos (by omega)] at hD
    subst hD
    rw [decide_eq_false h3]
    cases s with
    | true =>
      rw [if_pos (by simp), hP0 rfl]
      by_cases hr : r = 0
      · rw [if_pos hr]
        exact (fl_unique (r := 0) (by rw [← e, Int.mul_neg]; omega) (by omega)).1
      · rw [if_neg hr]
        exact (fl_unique (r := c - r) (by rw [← e, show -q - 1 = -(q + 1) by omega, Int.mul_neg]; omega) (by omega)).1
    | false =>
      rw [if_neg (by simp), hP1 rfl]
      exact (fl_unique (r := r) (by omega) (by omega)).1
theorem add64_eq (x : Int) (h0 : 0 ≤ x) : bits_Add64.f x 1 0 = some ((x + 1) % 18446744073709551616, (x + 1) / 18446744073709551616) := by
  unfold bits_Add64.f
  rw [if_pos h0, if_pos (by omega), if_pos (by omega), if_pos (by omega), Int.add_zero]
/-- One number times another one, and how often a third one is there: if the division of 128 bits by 64 is as it is. -/
theorem scale_of (k : Nat) (a b c : Int) (ha : I64 a) (hb : I64 b) (hc : I64 c) (h0 : c ≠ 0)
    (hd : ab a * ab b / 18446744073709551616 < ab c → bits_Div64.f (k + 1) (ab a * ab b / 18446744073709551616) (ab a * ab b % 18446744073709551616) (ab c) = some (ab a * ab b / ab c, ab a * ab b % ab c)) :
    num_Scale.f (k + 1) a b c = some (out (fl (a * b) c)) := by
  have h1 := ab_bd ha
  have h2 := ab_bd hb
  have h3 := ab_bd hc
  have h4 := mul_bd h1.1 h1.2 h2.1 h2.2
  have hD0 : 0 < ab c := by unfold ab; split <;> omega
  rw [fl_signs rfl rfl h0]
  unfold num_Scale.f
  rw [if_neg h0, product_eq a b ha hb, size_eq c hc]
  simp only [Option.bind_some]
  generalize hP : ab a * ab b = P at *
  generalize hD : ab c = D at *
  have e := Int.mul_ediv_add_emod P D
  have r0 := Int.emod_nonneg P (Int.ne_of_gt hD0)
  have r1 := Int.emod_lt_of_pos P hD0
  have q0 : 0 ≤ P / D := Int.ediv_nonneg h4.1 (by omega)
  by_cases hl : P / 18446744073709551616 ≥ D
  · rw [if_pos hl]
    have hq : 18446744073709551616 ≤ P / D := by
      rw [Int.le_ediv_iff_mul_le hD0]; omega
    split
    · split
      · rw [out_no (by unfold I64; omega)]
      · rw [out_no (by unfold I64; omega)]
    · rw [out_no (by unfold I64; omega)]
  · rw [if_neg hl, hd (by omega)]
    simp only [Option.bind_some]
    have hq : P / D < 18446744073709551616 := Int.ediv_lt_of_lt_mul hD0 (by omega)
    generalize P / D = q at *
    generalize P % D = r at *
    by_cases hs : (((decide (a < 0)) != (decide (b < 0))) != (decide (c < 0))) = true
    · rw [if_pos hs, if_pos hs, hs]
      by_cases hr : r = 0
      · rw [if_pos hr, if_pos hr, signed_eq _ _ _ _ (by omega) (by omega) (by omega), if_pos rfl]
        simp only [Option.bind_some]
        rw [show (0 : Int) * 18446744073709551616 + q = q by omega]
      · rw [if_neg hr, if_neg hr, add64_eq _ q0]
        simp only [Option.bind_some]
        rw [signed_eq _ _ _ _ (by omega) (by omega) (by omega), if_pos rfl]
        simp only [Option.bind_some]
        rw [show (q + 1) / 18446744073709551616 * 18446744073709551616 + (q + 1) % 18446744073709551616 = q + 1 by omega, show -(q + 1) = -q - 1 by omega]
    · rw [if_neg hs, if_neg hs, signed_eq _ _ _ _ (by omega) (by omega) (by omega), if_neg hs]
      simp only [Option.bind_some]
      rw [show (0 : Int) * 18446744073709551616 + q = q by omega]
theorem div_eq (k : Nat) (a c : Int) (ha : I64 a) (hc : I64 c) (h0 : c ≠ 0) : num_Div.f (k + 1) a c = some (out (fl a c)) := by
  have h1 := ab_bd ha
  have h3 := ab_bd hc
  have hD0 : 0 < ab c := by unfold ab; split <;> omega
  unfold num_Div.f
  rw [scale_of k a 1 c ha (by unfold I64; omega) hc h0 (fun _ => ?_)]
  · simp only [Option.bind_some, Int.mul_one]
  · rw [ab_pos (a := 1) (by omega), Int.mul_one, show ab a / 18446744073709551616 = 0 by omega, show ab a % 18446744073709551616 = ab a by omega]
    exact div64_small _ _ _ hD0 h1.1 (by omega)
theorem mod_eq (a b : Int) (ha : I64 a) (hb : I64 b) (h0 : b ≠ 0) : num_Mod.f a b = some (md a b, 0) := by
  unfold num_Mod.f
  rw [if_neg h0]
  by_cases h1 : b = -1
  · rw [if_pos h1]
    have : md a b = 0 := by unfold md; rw [if_pos (by omega), h1]; simp
    rw [this]
  rw [if_neg h1]
  unfold I64 at hb
  by_cases hs : b < 0
  · -- the remainder of a cut division has the sign of a
    have e : Int.tmod a b = Int.tmod a (-b) := by rw [Int.tmod_neg]
    have c := cut_floor a (b := -b) (by omega)
    have g1 := Int.emod_nonneg a (b := -b) (by omega)
    have g2 := Int.emod_lt_of_pos a (b := -b) (by omega)
    have e2 : md a b = if a % (-b) = 0 then 0 else a % (-b) + b := by
      have d := Int.mul_ediv_add_emod a (-b)
      split
      · rename_i hz
        exact (fl_unique (q := -(a / -b)) (by rw [Int.mul_neg, ← Int.neg_mul]; omega) (by omega)).2
      · exact (fl_unique (q := -(a / -b) - 1) (by rw [show -(a / -b) - 1 = -((a / -b) + 1) by omega, Int.mul_neg, ← Int.neg_mul, Int.mul_add]; omega) (by omega)).2
    rw [e, e2]
    by_cases hn : Int.tmod a (-b) < 0
    · obtain ⟨c1, c2, c3⟩ := c.1 hn
      rw [if_neg (by omega), if_neg (show ¬ a % (-b) = 0 by omega), decide_eq_true hn, decide_eq_true hs, if_neg (by simp)]
      congr 2; omega
    · obtain ⟨c1, c2⟩ := c.2 hn
      rw [c2]
      by_cases hz : a % (-b) = 0
      · rw [if_pos hz, if_pos hz, hz]
      · rw [if_neg hz, if_neg hz, decide_eq_false (show ¬ a % (-b) < 0 by omega), decide_eq_true hs, if_pos (by simp), w64 (by omega) (by omega)]
  · have c := cut_floor a (b := b) (by omega)
    have g1 := Int.emod_nonneg a (b := b) (by omega)
    have g2 := Int.emod_lt_of_pos a (b := b) (by omega)
    have e2 : md a b = a % b := by unfold md; rw [if_neg hs]
    rw [e2]
    by_cases hn : Int.tmod a b < 0
    · obtain ⟨c1, c2, c3⟩ := c.1 hn
      rw [if_neg (by omega), decide_eq_true hn, decide_eq_false hs, if_pos (by simp), w64 (by omega) (by omega)]
      congr 2; omega
    · obtain ⟨c1, c2⟩ := c.2 hn
      rw [c2]
      by_cases hz : a % b = 0
      · rw [if_pos hz]
      · rw [if_neg hz, decide_eq_false (show ¬ a % b < 0 by omega), decide_eq_false hs, if_neg (by simp)]
theorem fl_pos {a b : Int} (h : 0 < b) : fl a b = a / b := by unfold fl; rw [if_neg (by omega)]
theorem md_pos {a b : Int} (h : 0 < b) : md a b = a % b := by unfold md; rw [if_neg (by omega)]
end Go.Proofs.Ytkongoedgngfhaa.Civ
namespace Go.Proofs.Ytkongoedgngfhaa.Civ
set_option linter.unusedVariables false
set_option linter.unusedSimpArgs false
open Go.RowKit Go.Proofs.YtkongoedgngfhaaW.PrintWords Go.Proofs.YtkongoedgngfhaaW.PrintLast Go.Proofs.YtkongoedgngfhaaW.PrintMore Go.Proofs.Ytkongoedgngfhaa.P
def p10 (k : Int) : Int := if k = 0 then 1 else if k = 1 then 10 else if k = 2 then 100 else if k = 3 then 1000 else if k = 4 then 10000 else if k = 5 then 100000 else if k = 6 then 1000000 else if k = 7 then 10000000 else if k = 8 then 100000000 else 1000000000
theorem ten_cases {k : Int} (h : 0 ≤ k ∧ k ≤ 9) : k = 0 ∨ k = 1 ∨ k = 2 ∨ k = 3 ∨ k = 4 ∨ k = 5 ∨ k = 6 ∨ k = 7 ∨ k = 8 ∨ k = 9 := by omega
theorem p10_bd (k : Int) : 1 ≤ p10 k ∧ p10 k ≤ 1000000000 := by
  unfold p10
  repeat' split
  all_goals omega
theorem ten_eq {k : Int} (h : 0 ≤ k ∧ k ≤ 9) : dec_ten.f k = some (p10 k) := by
  rcases ten_cases h with rfl | rfl | rfl | rfl | rfl | rfl | rfl | rfl | rfl | rfl <;> rfl
def DOk (s : Int) : Prop := 0 ≤ s ∧ s ≤ 9
instance (s : Int) : Decidable (DOk s) := inferInstanceAs (Decidable (_ ∧ _))
theorem dcright_eq (n s : Int) : dec_Right.f n s = some (decide (DOk s)) := by
  unfold dec_Right.f
  by_cases h : s ≥ 0
  · rw [if_pos h]; congr 1; apply decide_eq_decide.2; unfold DOk; omega
  · rw [if_neg h, decide_eq_false (by unfold DOk; omega)]
theorem rdcright_eq (n s : Int) : computusref04_Right.f n s = some (decide (DOk s)) := by
  unfold computusref04_Right.f
  by_cases h : s ≥ 0
  · rw [if_pos h]; congr 1; apply decide_eq_decide.2; unfold DOk; omega
  · rw [if_neg h, decide_eq_false (by unfold DOk; omega)]
theorem i64_p10 (k : Int) : I64 (p10 k) := by have := p10_bd k; unfold I64; omega
/-- A number at a scale that is so much greater. -/
def tox (n s t : Int) : Int × Int × Int := if I64 (n * p10 (t - s)) then (n * p10 (t - s), t, 0) else (0, 0, 10)
theorem to_eq (k : Nat) {n s t : Int} (hn : I64 n) (hs : DOk s) (ht : DOk t) (h : s ≤ t) : dec_Dec_to.f (k + 1) n s t = some (tox n s t) := by
  unfold dec_Dec_to.f tox
  unfold DOk at hs ht
  rw [w64 (x := t - s) (by omega) (by omega), ten_eq (by omega)]
  simp only [Option.bind_some]
  rw [mul_eq k n _ hn (i64_p10 _)]
  simp only [Option.bind_some]
  by_cases g : I64 (n * p10 (t - s))
  · rw [out_in g, if_pos rfl, if_pos g]
  · rw [out_no g, if_neg (by decide), if_neg g]
end Go.Proofs.Ytkongoedgngfhaa.Civ
namespace Go.Proofs.Ytkongoedgngfhaa.Civ
set_option linter.unusedVariables false
set_option linter.unusedSimpArgs false
open Go.RowKit Go.Proofs.Ytkongoedgngfhaa.P Go.Proofs.YtkongoedgngfhaaW.PrintWords Go.Proofs.YtkongoedgngfhaaW.PrintLast
theorem known_ev : Ev (fun k => computuslaw04_known.f k) true := Ev.of computuslaw04_known.mono (k := 12) (by decide +kernel)
theorem known_end : Ev (fun k => (computuslaw04_known.f k).bind fun t => some t) true := Ev.bind known_ev (Ev.now _)
end Go.Proofs.Ytkongoedgngfhaa.Civ
namespace Go.Proofs.Ytkongoedgngfhaa.Civ
set_option linter.unusedVariables false
set_option linter.unusedSimpArgs false
open Go.RowKit Go.Proofs.YtkongoedgngfhaaW.PrintWords Go.Proofs.YtkongoedgngfhaaW.PrintLast Go.Proofs.YtkongoedgngfhaaW.PrintMore Go.Proofs.Ytkongoedgngfhaa.P
/-- A wide number's sign and parts. -/
def ng (x : Int) : Bool := decide (x < 0)
def dg (x : Int) : List Int := dig (ab x)
theorem ng_true {x : Int} (h : x < 0) : ng x = true := decide_eq_true h
theorem ng_false {x : Int} (h : ¬ x < 0) : ng x = false := decide_eq_false h
def Wide (x : Int) : Prop := -6277101735386680763835789423207666416102355444464034512896 < x ∧ x < 6277101735386680763835789423207666416102355444464034512896
theorem ab_wide {x : Int} (h : Wide x) : 0 ≤ ab x ∧ ab x < 6277101735386680763835789423207666416102355444464034512896 := by unfold Wide at h; unfold ab; split <;> omega
theorem ab_zero {x : Int} : ab x = 0 ↔ x = 0 := by unfold ab; split <;> omega
theorem of_list (u v : Int) (h0 : 0 ≤ u) (h1 : u ≤ 18446744073709551615) : ((List.replicate 6 0).set (0 : Int).toNat (u % 4294967296)).set (1 : Int).toNat (u / 4294967296) = dig u := by
  show [u % 4294967296, u / 4294967296, 0, 0, 0, 0] = dig u
  rw [dig_of (a := u) (a0 := u % 4294967296) (a1 := u / 4294967296) (a2 := 0) (a3 := 0) (a4 := 0) (a5 := 0) (by omega) (by omega)]
theorem of_eq (a : Int) (h : I64 a) : computusref01_Of.f a = some (ng a, dg a) := by
  have h' := h
  unfold I64 at h'
  unfold computusref01_Of.f
  by_cases g : a < 0
  · have e : IntKind.u64.wrap (-IntKind.u64.wrap a) = -a := by rw [u64m, u64m]; omega
    simp only [if_pos g, if_pos (show (6 : Int) ≤ 35184372088832 by omega), Option.bind_some, e, List.length_replicate]
    rw [and32 (by omega) (by omega), if_pos (by decide), if_pos (by decide), of_list (-a) 0 (by omega) (by omega)]
    unfold dg; rw [ab_neg g, ng_true g]; rfl
  · have e : IntKind.u64.wrap a = a := by rw [u64m]; omega
    simp only [if_neg g, if_pos (show (6 : Int) ≤ 35184372088832 by omega), Option.bind_some, e, List.length_replicate]
    rw [and32 (by omega) (by omega), if_pos (by decide), if_pos (by decide), of_list a 0 (by omega) (by omega)]
    unfold dg; rw [ab_pos (by omega), ng_false g]; rfl
theorem small_step (k : Nat) {n : Bool} {x : List Int} {i v : Int} (h0 : 2 ≤ i) (h6 : i < 6) (hl : x.length = 6) (hv : rd x i = v) :
    computusref01_Small.l0 (k + 1) i n x = if v = 0 then computusref01_Small.l0 k (i + 1) n x else some (0, 10) := by
  simp only [computusref01_Small.l0]
  rw [if_pos h6, if_pos (by omega), hl, if_pos (by omega), hv, w64 (by omega) (by omega)]
theorem small_end (k : Nat) (x u v : Int) (hu : 0 ≤ u ∧ u < 4294967296) (hv : 0 ≤ v ∧ v < 4294967296) (e : ab x = u + 4294967296 * v) (l : List Int) (hl : l.length = 6) (h0 : rd l 0 = u) (h1 : rd l 1 = v) :
    computusref01_Small.l0 (k + 2) 6 (ng x) l = some (out x) := by
  have eo : Go.bits .or .u64 (IntKind.u64.wrap (v * 4294967296)) u = ab x := by
    rw [u64w (by omega) (by omega), orj 32 (by omega) (by omega) (by omega) (by omega) hu.1 (by omega)]; omega
  simp only [computusref01_Small.l0]
  rw [if_neg (by omega), hl, if_pos (by decide), if_pos (by decide), h0, h1, eo]
  have hb : 0 ≤ ab x ∧ ab x ≤ 18446744073709551615 := by omega
  clear eo e h0 h1 hl hu hv
  by_cases g : x < 0
  · rw [ng_true g, if_pos rfl]
    rw [ab_neg g] at hb ⊢
    by_cases q : -x ≤ 9223372036854775808
    · rw [decide_eq_true q, out_in (by unfold I64; omega)]
      simp only [computusref01_Small.j1, if_true]
      rw [u64m]; congr 2; unfold wrap64; omega
    · rw [decide_eq_false q, out_no (by unfold I64; omega)]
      simp only [computusref01_Small.j1]
      rfl
  · rw [ng_false g]
    rw [ab_pos (by omega)] at hb ⊢
    simp only [Bool.false_eq_true, if_false, computusref01_Small.j1]
    by_cases q : x ≥ 9223372036854775808
    · rw [if_pos q, out_no (by unfold I64; omega)]
    · rw [if_neg q, out_in (by unfold I64; omega), w64 (by omega) (by omega)]
theorem small_ev {x : Int} (h : Wide x) : Ev (fun k => computusref01_Small.f k (ng x) (dg x)) (out x) := by
  have hb := ab_wide h
  obtain ⟨a0, a1, a2, a3, a4, a5, ea, ⟨A0, A1, A2, A3, A4, A5⟩, va⟩ := dig_form hb.1 hb.2
  refine Ev.of (computusref01_Small.mono (ng x) (dg x)) (k := 6) ?_
  unfold computusref01_Small.f dg
  rw [ea]
  have no : 18446744073709551616 ≤ ab x → out x = (0, 10) := fun g => out_no (by unfold ab at g; unfold I64; split at g <;> omega)
  rw [small_step 5 (i := 2) (v := a2) (by omega) (by omega) rfl rfl]
  by_cases g2 : a2 = 0
  · rw [if_pos g2, small_step 4 (i := 2 + 1) (v := a3) (by omega) (by omega) rfl rfl]
    by_cases g3 : a3 = 0
    · rw [if_pos g3, small_step 3 (i := 2 + 1 + 1) (v := a4) (by omega) (by omega) rfl rfl]
      by_cases g4 : a4 = 0
      · rw [if_pos g4, small_step 2 (i := 2 + 1 + 1 + 1) (v := a5) (by omega) (by omega) rfl rfl]
        by_cases g5 : a5 = 0
        · rw [if_pos g5]
          exact small_end 0 x a0 a1 A0 A1 (by rw [va, g2, g3, g4, g5]; omega) _ rfl rfl rfl
        · rw [if_neg g5, no (by rw [va, g2, g3, g4]; omega)]
      · rw [if_neg g4, no (by rw [va, g2, g3]; omega)]
    · rw [if_neg g3, no (by rw [va, g2]; omega)]
  · rw [if_neg g2, no (by rw [va]; omega)]
theorem row_next (k : Nat) {x5 row L1 L2 : List Int} {s1 s2 : Bool} {c i j u v : Int} (hi : 0 ≤ i) (hj : 0 ≤ j) (hi2 : i < 2) (hj3 : j < 3) (l1 : L1.length = 6) (l2 : L2.length = 6) (lr : row.length = 6) (hc : 0 ≤ c ∧ c < 4294967296)
    (hu : rd L1 i = u) (hv : rd L2 j = v) (ub : 0 ≤ u ∧ u < 4294967296) (vb : 0 ≤ v ∧ v < 4294967296) :
    ∃ d c', computusref01_Times.l1 (k + 1) x5 i row c j s1 L1 s2 L2 = computusref01_Times.l1 k x5 i (row.set (i + j).toNat d) c' (j + 1) s1 L1 s2 L2 ∧ (0 ≤ d ∧ d < 4294967296) ∧ (0 ≤ c' ∧ c' < 4294967296) ∧ c + u * v = d + 4294967296 * c' := by
  have hp := mul_bd ub.1 (show u ≤ 4294967295 by omega) vb.1 (show v ≤ 4294967295 by omega)
  refine ⟨(c + u * v) % 4294967296, (c + u * v) / 4294967296, ?_, part_bd _, by omega, part_eq _⟩
  simp only [computusref01_Times.l1]
  rw [w64 (x := i + j) (by omega) (by omega), if_pos hj3, if_pos hi, l1, if_pos (by omega), if_pos hj, l2, if_pos (by omega), if_pos (by omega), lr, if_pos (by omega), hu, hv, u64w (x := u * v) (by omega) (by omega), u64w (x := c + u * v) (by omega) (by omega), and32 (by omega) (by omega), w64 (by omega) (by omega)]
theorem row_end (x5 : List Int) (i : Int) (r : List Int) (c : Int) (s1 : Bool) (L1 : List Int) (s2 : Bool) (L2 : List Int) {t : List Int} {res : Bool × List Int} (hi : 0 ≤ i ∧ i < 5) (ha : Ev (fun k => computusref01_add.f k x5 r) t)
    (h : Ev (fun k => computusref01_Times.l0 k t (i + 1) s1 L1 s2 L2) res) : Ev (fun k => computusref01_Times.l1 k x5 i r c 3 s1 L1 s2 L2) res := by
  refine Ev.step (f := fun k => (computusref01_add.f k x5 r).bind fun t => computusref01_Times.l0 k t (wrap64 (i + 1)) s1 L1 s2 L2) (fun k => ?_) (Ev.bind ha ?_)
  · simp only [computusref01_Times.l1]
    rw [if_neg (by omega)]
  · rw [w64 (by omega) (by omega)]; exact h
theorem two_parts {x : Int} (h0 : 0 ≤ x) (h1 : x ≤ 18446744073709551615) : ∃ x0 x1, dig x = [x0, x1, 0, 0, 0, 0] ∧ (0 ≤ x0 ∧ x0 < 4294967296) ∧ (0 ≤ x1 ∧ x1 < 4294967296) ∧ x = x0 + 4294967296 * x1 := by
  refine ⟨x % 4294967296, x / 4294967296, ?_, part_bd _, by omega, part_eq _⟩
  exact dig_of (by omega) (by omega)
theorem row0 {x0 y0 y1 d0 d1 d2 c1 c2 c3 : Int} (E0 : 0 + x0 * y0 = d0 + 4294967296 * c1) (E1 : c1 + x0 * y1 = d1 + 4294967296 * c2) (E2 : c2 + x0 * 0 = d2 + 4294967296 * c3) (C2 : 0 ≤ c2 ∧ c2 < 4294967296) (D2 : 0 ≤ d2 ∧ d2 < 4294967296) :
    x0 * (y0 + 4294967296 * y1) = d0 + 4294967296 * (d1 + 4294967296 * d2) := by
  have : x0 * (y0 + 4294967296 * y1) = x0 * y0 + 4294967296 * (x0 * y1) := by rw [Int.mul_add, Int.mul_left_comm]
  omega
theorem times_ev {x y : Int} (hx : -18446744073709551615 ≤ x ∧ x ≤ 18446744073709551615) (hy : -18446744073709551615 ≤ y ∧ y ≤ 18446744073709551615) :
    Ev (fun k => computusref01_Times.f k (ng x) (dg x) (ng y) (dg y)) (ng (x * y), dg (x * y)) := by
  have bx : 0 ≤ ab x ∧ ab x ≤ 18446744073709551615 := by unfold ab; split <;> omega
  have by_ : 0 ≤ ab y ∧ ab y ≤ 18446744073709551615 := by unfold ab; split <;> omega
  have hm := mul_sign x y
  have eab : ab (x * y) = ab x * ab y := by
    have hp := mul_bd bx.1 bx.2 by_.1 by_.2
    have neg_ab : ∀ P : Int, 0 ≤ P → ab (-P) = P := fun P h => by unfold ab; split <;> omega
    rw [← hm]; split
    · exact neg_ab _ hp.1
    · rw [ab_pos hp.1]
  have esg : (ng x != ng y) = true → ¬ ab x * ab y = 0 → x * y < 0 := by
    intro g z
    have hp := mul_bd bx.1 bx.2 by_.1 by_.2
    have g' : ((decide (x < 0)) != (decide (y < 0))) = true := g
    rw [← hm, if_pos g']; omega
  have esg2 : (ng x != ng y) = false → ¬ x * y < 0 := by
    intro g
    have hp := mul_bd bx.1 bx.2 by_.1 by_.2
    rw [← hm, if_neg (by unfold ng at g; rw [g]; simp)]; omega
  obtain ⟨x0, x1, ex, X0, X1, vx⟩ := two_parts bx.1 bx.2
  obtain ⟨y0, y1, ey, Y0, Y1, vy⟩ := two_parts by_.1 by_.2
  have hprod : ab x * ab y = x0 * ab y + 4294967296 * (x1 * ab y) := by
    conv => lhs; rw [vx]
    rw [Int.add_mul, Int.mul_assoc]
  have b0 := mul_bd X0.1 (show x0 ≤ 4294967295 by omega) by_.1 by_.2
  have b1 := mul_bd X1.1 (show x1 ≤ 4294967295 by omega) by_.1 by_.2
  have fin : Ev (fun k => computusref01_Times.l0 k (dig (ab x * ab y)) 2 (ng x) (dg x) (ng y) (dg y)) (ng (x * y), dg (x * y)) := by
    unfold dg
    rw [eab]
    by_cases g : (ng x != ng y) = true
    · refine Ev.step (f := fun k => (computusref01_zero.f k (dig (ab x * ab y))).bind fun t => some (!t, dig (ab x * ab y))) (fun k => ?_) (Ev.bind (zero_ev (by omega) (by omega)) ?_)
      · simp only [computusref01_Times.l0]
        rw [if_neg (by omega), if_pos g]
      · by_cases z : ab x * ab y = 0
        · have : x * y = 0 := by rw [← ab_zero, eab]; exact z
          rw [decide_eq_true z, this]; exact Ev.now _
        · rw [decide_eq_false z, ng_true (esg g z)]; exact Ev.now _
    · have g' : (ng x != ng y) = false := by simpa using g
      refine Ev.at1 fun k => ?_
      simp only [computusref01_Times.l0]
      rw [if_neg (by omega), if_neg g, ng_false (esg2 g')]
  have Z : (0 : Int) ≤ 0 ∧ (0 : Int) < 4294967296 := by decide
  have r1 : Ev (fun k => computusref01_Times.l1 k (dig (x0 * ab y)) 1 [0, 0, 0, 0, 0, 0] 0 0 (ng x) (dg x) (ng y) (dg y)) (ng (x * y), dg (x * y)) := by
    obtain ⟨K, hK⟩ : Ev (fun k => computusref01_Times.l1 k (dig (x0 * ab y)) 1 (dig (4294967296 * (x1 * ab y))) 0 3 (ng x) (dg x) (ng y) (dg y)) (ng (x * y), dg (x * y)) := by
      refine row_end _ _ _ _ _ _ _ _ (by omega) (add_ev b0.1 (by omega) (by omega)) ?_
      rw [← hprod]; exact fin
    refine ⟨K + 3, fun k hk => ?_⟩
    obtain ⟨m, rfl⟩ : ∃ m, k = m + 3 := ⟨k - 3, by omega⟩
    obtain ⟨d0, c1, e0, D0, C1, E0⟩ := row_next (m + 2) (x5 := dig (x0 * ab y)) (row := [0, 0, 0, 0, 0, 0]) (L1 := dg x) (L2 := dg y) (s1 := ng x) (s2 := ng y) (c := 0) (i := 1) (j := 0) (u := x1) (v := y0) (by decide) (by decide) (by decide) (by decide) rfl rfl rfl Z (by unfold dg; rw [ex]; rfl) (by unfold dg; rw [ey]; rfl) X1 Y0
    refine e0.trans ?_
    show computusref01_Times.l1 (m + 2) (dig (x0 * ab y)) 1 [0, d0, 0, 0, 0, 0] c1 1 (ng x) (dg x) (ng y) (dg y) = _
    obtain ⟨d1, c2, e1, D1, C2, E1⟩ := row_next (m + 1) (x5 := dig (x0 * ab y)) (row := [0, d0, 0, 0, 0, 0]) (L1 := dg x) (L2 := dg y) (s1 := ng x) (s2 := ng y) (c := c1) (i := 1) (j := 1) (u := x1) (v := y1) (by decide) (by decide) (by decide) (by decide) rfl rfl rfl C1 (by unfold dg; rw [ex]; rfl) (by unfold dg; rw [ey]; rfl) X1 Y1
    refine e1.trans ?_
    show computusref01_Times.l1 (m + 1) (dig (x0 * ab y)) 1 [0, d0, d1, 0, 0, 0] c2 2 (ng x) (dg x) (ng y) (dg y) = _
    obtain ⟨d2, c3, e2, D2, C3, E2⟩ := row_next m (x5 := dig (x0 * ab y)) (row := [0, d0, d1, 0, 0, 0]) (L1 := dg x) (L2 := dg y) (s1 := ng x) (s2 := ng y) (c := c2) (i := 1) (j := 2) (u := x1) (v := 0) (by decide) (by decide) (by decide) (by decide) rfl rfl rfl C2 (by unfold dg; rw [ex]; rfl) (by unfold dg; rw [ey]; rfl) X1 Z
    refine e2.trans ?_
    have hr := row0 E0 E1 E2 C2 D2
    rw [← vy] at hr
    have hc3 : c3 = 0 := by omega
    subst hc3
    show computusref01_Times.l1 m (dig (x0 * ab y)) 1 [0, d0, d1, d2, 0, 0] 0 3 (ng x) (dg x) (ng y) (dg y) = _
    rw [← dig_of (a := 4294967296 * (x1 * ab y)) (a0 := 0) (a1 := d0) (a2 := d1) (a3 := d2) (a4 := 0) (a5 := 0) ⟨Z, D0, D1, D2, Z, Z⟩ (by rw [hr]; omega)]
    exact hK m (by omega)
  have r0 : Ev (fun k => computusref01_Times.l1 k (dig 0) 0 [0, 0, 0, 0, 0, 0] 0 0 (ng x) (dg x) (ng y) (dg y)) (ng (x * y), dg (x * y)) := by
    obtain ⟨K, hK⟩ : Ev (fun k => computusref01_Times.l1 k (dig 0) 0 (dig (x0 * ab y)) 0 3 (ng x) (dg x) (ng y) (dg y)) (ng (x * y), dg (x * y)) := by
      refine row_end _ _ _ _ _ _ _ _ (by omega) (add_ev (by omega) b0.1 (by omega)) ?_
      rw [Int.zero_add]
      refine Ev.step (f := fun k => computusref01_Times.l1 k (dig (x0 * ab y)) 1 [0, 0, 0, 0, 0, 0] 0 0 (ng x) (dg x) (ng y) (dg y)) (fun k => ?_) r1
      simp only [computusref01_Times.l0]
      rw [if_pos (by omega), if_pos (by omega)]
      rfl
    refine ⟨K + 3, fun k hk => ?_⟩
    obtain ⟨m, rfl⟩ : ∃ m, k = m + 3 := ⟨k - 3, by omega⟩
    obtain ⟨d0, c1, e0, D0, C1, E0⟩ := row_next (m + 2) (x5 := dig 0) (row := [0, 0, 0, 0, 0, 0]) (L1 := dg x) (L2 := dg y) (s1 := ng x) (s2 := ng y) (c := 0) (i := 0) (j := 0) (u := x0) (v := y0) (by decide) (by decide) (by decide) (by decide) rfl rfl rfl Z (by unfold dg; rw [ex]; rfl) (by unfold dg; rw [ey]; rfl) X0 Y0
    refine e0.trans ?_
    show computusref01_Times.l1 (m + 2) (dig 0) 0 [d0, 0, 0, 0, 0, 0] c1 1 (ng x) (dg x) (ng y) (dg y) = _
    obtain ⟨d1, c2, e1, D1, C2, E1⟩ := row_next (m + 1) (x5 := dig 0) (row := [d0, 0, 0, 0, 0, 0]) (L1 := dg x) (L2 := dg y) (s1 := ng x) (s2 := ng y) (c := c1) (i := 0) (j := 1) (u := x0) (v := y1) (by decide) (by decide) (by decide) (by decide) rfl rfl rfl C1 (by unfold dg; rw [ex]; rfl) (by unfold dg; rw [ey]; rfl) X0 Y1
    refine e1.trans ?_
    show computusref01_Times.l1 (m + 1) (dig 0) 0 [d0, d1, 0, 0, 0, 0] c2 2 (ng x) (dg x) (ng y) (dg y) = _
    obtain ⟨d2, c3, e2, D2, C3, E2⟩ := row_next m (x5 := dig 0) (row := [d0, d1, 0, 0, 0, 0]) (L1 := dg x) (L2 := dg y) (s1 := ng x) (s2 := ng y) (c := c2) (i := 0) (j := 2) (u := x0) (v := 0) (by decide) (by decide) (by decide) (by decide) rfl rfl rfl C2 (by unfold dg; rw [ex]; rfl) (by unfold dg; rw [ey]; rfl) X0 Z
    refine e2.trans ?_
    have hr := row0 E0 E1 E2 C2 D2
    rw [← vy] at hr
    have hc3 : c3 = 0 := by omega
    subst hc3
    show computusref01_Times.l1 m (dig 0) 0 [d0, d1, d2, 0, 0, 0] 0 3 (ng x) (dg x) (ng y) (dg y) = _
    rw [← dig_of (a := x0 * ab y) (a0 := d0) (a1 := d1) (a2 := d2) (a3 := 0) (a4 := 0) (a5 := 0) ⟨D0, D1, D2, Z, Z, Z⟩ (by rw [hr]; omega)]
    exact hK m (by omega)
  unfold computusref01_Times.f
  refine Ev.pos (by decide) ?_
  refine Ev.step (f := fun k => computusref01_Times.l1 k (dig 0) 0 [0, 0, 0, 0, 0, 0] 0 0 (ng x) (dg x) (ng y) (dg y)) (fun k => ?_) r0
  simp only [computusref01_Times.l0]
  rw [if_pos (by omega), if_pos (by omega)]
  rfl
end Go.Proofs.Ytkongoedgngfhaa.Civ
namespace Go.Proofs.Ytkongoedgngfhaa.Civ
set_option linter.unusedVariables false
set_option linter.unusedSimpArgs false
open Go.RowKit Go.Proofs.YtkongoedgngfhaaW.PrintWords Go.Proofs.YtkongoedgngfhaaW.PrintLast Go.Proofs.YtkongoedgngfhaaW.PrintMore Go.Proofs.Ytkongoedgngfhaa.P
def Half (x : Int) : Prop := -3138550867693340381917894711603833208051177722232017256448 ≤ x ∧ x ≤ 3138550867693340381917894711603833208051177722232017256448
theorem ab_half {x : Int} (h : Half x) : 0 ≤ ab x ∧ ab x ≤ 3138550867693340381917894711603833208051177722232017256448 := by unfold Half at h; unfold ab; split <;> omega
theorem half_i64 {x : Int} (h : I64 x) : Half x := by unfold I64 at h; unfold Half; omega
theorem half_wide {x : Int} (h : Half x) : Wide x := by unfold Half at h; unfold Wide; omega
theorem i64_word {a : Int} (ha : I64 a) : -18446744073709551615 ≤ a ∧ a ≤ 18446744073709551615 := by unfold I64 at ha; omega
theorem half_mul {a b : Int} (ha : I64 a) (hb : I64 b) : Half (a * b) := by
  have h1 := ab_bd ha
  have h2 := ab_bd hb
  have h3 := mul_bd h1.1 h1.2 h2.1 h2.2
  rw [← mul_sign a b]
  unfold Half
  split <;> omega
end Go.Proofs.Ytkongoedgngfhaa.Civ

-- Written by a program of the session (a print of the seat's translation, functions given by hand among it). Lean checks it.
import Derived.Test.YtkongoedgngfhaaQcgoepkfcmc
import Derived.Test.YtkongoedgngfhaaQppaacdidap
import Derived.Test.YtkongoedgngfhaaQbleadbjhka
import Derived.Test.YtkongoedgngfhaaQinoachlhhg
import Derived.Test.YtkongoedgngfhaaQgmalmnonlo
import Derived.Test.YtkongoedgngfhaaQegkakjlmho
import Derived.Test.YtkongoedgngfhaaQcofmboejbk
import Derived.Test.YtkongoedgngfhaaQmjhfjmgimf
import Derived.Test.YtkongoedgngfhaaQehjnekopoh
import Derived.Test.YtkongoedgngfhaaQfhjennnnmb
namespace Go.Proofs.Ytkongoedgngfhaa.P
open Go.RowKit Go.Proofs.YtkongoedgngfhaaW.PrintWords Go.Proofs.YtkongoedgngfhaaW.PrintLast Go.Proofs.YtkongoedgngfhaaW.PrintMore
open Go.Proofs.Ytkongoedgngfhaa.A
attribute [local go_sem] max2_int min2_int max_two min_two max_three min_three max_four min_four   -- for this text's walks alone
set_option linter.unusedVariables false
set_option linter.unusedSimpArgs false
attribute [local go_sem high] eqA23
def computuslaw04_DecSums.f (k : Nat) (a0_0 : Int) (a0_1 : Int) (a1_0 : Int) (a1_1 : Int) : Option (Bool) := (computuslaw04_given.f a0_0 a0_1).bind fun bt706 => ((computuslaw04_given.f a1_0 a1_1).bind fun bt708 => ((dec_Add.f k bt706.1 bt706.2 bt708.1 bt708.2).bind fun bt710 => ((computusref04_Add.f k a0_0 a0_1 a1_0 a1_1).bind fun bt714 => ((computuslaw04_given.f a0_0 a0_1).bind fun bt718 => ((computuslaw04_given.f a1_0 a1_1).bind fun bt720 => ((dec_Sub.f k bt718.1 bt718.2 bt720.1 bt720.2).bind fun bt722 => ((computusref04_Sub.f k a0_0 a0_1 a1_0 a1_1).bind fun bt726 => ((computuslaw04_given.f a0_0 a0_1).bind fun bt730 => ((computuslaw04_given.f a1_0 a1_1).bind fun bt732 => ((dec_Mul.f k bt730.1 bt730.2 bt732.1 bt732.2).bind fun bt734 => ((computusref04_Mul.f k a0_0 a0_1 a1_0 a1_1).bind fun bt738 => ((computuslaw04_taken.f bt710.1 bt710.2.1).bind fun bt742 => (if (bt742.1 == bt714.1 && (bt742.2 == bt714.2.1)) = true then (if bt710.2.2 = bt714.2.2 then ((computuslaw04_taken.f bt722.1 bt722.2.1).bind fun bt744 => (if (bt744.1 == bt726.1 && (bt744.2 == bt726.2.1)) = true then (if bt722.2.2 = bt726.2.2 then ((computuslaw04_taken.f bt734.1 bt734.2.1).bind fun bt746 => (if (bt746.1 == bt738.1 && (bt746.2 == bt738.2.1)) = true then (if bt734.2.2 = bt738.2.2 then ((computuslaw04_given.f a0_0 a0_1).bind fun bt748 => ((computuslaw04_given.f a1_0 a1_1).bind fun bt750 => ((dec_Cmp.f k bt748.1 bt748.2 bt750.1 bt750.2).bind fun t752 => ((computusref04_Cmp.f k a0_0 a0_1 a1_0 a1_1).bind fun t753 => (if t752 = t753 then ((computuslaw04_given.f a0_0 a0_1).bind fun bt754 => ((dec_Right.f bt754.1 bt754.2).bind fun t756 => ((computusref04_Right.f a0_0 a0_1).bind fun t757 => (if (t756 == t757) = true then ((computuslaw04_known.f k).bind fun t758 => (some t758)) else (some false))))) else (some false)))))) else (some false)) else (some false))) else (some false)) else (some false))) else (some false)) else (some false))))))))))))))
set_option maxRecDepth 100000 in
theorem computuslaw04_DecSums.vc (k : Nat) (a0_0 : Int) (a0_1 : Int) (a1_0 : Int) (a1_1 : Int) (K : AV → Prop) : afv PA Try.prog (tab [(10, computuslaw04_given.con), (14, computuslaw04_taken.con), (15, computusref04_Right.con), (16, computuslaw04_known.con k), (17, dec_Sub.con k), (18, dec_Add.con k), (25, dec_Cmp.con k), (26, dec_Mul.con k), (27, computusref04_Add.con k), (28, computusref04_Sub.con k), (29, computusref04_Mul.con k), (30, computusref04_Cmp.con k), (31, dec_Right.con)]) noLoops 2 8 [.agg [.int .i64 a0_0, .int .i64 a0_1], .agg [.int .i64 a1_0, .int .i64 a1_1]] K = (brc (Option.isSome (computuslaw04_given.f a0_0 a0_1)) (∀ (m0 : Int), m0 = Prod.fst (gd (computuslaw04_given.f a0_0 a0_1)) → ∀ (m1 : Int), m1 = Prod.snd (gd (computuslaw04_given.f a0_0 a0_1)) → brc (Option.isSome (computuslaw04_given.f a1_0 a1_1)) (∀ (m2 : Int), m2 = Prod.fst (gd (computuslaw04_given.f a1_0 a1_1)) → ∀ (m3 : Int), m3 = Prod.snd (gd (computuslaw04_given.f a1_0 a1_1)) → brc (Option.isSome (dec_Add.f k m0 m1 m2 m3)) (∀ (m4 : Int), m4 = Prod.fst (gd (dec_Add.f k m0 m1 m2 m3)) → ∀ (m5 : Int), m5 = Prod.fst (Prod.snd (gd (dec_Add.f k m0 m1 m2 m3))) → ∀ (m6 : Int), m6 = Prod.snd (Prod.snd (gd (dec_Add.f k m0 m1 m2 m3))) → brc (Option.isSome (computusref04_Add.f k a0_0 a0_1 a1_0 a1_1)) (∀ (m7 : Int), m7 = Prod.fst (gd (computusref04_Add.f k a0_0 a0_1 a1_0 a1_1)) → ∀ (m8 : Int), m8 = Prod.fst (Prod.snd (gd (computusref04_Add.f k a0_0 a0_1 a1_0 a1_1))) → ∀ (m9 : Int), m9 = Prod.snd (Prod.snd (gd (computusref04_Add.f k a0_0 a0_1 a1_0 a1_1))) → brc (Option.isSome (computuslaw04_given.f a0_0 a0_1)) (∀ (m10 : Int), m10 = Prod.fst (gd (computuslaw04_given.f a0_0 a0_1)) → ∀ (m11 : Int), m11 = Prod.snd (gd (computuslaw04_given.f a0_0 a0_1)) → brc (Option.isSome (computuslaw04_given.f a1_0 a1_1)) (∀ (m12 : Int), m12 = Prod.fst (gd (computuslaw04_given.f a1_0 a1_1)) → ∀ (m13 : Int), m13 = Prod.snd (gd (computuslaw04_given.f a1_0 a1_1)) → brc (Option.isSome (dec_Sub.f k m10 m11 m12 m13)) (∀ (m14 : Int), m14 = Prod.fst (gd (dec_Sub.f k m10 m11 m12 m13)) → ∀ (m15 : Int), m15 = Prod.fst (Prod.snd (gd (dec_Sub.f k m10 m11 m12 m13))) → ∀ (m16 : Int), m16 = Prod.snd (Prod.snd (gd (dec_Sub.f k m10 m11 m12 m13))) → brc (Option.isSome (computusref04_Sub.f k a0_0 a0_1 a1_0 a1_1)) (∀ (m17 : Int), m17 = Prod.fst (gd (computusref04_Sub.f k a0_0 a0_1 a1_0 a1_1)) → ∀ (m18 : Int), m18 = Prod.fst (Prod.snd (gd (computusref04_Sub.f k a0_0 a0_1 a1_0 a1_1))) → ∀ (m19 : Int), m19 = Prod.snd (Prod.snd (gd (computusref04_Sub.f k a0_0 a0_1 a1_0 a1_1))) → brc (Option.isSome (computuslaw04_given.f a0_0 a0_1)) (∀ (m20 : Int), m20 = Prod.fst (gd (computuslaw04_given.f a0_0 a0_1)) → ∀ (m21 : Int), m21 = Prod.snd (gd (computuslaw04_given.f a0_0 a0_1)) → brc (Option.isSome (computuslaw04_given.f a1_0 a1_1)) (∀ (m22 : Int), m22 = Prod.fst (gd (computuslaw04_given.f a1_0 a1_1)) → ∀ (m23 : Int), m23 = Prod.snd (gd (computuslaw04_given.f a1_0 a1_1)) → brc (Option.isSome (dec_Mul.f k m20 m21 m22 m23)) (∀ (m24 : Int), m24 = Prod.fst (gd (dec_Mul.f k m20 m21 m22 m23)) → ∀ (m25 : Int), m25 = Prod.fst (Prod.snd (gd (dec_Mul.f k m20 m21 m22 m23))) → ∀ (m26 : Int), m26 = Prod.snd (Prod.snd (gd (dec_Mul.f k m20 m21 m22 m23))) → brc (Option.isSome (computusref04_Mul.f k a0_0 a0_1 a1_0 a1_1)) (∀ (m27 : Int), m27 = Prod.fst (gd (computusref04_Mul.f k a0_0 a0_1 a1_0 a1_1)) → ∀ (m28 : Int), m28 = Prod.fst (Prod.snd (gd (computusref04_Mul.f k a0_0 a0_1 a1_0 a1_1))) → ∀ (m29 : Int), m29 = Prod.snd (Prod.snd (gd (computusref04_Mul.f k a0_0 a0_1 a1_0 a1_1))) → brc (Option.isSome (computuslaw04_taken.f m4 m5)) (∀ (m30 : Int), m30 = Prod.fst (gd (computuslaw04_taken.f m4 m5)) → ∀ (m31 : Int), m31 = Prod.snd (gd (computuslaw04_taken.f m4 m5)) → brc (m30 == m7 && (m31 == m8 && true)) (brc (m6 == m9) (brc (Option.isSome (computuslaw04_taken.f m14 m15)) (∀ (m32 : Int), m32 = Prod.fst (gd (computuslaw04_taken.f m14 m15)) → ∀ (m33 : Int), m33 = Prod.snd (gd (computuslaw04_taken.f m14 m15)) → brc (m32 == m17 && (m33 == m18 && true)) (brc (m16 == m19) (brc (Option.isSome (computuslaw04_taken.f m24 m25)) (∀ (m34 : Int), m34 = Prod.fst (gd (computuslaw04_taken.f m24 m25)) → ∀ (m35 : Int), m35 = Prod.snd (gd (computuslaw04_taken.f m24 m25)) → brc (m34 == m27 && (m35 == m28 && true)) (brc (m26 == m29) (brc (Option.isSome (computuslaw04_given.f a0_0 a0_1)) (∀ (m36 : Int), m36 = Prod.fst (gd (computuslaw04_given.f a0_0 a0_1)) → ∀ (m37 : Int), m37 = Prod.snd (gd (computuslaw04_given.f a0_0 a0_1)) → brc (Option.isSome (computuslaw04_given.f a1_0 a1_1)) (∀ (m38 : Int), m38 = Prod.fst (gd (computuslaw04_given.f a1_0 a1_1)) → ∀ (m39 : Int), m39 = Prod.snd (gd (computuslaw04_given.f a1_0 a1_1)) → brc (Option.isSome (dec_Cmp.f k m36 m37 m38 m39)) (∀ (m40 : Int), m40 = gd (dec_Cmp.f k m36 m37 m38 m39) → brc (Option.isSome (computusref04_Cmp.f k a0_0 a0_1 a1_0 a1_1)) (∀ (m41 : Int), m41 = gd (computusref04_Cmp.f k a0_0 a0_1 a1_0 a1_1) → brc (m40 == m41) (brc (Option.isSome (computuslaw04_given.f a0_0 a0_1)) (∀ (m42 : Int), m42 = Prod.fst (gd (computuslaw04_given.f a0_0 a0_1)) → ∀ (m43 : Int), m43 = Prod.snd (gd (computuslaw04_given.f a0_0 a0_1)) → brc (Option.isSome (dec_Right.f m42 m43)) (∀ (m44 : Bool), m44 = gd (dec_Right.f m42 m43) → brc (Option.isSome (computusref04_Right.f a0_0 a0_1)) (∀ (m45 : Bool), m45 = gd (computusref04_Right.f a0_0 a0_1) → brc (m44 == m45) (brc (decide (computuslaw04_known.f k = some true)) (∀ (m46 : Bool), m46 = true → K (AV.bool m46)) False) (K (AV.bool false))) False) False) False) (K (AV.bool false))) False) False) False) False) (K (AV.bool false))) (K (AV.bool false))) False) (K (AV.bool false))) (K (AV.bool false))) False) (K (AV.bool false))) (K (AV.bool false))) False) False) False) False) False) False) False) False) False) False) False) False) False) := by kernel_rfl
set_option maxHeartbeats 1000000 in
set_option maxRecDepth 100000 in
theorem computuslaw04_DecSums.calls (k : Nat) (a0_0 : Int) (a0_1 : Int) (a1_0 : Int) (a1_1 : Int) (r : Bool) (w : World) (h : computuslaw04_DecSums.f k a0_0 a0_1 a1_0 a1_1 = some r) (hR : r = true) :
    Calls Try.prog 8 #[.agg #[.int .i64 a0_0, .int .i64 a0_1], .agg #[.int .i64 a1_0, .int .i64 a1_1]] w fun e w' => e = .returned (.bool r) ∧ Below w.heap.size w w' := by
  refine calls_of_vc (A := [.agg #[.int .i64 a0_0, .int .i64 a0_1], .agg #[.int .i64 a1_0, .int .i64 a1_1]]) (v := .bool r) (tab_cons (computuslaw04_given.cok) (tab_cons (computuslaw04_taken.cok) (tab_cons (computusref04_Right.cok) (tab_cons (computuslaw04_known.cok k) (tab_cons (dec_Sub.cok k) (tab_cons (dec_Add.cok k) (tab_cons (dec_Cmp.cok k) (tab_cons (dec_Mul.cok k) (tab_cons (computusref04_Add.cok k) (tab_cons (computusref04_Sub.cok k) (tab_cons (computusref04_Mul.cok k) (tab_cons (computusref04_Cmp.cok k) (tab_cons (dec_Right.cok) (tab_nil)))))))))))))) ((computuslaw04_DecSums.vc k a0_0 a0_1 a1_0 a1_1 _).mpr ?_) (by simp [rl_cons, rl_nil, rv_int, rv_bool, rv_str, rv_agg, rv_fn]) (fun ρ V' hV => by simpa [rl_cons, rl_nil, rv_int, rv_bool, rv_str, rv_agg, rv_tup] using hV)
  unfold computuslaw04_DecSums.f at h
  (try simp only [bne, Option.bind_eq_some_iff, ite_some_iff] at h)
  (try simp only [bne, brc_iff, wrap_i64])
  first
    | grind (splits := 60) [gd_some]
    | ((repeat' (first | (have or_ : Or _ _ := h; clear or_; rcases h with h | h) | (have or_ : Exists _ := h; clear or_; obtain ⟨_, h⟩ := h) | (have or_ : And _ _ := h; clear or_; obtain ⟨hq_, h⟩ := h))) <;> (try simp only [Option.some.injEq, Prod.mk.injEq, reduceCtorEq] at h) <;> (try subst_vars) <;> first | (simp_all [gd_some] <;> (try omega) <;> rcases hb0 : decide (computuslaw04_known.f k = some true) with _ | _ <;> simp_all [gd_some] <;> done) | grind (splits := 60) [gd_some])
    | (intros; subst_vars; simp_all [gd_some]; done)
/-- THE ONE PURE STATEMENT of computuslaw04_DecSums: yours. -/
def computuslaw04_DecSums.Pure : Prop := ∀ (a0_0 : Int) (a0_1 : Int) (a1_0 : Int) (a1_1 : Int), (Lit.int .i64 a0_0).wf = true → (Lit.int .i64 a0_1).wf = true → (Lit.int .i64 a1_0).wf = true → (Lit.int .i64 a1_1).wf = true → ∃ k, computuslaw04_DecSums.f k a0_0 a0_1 a1_0 a1_1 = some true
theorem computuslaw04_DecSums.walk (P : computuslaw04_DecSums.Pure) (a0_0 : Int) (a0_1 : Int) (a1_0 : Int) (a1_1 : Int) (w : World) (w0_0 : (Lit.int .i64 a0_0).wf = true) (w0_1 : (Lit.int .i64 a0_1).wf = true) (w1_0 : (Lit.int .i64 a1_0).wf = true) (w1_1 : (Lit.int .i64 a1_1).wf = true) :
    Calls Try.prog 8 #[.agg #[.int .i64 a0_0, .int .i64 a0_1], .agg #[.int .i64 a1_0, .int .i64 a1_1]] w fun e w' => e = .returned (.bool true) ∧ Below w.heap.size w w' := by
  obtain ⟨k, h⟩ := P a0_0 a0_1 a1_0 a1_1 w0_0 w0_1 w1_0 w1_1
  refine (computuslaw04_DecSums.calls k a0_0 a0_1 a1_0 a1_1 true w h rfl).mono ?_
  rintro e w' ⟨rfl, hd⟩
  exact ⟨rfl, hd⟩
end Go.Proofs.Ytkongoedgngfhaa.P
namespace Go.Proofs.Ytkongoedgngfhaa.Civ
set_option linter.unusedVariables false
set_option linter.unusedSimpArgs false
open Go.RowKit Go.Proofs.YtkongoedgngfhaaW.PrintWords Go.Proofs.YtkongoedgngfhaaW.PrintLast Go.Proofs.YtkongoedgngfhaaW.PrintMore
theorem w64 {x : Int} (h1 : -9223372036854775808 ≤ x) (h2 : x ≤ 9223372036854775807) : wrap64 x = x := by unfold wrap64; omega
/-- A number is one of 64 bits. -/
def I64 (x : Int) : Prop := -9223372036854775808 ≤ x ∧ x ≤ 9223372036854775807
theorem i64_of_wf {x : Int} (h : (Lit.int .i64 x).wf = true) : I64 x := by
  simp only [Lit.wf, IntKind.min, IntKind.max, IntKind.signed, IntKind.bits, Bool.and_eq_true, decide_eq_true_eq, if_true] at h
  exact h
theorem wrap_i64 (x : Int) : I64 (wrap64 x) := by unfold I64 wrap64; omega
theorem w64_of {x : Int} (h : I64 x) : wrap64 x = x := w64 h.1 h.2
theorem td_pos {a b : Int} (ha : 0 ≤ a) : Int.tdiv a b = a / b := Int.tdiv_eq_ediv_of_nonneg ha
theorem tm_pos {a b : Int} (ha : 0 ≤ a) : Int.tmod a b = a % b := Int.tmod_eq_emod_of_nonneg ha
theorem td_neg {a b : Int} (ha : a ≤ 0) : Int.tdiv a b = -((-a) / b) := by
  have : Int.tdiv (-a) b = (-a) / b := Int.tdiv_eq_ediv_of_nonneg (by omega)
  rw [← this, Int.neg_tdiv, Int.neg_neg]
theorem tm_neg {a b : Int} (ha : a ≤ 0) : Int.tmod a b = -((-a) % b) := by
  have : Int.tmod (-a) b = (-a) % b := Int.tmod_eq_emod_of_nonneg (by omega)
  rw [← this, Int.neg_tmod, Int.neg_neg]
/-- Cut division against floored division. -/
theorem cut_floor (a : Int) {b : Int} (hb : 0 < b) : (Int.tmod a b < 0 → Int.tdiv a b = a / b + 1 ∧ Int.tmod a b = a % b - b ∧ 0 < a % b) ∧ (¬ Int.tmod a b < 0 → Int.tdiv a b = a / b ∧ Int.tmod a b = a % b) := by
  rcases Int.le_total 0 a with h | h
  · rw [td_pos h, tm_pos h]
    have := Int.emod_nonneg a (Int.ne_of_gt hb)
    exact ⟨fun h => by omega, fun _ => ⟨rfl, rfl⟩⟩
  · rw [td_neg h, tm_neg h]
    have e := Int.mul_ediv_add_emod (-a) b
    have h1 := Int.emod_nonneg (-a) (Int.ne_of_gt hb)
    have h2 := Int.emod_lt_of_pos (-a) hb
    generalize (-a) / b = q at *
    generalize (-a) % b = r at *
    constructor
    · intro hr
      have := (Int.ediv_emod_unique (a := a) (b := b) (r := b - r) (q := -q - 1) hb).2 ⟨by rw [Int.mul_sub, Int.mul_neg]; omega, by omega, by omega⟩
      omega
    · intro hr
      have := (Int.ediv_emod_unique (a := a) (b := b) (r := 0) (q := -q) hb).2 ⟨by rw [Int.mul_neg]; omega, by omega, by omega⟩
      omega
theorem ediv_i64 {a b : Int} (ha : I64 a) (hb : 0 < b) : -9223372036854775808 ≤ a / b ∧ a / b ≤ 9223372036854775807 := by
  obtain ⟨h1, h2⟩ := ha
  have e := Int.mul_ediv_add_emod a b
  have g1 := Int.emod_nonneg a (Int.ne_of_gt hb)
  have g2 := Int.emod_lt_of_pos a hb
  constructor
  · rw [Int.le_ediv_iff_mul_le hb]
    have : -9223372036854775808 * b ≤ -9223372036854775808 * 1 := Int.mul_le_mul_of_nonpos_left (by omega) (by omega)
    omega
  · rcases Int.lt_or_le a 0 with h | h
    · have : a / b < 0 := Int.ediv_lt_of_lt_mul hb (by omega)
      omega
    · have := Int.ediv_le_self b h; omega
theorem Ev.at1 {α : Type} {g : Nat → Option α} {r : α} (h : ∀ k, g (k + 1) = some r) : Ev g r :=
  ⟨1, fun k hk => by obtain ⟨m, rfl⟩ : ∃ m, k = m + 1 := ⟨k - 1, by omega⟩; exact h m⟩
theorem Ev.cast {α : Type} {g : Nat → Option α} {r r' : α} (h : Ev g r) (e : r = r') : Ev g r' := e ▸ h
/-- What is told without rounds, and then what hangs on rounds. -/
theorem Ev.bind0 {α β : Type} {g : Option α} {f : Nat → α → Option β} {a : α} {r : β} (h : g = some a) (k : Ev (fun n => f n a) r) : Ev (fun n => g.bind (f n)) r := by
  subst h; exact k
/-- One round, as it stands. -/
theorem Ev.succ {α : Type} {g : Nat → Option α} {r : α} (h : Ev (fun k => g (k + 1)) r) : Ev g r := Ev.step (f := fun k => g (k + 1)) (fun _ => rfl) h
theorem Ev.pos {α : Type} {c : Prop} [Decidable c] {f g : Nat → Option α} {r : α} (h : c) (k : Ev f r) : Ev (fun n => if c then f n else g n) r := by
  simpa only [if_pos h] using k
theorem Ev.neg {α : Type} {c : Prop} [Decidable c] {f g : Nat → Option α} {r : α} (h : ¬ c) (k : Ev g r) : Ev (fun n => if c then f n else g n) r := by
  simpa only [if_neg h] using k
end Go.Proofs.Ytkongoedgngfhaa.Civ
namespace Go.Proofs.Ytkongoedgngfhaa.Civ
set_option linter.unusedVariables false
set_option linter.unusedSimpArgs false
open Go.RowKit Go.Proofs.YtkongoedgngfhaaW.PrintWords Go.Proofs.YtkongoedgngfhaaW.PrintLast Go.Proofs.YtkongoedgngfhaaW.PrintMore Go.Proofs.Ytkongoedgngfhaa.P
theorem u64m (x : Int) : IntKind.u64.wrap x = x % 18446744073709551616 := by simp [IntKind.wrap, IntKind.bits, IntKind.signed]
theorem u64w {x : Int} (h1 : 0 ≤ x) (h2 : x ≤ 18446744073709551615) : IntKind.u64.wrap x = x := by rw [u64m]; omega
theorem wraps_u64 (n : Int) (h₀ : 0 ≤ n) (h₁ : n < 2 ^ 64) : IntKind.u64.wrap n = n := by rw [u64m]; omega
theorem and32 {x : Int} (h1 : 0 ≤ x) (h2 : x ≤ 18446744073709551615) : Go.bits .and .u64 x 4294967295 = x % 4294967296 :=
  bits_mask .u64 64 (by decide) wraps_u64 32 (by decide) x h1 (by omega)
/-- Two parts that do not overlap. -/
theorem orj (i : Nat) (hi : i ≤ 63) {x y : Int} (hx0 : 0 ≤ x) (hx : x % 2 ^ i = 0) (hx1 : x ≤ 18446744073709551615) (hy0 : 0 ≤ y) (hy : y < 2 ^ i) : Go.bits .or .u64 x y = x + y := by
  refine bits_join .u64 64 (by decide) wraps_u64 i x y hx0 hx (by omega) hy0 hy ?_
  have : (2 : Int) ^ i ≤ 2 ^ 63 := by exact_mod_cast Nat.pow_le_pow_right (by decide) hi
  omega
/-- Its six parts. -/
def dig (n : Int) : List Int := [n % 4294967296, n / 4294967296 % 4294967296, n / 4294967296 / 4294967296 % 4294967296, n / 4294967296 / 4294967296 / 4294967296 % 4294967296, n / 4294967296 / 4294967296 / 4294967296 / 4294967296 % 4294967296, n / 4294967296 / 4294967296 / 4294967296 / 4294967296 / 4294967296 % 4294967296]
theorem part_bd (x : Int) : 0 ≤ x % 4294967296 ∧ x % 4294967296 < 4294967296 := by omega
theorem part_eq (x : Int) : x = x % 4294967296 + 4294967296 * (x / 4294967296) := by omega
theorem dig_form {a : Int} (h0 : 0 ≤ a) (h1 : a < 6277101735386680763835789423207666416102355444464034512896) : ∃ a0 a1 a2 a3 a4 a5, dig a = [a0, a1, a2, a3, a4, a5] ∧ ((0 ≤ a0 ∧ a0 < 4294967296) ∧ (0 ≤ a1 ∧ a1 < 4294967296) ∧ (0 ≤ a2 ∧ a2 < 4294967296) ∧ (0 ≤ a3 ∧ a3 < 4294967296) ∧ (0 ≤ a4 ∧ a4 < 4294967296) ∧ (0 ≤ a5 ∧ a5 < 4294967296)) ∧ a = a0 + 4294967296 * (a1 + 4294967296 * (a2 + 4294967296 * (a3 + 4294967296 * (a4 + 4294967296 * (a5))))) := by
  refine ⟨_, _, _, _, _, _, rfl, ⟨part_bd _, part_bd _, part_bd _, part_bd _, part_bd _, part_bd _⟩, ?_⟩
  have e : a / 4294967296 / 4294967296 / 4294967296 / 4294967296 / 4294967296 % 4294967296 = a / 4294967296 / 4294967296 / 4294967296 / 4294967296 / 4294967296 := by
    have h : a / 4294967296 / 4294967296 / 4294967296 / 4294967296 / 4294967296 = a / 1461501637330902918203684832716283019655932542976 := by omega
    omega
  rw [e, ← part_eq, ← part_eq, ← part_eq, ← part_eq, ← part_eq]
theorem part_lo {x y : Int} (h : 0 ≤ x ∧ x < 4294967296) : (x + 4294967296 * y) % 4294967296 = x ∧ (x + 4294967296 * y) / 4294967296 = y := by omega
theorem dig_of {a : Int} {a0 a1 a2 a3 a4 a5 : Int} (h : (0 ≤ a0 ∧ a0 < 4294967296) ∧ (0 ≤ a1 ∧ a1 < 4294967296) ∧ (0 ≤ a2 ∧ a2 < 4294967296) ∧ (0 ≤ a3 ∧ a3 < 4294967296) ∧ (0 ≤ a4 ∧ a4 < 4294967296) ∧ (0 ≤ a5 ∧ a5 < 4294967296)) (e : a = a0 + 4294967296 * (a1 + 4294967296 * (a2 + 4294967296 * (a3 + 4294967296 * (a4 + 4294967296 * (a5)))))) : dig a = [a0, a1, a2, a3, a4, a5] := by
  obtain ⟨h0, h1, h2, h3, h4, h5⟩ := h
  have h6 : a5 % 4294967296 = a5 := by omega
  unfold dig
  rw [e]
  simp only [(part_lo h0).1, (part_lo h0).2, (part_lo h1).1, (part_lo h1).2, (part_lo h2).1, (part_lo h2).2, (part_lo h3).1, (part_lo h3).2, (part_lo h4).1, (part_lo h4).2, h6]
theorem dig_zero : dig 0 = List.replicate 6 0 := rfl
theorem hv_bd {a0 a1 a2 a3 a4 a5 : Int} (h : (0 ≤ a0 ∧ a0 < 4294967296) ∧ (0 ≤ a1 ∧ a1 < 4294967296) ∧ (0 ≤ a2 ∧ a2 < 4294967296) ∧ (0 ≤ a3 ∧ a3 < 4294967296) ∧ (0 ≤ a4 ∧ a4 < 4294967296) ∧ (0 ≤ a5 ∧ a5 < 4294967296)) : 0 ≤ a0 + 4294967296 * (a1 + 4294967296 * (a2 + 4294967296 * (a3 + 4294967296 * (a4 + 4294967296 * (a5))))) ∧ a0 + 4294967296 * (a1 + 4294967296 * (a2 + 4294967296 * (a3 + 4294967296 * (a4 + 4294967296 * (a5))))) < 6277101735386680763835789423207666416102355444464034512896 := by
  obtain ⟨h0, h1, h2, h3, h4, h5⟩ := h
  have g4 : 0 ≤ a4 + 4294967296 * a5 ∧ a4 + 4294967296 * a5 < 18446744073709551616 := by omega
  generalize a4 + 4294967296 * a5 = x4 at *
  have g3 : 0 ≤ a3 + 4294967296 * x4 ∧ a3 + 4294967296 * x4 < 79228162514264337593543950336 := by omega
  generalize a3 + 4294967296 * x4 = x3 at *
  have g2 : 0 ≤ a2 + 4294967296 * x3 ∧ a2 + 4294967296 * x3 < 340282366920938463463374607431768211456 := by omega
  generalize a2 + 4294967296 * x3 = x2 at *
  have g1 : 0 ≤ a1 + 4294967296 * x2 ∧ a1 + 4294967296 * x2 < 1461501637330902918203684832716283019655932542976 := by omega
  generalize a1 + 4294967296 * x2 = x1 at *
  omega
theorem mod_of {x D c : Int} (h : x = D + 6277101735386680763835789423207666416102355444464034512896 * c) (h0 : 0 ≤ D ∧ D < 6277101735386680763835789423207666416102355444464034512896) : x % 6277101735386680763835789423207666416102355444464034512896 = D := by omega
theorem add_next (k : Nat) {x0 x1 x5 : List Int} {c i u v : Int} (h0 : 0 ≤ i) (h6 : i < 6) (l0 : x0.length = 6) (l1 : x1.length = 6) (l5 : x5.length = 6) (hc : 0 ≤ c ∧ c ≤ 1)
    (hu : rd x0 i = u) (hv : rd x1 i = v) (ub : 0 ≤ u ∧ u < 4294967296) (vb : 0 ≤ v ∧ v < 4294967296) :
    ∃ d c', computusref01_add.l0 (k + 1) x0 x1 x5 c i = computusref01_add.l0 k x0 x1 (x5.set i.toNat d) c' (i + 1) ∧ (0 ≤ d ∧ d < 4294967296) ∧ (0 ≤ c' ∧ c' ≤ 1) ∧ c + u + v = d + 4294967296 * c' := by
  refine ⟨(c + u + v) % 4294967296, (c + u + v) / 4294967296, ?_, part_bd _, by omega, part_eq _⟩
  simp only [computusref01_add.l0]
  rw [if_pos h6, if_pos h0, l0, l1, l5, if_pos (by omega), if_pos (by omega), if_pos (by omega), hu, hv, u64w (x := c + u) (by omega) (by omega), u64w (x := c + u + v) (by omega) (by omega), and32 (by omega) (by omega), w64 (by omega) (by omega)]
theorem add_key {a0 a1 a2 a3 a4 a5 b0 b1 b2 b3 b4 b5 d0 d1 d2 d3 d4 d5 c1 c2 c3 c4 c5 c6 : Int} (h0 : 0 + a0 + b0 = d0 + 4294967296 * c1) (h1 : c1 + a1 + b1 = d1 + 4294967296 * c2) (h2 : c2 + a2 + b2 = d2 + 4294967296 * c3) (h3 : c3 + a3 + b3 = d3 + 4294967296 * c4) (h4 : c4 + a4 + b4 = d4 + 4294967296 * c5) (h5 : c5 + a5 + b5 = d5 + 4294967296 * c6) : (a0 + 4294967296 * (a1 + 4294967296 * (a2 + 4294967296 * (a3 + 4294967296 * (a4 + 4294967296 * (a5)))))) + (b0 + 4294967296 * (b1 + 4294967296 * (b2 + 4294967296 * (b3 + 4294967296 * (b4 + 4294967296 * (b5)))))) = (d0 + 4294967296 * (d1 + 4294967296 * (d2 + 4294967296 * (d3 + 4294967296 * (d4 + 4294967296 * (d5)))))) + 6277101735386680763835789423207666416102355444464034512896 * c6 := by omega
theorem add_dig (k : Nat) {a b : Int} (ha : 0 ≤ a) (ha1 : a < 6277101735386680763835789423207666416102355444464034512896) (hb : 0 ≤ b) (hb1 : b < 6277101735386680763835789423207666416102355444464034512896) : computusref01_add.f (k + 7) (dig a) (dig b) = some (dig ((a + b) % 6277101735386680763835789423207666416102355444464034512896)) := by
  obtain ⟨a0, a1, a2, a3, a4, a5, ea, ⟨A0, A1, A2, A3, A4, A5⟩, va⟩ := dig_form ha ha1
  obtain ⟨b0, b1, b2, b3, b4, b5, eb, ⟨B0, B1, B2, B3, B4, B5⟩, vb⟩ := dig_form hb hb1
  clear ha ha1 hb hb1
  rw [ea, eb]
  unfold computusref01_add.f
  rw [if_pos (by decide), show (List.replicate 6 0 : List Int) = [0, 0, 0, 0, 0, 0] from rfl]
  have C0 : (0 : Int) ≤ 0 ∧ (0 : Int) ≤ 1 := by decide
  obtain ⟨d0, c1, e0, D0, C1, E0⟩ := add_next (k + 6) (x0 := [a0, a1, a2, a3, a4, a5]) (x1 := [b0, b1, b2, b3, b4, b5]) (x5 := [0, 0, 0, 0, 0, 0]) (c := 0) (i := 0) (u := a0) (v := b0) (by decide) (by decide) rfl rfl rfl C0 rfl rfl A0 B0
  refine e0.trans ?_
  show computusref01_add.l0 (k + 6) [a0, a1, a2, a3, a4, a5] [b0, b1, b2, b3, b4, b5] [d0, 0, 0, 0, 0, 0] c1 1 = _
  obtain ⟨d1, c2, e1, D1, C2, E1⟩ := add_next (k + 5) (x0 := [a0, a1, a2, a3, a4, a5]) (x1 := [b0, b1, b2, b3, b4, b5]) (x5 := [d0, 0, 0, 0, 0, 0]) (c := c1) (i := 1) (u := a1) (v := b1) (by decide) (by decide) rfl rfl rfl C1 rfl rfl A1 B1
  refine e1.trans ?_
  show computusref01_add.l0 (k + 5) [a0, a1, a2, a3, a4, a5] [b0, b1, b2, b3, b4, b5] [d0, d1, 0, 0, 0, 0] c2 2 = _
  obtain ⟨d2, c3, e2, D2, C3, E2⟩ := add_next (k + 4) (x0 := [a0, a1, a2, a3, a4, a5]) (x1 := [b0, b1, b2, b3, b4, b5]) (x5 := [d0, d1, 0, 0, 0, 0]) (c := c2) (i := 2) (u := a2) (v := b2) (by decide) (by decide) rfl rfl rfl C2 rfl rfl A2 B2
  refine e2.trans ?_
  show computusref01_add.l0 (k + 4) [a0, a1, a2, a3, a4, a5] [b0, b1, b2, b3, b4, b5] [d0, d1, d2, 0, 0, 0] c3 3 = _
  obtain ⟨d3, c4, e3, D3, C4, E3⟩ := add_next (k + 3) (x0 := [a0, a1, a2, a3, a4, a5]) (x1 := [b0, b1, b2, b3, b4, b5]) (x5 := [d0, d1, d2, 0, 0, 0]) (c := c3) (i := 3) (u := a3) (v := b3) (by decide) (by decide) rfl rfl rfl C3 rfl rfl A3 B3
  refine e3.trans ?_
  show computusref01_add.l0 (k + 3) [a0, a1, a2, a3, a4, a5] [b0, b1, b2, b3, b4, b5] [d0, d1, d2, d3, 0, 0] c4 4 = _
  obtain ⟨d4, c5, e4, D4, C5, E4⟩ := add_next (k + 2) (x0 := [a0, a1, a2, a3, a4, a5]) (x1 := [b0, b1, b2, b3, b4, b5]) (x5 := [d0, d1, d2, d3, 0, 0]) (c := c4) (i := 4) (u := a4) (v := b4) (by decide) (by decide) rfl rfl rfl C4 rfl rfl A4 B4
  refine e4.trans ?_
  show computusref01_add.l0 (k + 2) [a0, a1, a2, a3, a4, a5] [b0, b1, b2, b3, b4, b5] [d0, d1, d2, d3, d4, 0] c5 5 = _
  obtain ⟨d5, c6, e5, D5, C6, E5⟩ := add_next (k + 1) (x0 := [a0, a1, a2, a3, a4, a5]) (x1 := [b0, b1, b2, b3, b4, b5]) (x5 := [d0, d1, d2, d3, d4, 0]) (c := c5) (i := 5) (u := a5) (v := b5) (by decide) (by decide) rfl rfl rfl C5 rfl rfl A5 B5
  refine e5.trans ?_
  show computusref01_add.l0 (k + 1) [a0, a1, a2, a3, a4, a5] [b0, b1, b2, b3, b4, b5] [d0, d1, d2, d3, d4, d5] c6 6 = _
  simp only [computusref01_add.l0]
  have key := add_key E0 E1 E2 E3 E4 E5
  rw [← va, ← vb] at key
  rw [if_neg (by decide), dig_of ⟨D0, D1, D2, D3, D4, D5⟩ (mod_of key (hv_bd ⟨D0, D1, D2, D3, D4, D5⟩))]
theorem add_ev {a b : Int} (ha : 0 ≤ a) (hb : 0 ≤ b) (h : a + b < 6277101735386680763835789423207666416102355444464034512896) : Ev (fun k => computusref01_add.f k (dig a) (dig b)) (dig (a + b)) := by
  have e := Ev.of (computusref01_add.mono (dig a) (dig b)) (add_dig 0 ha (by omega) hb (by omega))
  rwa [show (a + b) % 6277101735386680763835789423207666416102355444464034512896 = a + b by omega] at e
theorem less_next (k : Nat) {x0 x1 x5 : List Int} {c i u v : Int} (h0 : 0 ≤ i) (h6 : i < 6) (l0 : x0.length = 6) (l1 : x1.length = 6) (l5 : x5.length = 6) (hc : 0 ≤ c ∧ c ≤ 1)
    (hu : rd x0 i = u) (hv : rd x1 i = v) (ub : 0 ≤ u ∧ u < 4294967296) (vb : 0 ≤ v ∧ v < 4294967296) :
    ∃ d c', computusref01_less.l0 (k + 1) x0 x1 x5 c i = computusref01_less.l0 k x0 x1 (x5.set i.toNat d) c' (i + 1) ∧ (0 ≤ d ∧ d < 4294967296) ∧ (0 ≤ c' ∧ c' ≤ 1) ∧ u - v - c = d - 4294967296 * c' := by
  refine ⟨(u + 4294967296 - v - c) % 4294967296, 1 - (u + 4294967296 - v - c) / 4294967296, ?_, part_bd _, by omega, by omega⟩
  simp only [computusref01_less.l0]
  rw [if_pos h6, if_pos h0, l0, l1, l5, if_pos (by omega), if_pos (by omega), if_pos (by omega), hu, hv, u64w (x := u + 4294967296) (by omega) (by omega), u64w (x := u + 4294967296 - v) (by omega) (by omega), u64w (x := u + 4294967296 - v - c) (by omega) (by omega), and32 (by omega) (by omega), u64w (x := 1 - (u + 4294967296 - v - c) / 4294967296) (by omega) (by omega), w64 (by omega) (by omega)]
theorem less_key {a0 a1 a2 a3 a4 a5 b0 b1 b2 b3 b4 b5 d0 d1 d2 d3 d4 d5 c1 c2 c3 c4 c5 c6 : Int} (h0 : a0 - b0 - 0 = d0 - 4294967296 * c1) (h1 : a1 - b1 - c1 = d1 - 4294967296 * c2) (h2 : a2 - b2 - c2 = d2 - 4294967296 * c3) (h3 : a3 - b3 - c3 = d3 - 4294967296 * c4) (h4 : a4 - b4 - c4 = d4 - 4294967296 * c5) (h5 : a5 - b5 - c5 = d5 - 4294967296 * c6) : (a0 + 4294967296 * (a1 + 4294967296 * (a2 + 4294967296 * (a3 + 4294967296 * (a4 + 4294967296 * (a5)))))) - (b0 + 4294967296 * (b1 + 4294967296 * (b2 + 4294967296 * (b3 + 4294967296 * (b4 + 4294967296 * (b5)))))) = (d0 + 4294967296 * (d1 + 4294967296 * (d2 + 4294967296 * (d3 + 4294967296 * (d4 + 4294967296 * (d5)))))) - 6277101735386680763835789423207666416102355444464034512896 * c6 := by omega
theorem sub_of {x D c : Int} (h : x = D - 6277101735386680763835789423207666416102355444464034512896 * c) (h0 : 0 ≤ D ∧ D < 6277101735386680763835789423207666416102355444464034512896) (hx : 0 ≤ x) (hx1 : x < 6277101735386680763835789423207666416102355444464034512896) : x = D := by omega
theorem less_dig (k : Nat) {a b : Int} (ha1 : a < 6277101735386680763835789423207666416102355444464034512896) (hb : 0 ≤ b) (hab : b ≤ a) : computusref01_less.f (k + 7) (dig a) (dig b) = some (dig (a - b)) := by
  have h1 : 0 ≤ a - b := by omega
  have h2 : a - b < 6277101735386680763835789423207666416102355444464034512896 := by omega
  obtain ⟨a0, a1, a2, a3, a4, a5, ea, ⟨A0, A1, A2, A3, A4, A5⟩, va⟩ := dig_form (a := a) (by omega) ha1
  obtain ⟨b0, b1, b2, b3, b4, b5, eb, ⟨B0, B1, B2, B3, B4, B5⟩, vb⟩ := dig_form hb (by omega)
  clear ha1 hb hab
  rw [ea, eb]
  unfold computusref01_less.f
  rw [if_pos (by decide), show (List.replicate 6 0 : List Int) = [0, 0, 0, 0, 0, 0] from rfl]
  have C0 : (0 : Int) ≤ 0 ∧ (0 : Int) ≤ 1 := by decide
  obtain ⟨d0, c1, e0, D0, C1, E0⟩ := less_next (k + 6) (x0 := [a0, a1, a2, a3, a4, a5]) (x1 := [b0, b1, b2, b3, b4, b5]) (x5 := [0, 0, 0, 0, 0, 0]) (c := 0) (i := 0) (u := a0) (v := b0) (by decide) (by decide) rfl rfl rfl C0 rfl rfl A0 B0
  refine e0.trans ?_
  show computusref01_less.l0 (k + 6) [a0, a1, a2, a3, a4, a5] [b0, b1, b2, b3, b4, b5] [d0, 0, 0, 0, 0, 0] c1 1 = _
  obtain ⟨d1, c2, e1, D1, C2, E1⟩ := less_next (k + 5) (x0 := [a0, a1, a2, a3, a4, a5]) (x1 := [b0, b1, b2, b3, b4, b5]) (x5 := [d0, 0, 0, 0, 0, 0]) (c := c1) (i := 1) (u := a1) (v := b1) (by decide) (by decide) rfl rfl rfl C1 rfl rfl A1 B1
  refine e1.trans ?_
  show computusref01_less.l0 (k + 5) [a0, a1, a2, a3, a4, a5] [b0, b1, b2, b3, b4, b5] [d0, d1, 0, 0, 0, 0] c2 2 = _
  obtain ⟨d2, c3, e2, D2, C3, E2⟩ := less_next (k + 4) (x0 := [a0, a1, a2, a3, a4, a5]) (x1 := [b0, b1, b2, b3, b4, b5]) (x5 := [d0, d1, 0, 0, 0, 0]) (c := c2) (i := 2) (u := a2) (v := b2) (by decide) (by decide) rfl rfl rfl C2 rfl rfl A2 B2
  refine e2.trans ?_
  show computusref01_less.l0 (k + 4) [a0, a1, a2, a3, a4, a5] [b0, b1, b2, b3, b4, b5] [d0, d1, d2, 0, 0, 0] c3 3 = _
  obtain ⟨d3, c4, e3, D3, C4, E3⟩ := less_next (k + 3) (x0 := [a0, a1, a2, a3, a4, a5]) (x1 := [b0, b1, b2, b3, b4, b5]) (x5 := [d0, d1, d2, 0, 0, 0]) (c := c3) (i := 3) (u := a3) (v := b3) (by decide) (by decide) rfl rfl rfl C3 rfl rfl A3 B3
  refine e3.trans ?_
  show computusref01_less.l0 (k + 3) [a0, a1, a2, a3, a4, a5] [b0, b1, b2, b3, b4, b5] [d0, d1, d2, d3, 0, 0] c4 4 = _
  obtain ⟨d4, c5, e4, D4, C5, E4⟩ := less_next (k + 2) (x0 := [a0, a1, a2, a3, a4, a5]) (x1 := [b0, b1, b2, b3, b4, b5]) (x5 := [d0, d1, d2, d3, 0, 0]) (c := c4) (i := 4) (u := a4) (v := b4) (by decide) (by decide) rfl rfl rfl C4 rfl rfl A4 B4
  refine e4.trans ?_
  show computusref01_less.l0 (k + 2) [a0, a1, a2, a3, a4, a5] [b0, b1, b2, b3, b4, b5] [d0, d1, d2, d3, d4, 0] c5 5 = _
  obtain ⟨d5, c6, e5, D5, C6, E5⟩ := less_next (k + 1) (x0 := [a0, a1, a2, a3, a4, a5]) (x1 := [b0, b1, b2, b3, b4, b5]) (x5 := [d0, d1, d2, d3, d4, 0]) (c := c5) (i := 5) (u := a5) (v := b5) (by decide) (by decide) rfl rfl rfl C5 rfl rfl A5 B5
  refine e5.trans ?_
  show computusref01_less.l0 (k + 1) [a0, a1, a2, a3, a4, a5] [b0, b1, b2, b3, b4, b5] [d0, d1, d2, d3, d4, d5] c6 6 = _
  simp only [computusref01_less.l0]
  have key := less_key E0 E1 E2 E3 E4 E5
  rw [← va, ← vb] at key
  rw [if_neg (by decide), dig_of ⟨D0, D1, D2, D3, D4, D5⟩ (sub_of key (hv_bd ⟨D0, D1, D2, D3, D4, D5⟩) h1 h2)]
theorem less_ev {a b : Int} (ha1 : a < 6277101735386680763835789423207666416102355444464034512896) (hb : 0 ≤ b) (hab : b ≤ a) : Ev (fun k => computusref01_less.f k (dig a) (dig b)) (dig (a - b)) :=
  Ev.of (computusref01_less.mono (dig a) (dig b)) (less_dig 0 ha1 hb hab)
def sgn (a b : Int) : Int := if a < b then -1 else if b < a then 1 else 0
theorem sgn_lt {a b : Int} (h : a < b) : sgn a b = -1 := if_pos h
theorem sgn_gt {a b : Int} (h : b < a) : sgn a b = 1 := by unfold sgn; rw [if_neg (by omega), if_pos h]
theorem sgn_eq {a b : Int} (h : a = b) : sgn a b = 0 := by unfold sgn; rw [if_neg (by omega), if_neg (by omega)]
theorem lt_in {x y u v : Int} (hx : 0 ≤ x ∧ x < 4294967296) (hy : 0 ≤ y ∧ y < 4294967296) (h : u < v) : x + 4294967296 * u < y + 4294967296 * v := by omega
theorem lt_at {x y u v : Int} (h : x < y) (e : u = v) : x + 4294967296 * u < y + 4294967296 * v := by omega
theorem eq_in {x y u v : Int} (h : x = y) (e : u = v) : x + 4294967296 * u = y + 4294967296 * v := by omega
theorem eq_of_not {x y : Int} (h : ¬ x < y) (g : ¬ x > y) : x = y := by omega
theorem cmp_step (k : Nat) {x0 x1 : List Int} {i u v : Int} (h0 : 0 ≤ i) (h6 : i < 6) (l0 : x0.length = 6) (l1 : x1.length = 6) (hu : rd x0 i = u) (hv : rd x1 i = v) :
    computusref01_cmp.l0 (k + 1) x0 x1 i = if u < v then some (-1) else if u > v then some 1 else computusref01_cmp.l0 k x0 x1 (i - 1) := by
  simp only [computusref01_cmp.l0]
  rw [if_pos (by omega), if_pos h0, l0, l1, if_pos (by omega), if_pos (by omega), hu, hv, w64 (by omega) (by omega)]
theorem cmp_dig (k : Nat) {a b : Int} (ha : 0 ≤ a) (ha1 : a < 6277101735386680763835789423207666416102355444464034512896) (hb : 0 ≤ b) (hb1 : b < 6277101735386680763835789423207666416102355444464034512896) : computusref01_cmp.f (k + 7) (dig a) (dig b) = some (sgn a b) := by
  obtain ⟨a0, a1, a2, a3, a4, a5, ea, ⟨A0, A1, A2, A3, A4, A5⟩, va⟩ := dig_form ha ha1
  obtain ⟨b0, b1, b2, b3, b4, b5, eb, ⟨B0, B1, B2, B3, B4, B5⟩, vb⟩ := dig_form hb hb1
  clear ha ha1 hb hb1
  rw [ea, eb]
  unfold computusref01_cmp.f
  rw [cmp_step (k + 6) (i := 5) (u := a5) (v := b5) (by decide) (by decide) rfl rfl rfl rfl]
  by_cases g5 : a5 < b5
  · rw [if_pos g5, va, vb, sgn_lt (lt_in A0 B0 (lt_in A1 B1 (lt_in A2 B2 (lt_in A3 B3 (lt_in A4 B4 (g5))))))]
  rw [if_neg g5]
  by_cases f5 : a5 > b5
  · rw [if_pos f5, va, vb, sgn_gt (lt_in B0 A0 (lt_in B1 A1 (lt_in B2 A2 (lt_in B3 A3 (lt_in B4 A4 (f5))))))]
  rw [if_neg f5]
  have Q5 := eq_of_not g5 f5
  show computusref01_cmp.l0 (k + 6) [a0, a1, a2, a3, a4, a5] [b0, b1, b2, b3, b4, b5] 4 = _
  rw [cmp_step (k + 5) (i := 4) (u := a4) (v := b4) (by decide) (by decide) rfl rfl rfl rfl]
  by_cases g4 : a4 < b4
  · rw [if_pos g4, va, vb, sgn_lt (lt_in A0 B0 (lt_in A1 B1 (lt_in A2 B2 (lt_in A3 B3 (lt_at g4 Q5)))))]
  rw [if_neg g4]
  by_cases f4 : a4 > b4
  · rw [if_pos f4, va, vb, sgn_gt (lt_in B0 A0 (lt_in B1 A1 (lt_in B2 A2 (lt_in B3 A3 (lt_at f4 Q5.symm)))))]
  rw [if_neg f4]
  have Q4 := eq_in (eq_of_not g4 f4) Q5
  show computusref01_cmp.l0 (k + 5) [a0, a1, a2, a3, a4, a5] [b0, b1, b2, b3, b4, b5] 3 = _
  rw [cmp_step (k + 4) (i := 3) (u := a3) (v := b3) (by decide) (by decide) rfl rfl rfl rfl]
  by_cases g3 : a3 < b3
  · rw [if_pos g3, va, vb, sgn_lt (lt_in A0 B0 (lt_in A1 B1 (lt_in A2 B2 (lt_at g3 Q4))))]
  rw [if_neg g3]
  by_cases f3 : a3 > b3
  · rw [if_pos f3, va, vb, sgn_gt (lt_in B0 A0 (lt_in B1 A1 (lt_in B2 A2 (lt_at f3 Q4.symm))))]
  rw [if_neg f3]
  have Q3 := eq_in (eq_of_not g3 f3) Q4
  show computusref01_cmp.l0 (k + 4) [a0, a1, a2, a3, a4, a5] [b0, b1, b2, b3, b4, b5] 2 = _
  rw [cmp_step (k + 3) (i := 2) (u := a2) (v := b2) (by decide) (by decide) rfl rfl rfl rfl]
  by_cases g2 : a2 < b2
  · rw [if_pos g2, va, vb, sgn_lt (lt_in A0 B0 (lt_in A1 B1 (lt_at g2 Q3)))]
  rw [if_neg g2]
  by_cases f2 : a2 > b2
  · rw [if_pos f2, va, vb, sgn_gt (lt_in B0 A0 (lt_in B1 A1 (lt_at f2 Q3.symm)))]
  rw [if_neg f2]
  have Q2 := eq_in (eq_of_not g2 f2) Q3
  show computusref01_cmp.l0 (k + 3) [a0, a1, a2, a3, a4, a5] [b0, b1, b2, b3, b4, b5] 1 = _
  rw [cmp_step (k + 2) (i := 1) (u := a1) (v := b1) (by decide) (by decide) rfl rfl rfl rfl]
  by_cases g1 : a1 < b1
  · rw [if_pos g1, va, vb, sgn_lt (lt_in A0 B0 (lt_at g1 Q2))]
  rw [if_neg g1]
  by_cases f1 : a1 > b1
  · rw [if_pos f1, va, vb, sgn_gt (lt_in B0 A0 (lt_at f1 Q2.symm))]
  rw [if_neg f1]
  have Q1 := eq_in (eq_of_not g1 f1) Q2
  show computusref01_cmp.l0 (k + 2) [a0, a1, a2, a3, a4, a5] [b0, b1, b2, b3, b4, b5] 0 = _
  rw [cmp_step (k + 1) (i := 0) (u := a0) (v := b0) (by decide) (by decide) rfl rfl rfl rfl]
  by_cases g0 : a0 < b0
  · rw [if_pos g0, va, vb, sgn_lt (lt_at g0 Q1)]
  rw [if_neg g0]
  by_cases f0 : a0 > b0
  · rw [if_pos f0, va, vb, sgn_gt (lt_at f0 Q1.symm)]
  rw [if_neg f0]
  have Q0 := eq_in (eq_of_not g0 f0) Q1
  show computusref01_cmp.l0 (k + 1) [a0, a1, a2, a3, a4, a5] [b0, b1, b2, b3, b4, b5] (-1) = _
  simp only [computusref01_cmp.l0]
  rw [if_neg (by decide), va, vb, sgn_eq Q0]
theorem cmp_ev {a b : Int} (ha : 0 ≤ a) (ha1 : a < 6277101735386680763835789423207666416102355444464034512896) (hb : 0 ≤ b) (hb1 : b < 6277101735386680763835789423207666416102355444464034512896) : Ev (fun k => computusref01_cmp.f k (dig a) (dig b)) (sgn a b) :=
  Ev.of (computusref01_cmp.mono (dig a) (dig b)) (cmp_dig 0 ha ha1 hb hb1)
theorem zero_ev {a : Int} (ha : 0 ≤ a) (ha1 : a < 6277101735386680763835789423207666416102355444464034512896) : Ev (fun k => computusref01_zero.f k (dig a)) (decide (a = 0)) := by
  unfold computusref01_zero.f
  simp only [if_pos (show (6 : Int) ≤ 35184372088832 by omega), ← dig_zero]
  refine Ev.bind (cmp_ev ha ha1 (by omega) (by omega)) ?_
  have e : (sgn a 0 == 0) = decide (a = 0) := by
    unfold sgn
    by_cases h : a = 0
    · subst h; rfl
    · rw [if_neg (by omega), if_pos (by omega), decide_eq_false h]; rfl
  rw [e]; exact Ev.now _
end Go.Proofs.Ytkongoedgngfhaa.Civ
namespace Go.Proofs.Ytkongoedgngfhaa.Civ
set_option linter.unusedVariables false
set_option linter.unusedSimpArgs false
open Go.RowKit Go.Proofs.YtkongoedgngfhaaW.PrintWords Go.Proofs.YtkongoedgngfhaaW.PrintLast Go.Proofs.YtkongoedgngfhaaW.PrintMore Go.Proofs.Ytkongoedgngfhaa.P
instance (x : Int) : Decidable (I64 x) := inferInstanceAs (Decidable (_ ∧ _))
/-- A number, if it is one of 64 bits; else out of range. -/
def out (z : Int) : Int × Int := if I64 z then (z, 0) else (0, 10)
theorem out_in {z : Int} (h : I64 z) : out z = (z, 0) := if_pos h
theorem out_no {z : Int} (h : ¬ I64 z) : out z = (0, 10) := if_neg h
theorem add_eq (a b : Int) (ha : I64 a) (hb : I64 b) : num_Add.f a b = some (out (a + b)) := by
  unfold num_Add.f out
  by_cases h : I64 (a + b)
  · rw [if_pos h, w64_of h, if_neg]
    simp only [bne_iff_ne, ne_eq, Decidable.not_not]
    apply decide_eq_decide.2; omega
  · rw [if_neg h, if_pos]
    unfold I64 at *
    have hw : wrap64 (a + b) = a + b - 18446744073709551616 ∨ wrap64 (a + b) = a + b + 18446744073709551616 := by unfold wrap64; omega
    simp only [bne_iff_ne, ne_eq, decide_eq_decide]
    unfold wrap64 at *
    omega
theorem sub_eq (a b : Int) (ha : I64 a) (hb : I64 b) : num_Sub.f a b = some (out (a - b)) := by
  unfold num_Sub.f out
  by_cases h : I64 (a - b)
  · rw [if_pos h, w64_of h, if_neg]
    simp only [bne_iff_ne, ne_eq, Decidable.not_not]
    apply decide_eq_decide.2; omega
  · rw [if_neg h, if_pos]
    unfold I64 at *
    simp only [bne_iff_ne, ne_eq, decide_eq_decide]
    unfold wrap64 at *
    omega
/-- Without a sign. -/
def ab (a : Int) : Int := if a < 0 then -a else a
theorem ab_bd {a : Int} (h : I64 a) : 0 ≤ ab a ∧ ab a ≤ 9223372036854775808 := by unfold ab; unfold I64 at h; split <;> omega
theorem ab_pos {a : Int} (h : 0 ≤ a) : ab a = a := by unfold ab; rw [if_neg (by omega)]
theorem ab_neg {a : Int} (h : a < 0) : ab a = -a := by unfold ab; rw [if_pos h]
theorem size_eq (a : Int) (ha : I64 a) : num_size.f a = some (ab a) := by
  unfold num_size.f ab
  unfold I64 at ha
  by_cases h : a < 0
  · rw [if_pos h, if_pos h, u64m, u64m]; congr 1; omega
  · rw [if_neg h, if_neg h, u64m]; congr 1; omega
theorem mul_bd {x y a b : Int} (hx : 0 ≤ x) (hxa : x ≤ a) (hy : 0 ≤ y) (hyb : y ≤ b) : 0 ≤ x * y ∧ x * y ≤ a * b :=
  ⟨Int.mul_nonneg hx hy, Int.mul_le_mul hxa hyb hy (by omega)⟩
theorem mul64_eq (x y : Int) (hx : 0 ≤ x) (hx1 : x ≤ 18446744073709551615) (hy : 0 ≤ y) (hy1 : y ≤ 18446744073709551615) :
    bits_Mul64.f x y = some (x * y / 18446744073709551616, x * y % 18446744073709551616) := by
  unfold bits_Mul64.f
  rw [and32 hx hx1, and32 hy hy1]
  have ex : x = x / 4294967296 * 4294967296 + x % 4294967296 := by omega
  have ey : y = y / 4294967296 * 4294967296 + y % 4294967296 := by omega
  have bx1 : 0 ≤ x / 4294967296 ∧ x / 4294967296 ≤ 4294967295 := by omega
  have bx0 : 0 ≤ x % 4294967296 ∧ x % 4294967296 ≤ 4294967295 := by omega
  have by1 : 0 ≤ y / 4294967296 ∧ y / 4294967296 ≤ 4294967295 := by omega
  have by0 : 0 ≤ y % 4294967296 ∧ y % 4294967296 ≤ 4294967295 := by omega
  have p11 := mul_bd bx1.1 bx1.2 by1.1 by1.2
  have p10 := mul_bd bx1.1 bx1.2 by0.1 by0.2
  have p01 := mul_bd bx0.1 bx0.2 by1.1 by1.2
  have p00 := mul_bd bx0.1 bx0.2 by0.1 by0.2
  have e : x * y = x / 4294967296 * (y / 4294967296) * 18446744073709551616 + (x / 4294967296 * (y % 4294967296) + x % 4294967296 * (y / 4294967296)) * 4294967296 + x % 4294967296 * (y % 4294967296) := by
    conv => lhs; rw [ex, ey]
    simp only [Int.mul_add, Int.add_mul]
    have c1 : x / 4294967296 * 4294967296 * (y / 4294967296 * 4294967296) = x / 4294967296 * (y / 4294967296) * 18446744073709551616 := by
      rw [Int.mul_assoc, Int.mul_left_comm 4294967296, ← Int.mul_assoc (x / 4294967296)]; rfl
    have c2 : x % 4294967296 * (y / 4294967296 * 4294967296) = x % 4294967296 * (y / 4294967296) * 4294967296 := by rw [Int.mul_assoc]
    have c3 : x / 4294967296 * 4294967296 * (y % 4294967296) = x / 4294967296 * (y % 4294967296) * 4294967296 := by rw [Int.mul_assoc, Int.mul_comm 4294967296, ← Int.mul_assoc]
    rw [c1, c2, c3]; omega
  generalize x * y = P at *
  generalize x / 4294967296 * (y / 4294967296) = P11 at *
  generalize x / 4294967296 * (y % 4294967296) = P10 at *
  generalize x % 4294967296 * (y / 4294967296) = P01 at *
  generalize x % 4294967296 * (y % 4294967296) = P00 at *
  clear ex ey bx1 bx0 by1 by0 hx hx1 hy hy1
  rw [u64w (x := P11) (by omega) (by omega), u64w (x := P10) (by omega) (by omega), u64w (x := P00) (by omega) (by omega), u64w (x := P01) (by omega) (by omega)]
  have t : 0 ≤ P00 / 4294967296 ∧ P00 / 4294967296 ≤ 4294967295 := by omega
  rw [u64w (x := P10 + P00 / 4294967296) (by omega) (by omega), and32 (by omega) (by omega)]
  obtain ⟨T, hT⟩ : ∃ T, P10 + P00 / 4294967296 = T := ⟨_, rfl⟩
  rw [hT]
  rw [u64w (x := T % 4294967296 + P01) (by omega) (by omega), u64w (x := P11 + T / 4294967296) (by omega) (by omega), u64w (x := P11 + T / 4294967296 + (T % 4294967296 + P01) / 4294967296) (by omega) (by omega), u64m]
  congr 2
  omega
theorem product_eq (a b : Int) (ha : I64 a) (hb : I64 b) : num_product.f a b = some (ab a * ab b / 18446744073709551616, ab a * ab b % 18446744073709551616) := by
  have h1 := ab_bd ha
  have h2 := ab_bd hb
  unfold num_product.f
  rw [size_eq a ha, size_eq b hb]
  simp only [Option.bind_some]
  rw [mul64_eq _ _ h1.1 (by omega) h2.1 (by omega)]
  rfl
theorem signed_eq (k : Nat) (neg : Bool) (hi lo : Int) (h0 : 0 ≤ hi) (h1 : 0 ≤ lo) (h2 : lo ≤ 18446744073709551615) :
    num_signed.f (k + 1) neg hi lo = some (out (if neg = true then -(hi * 18446744073709551616 + lo) else hi * 18446744073709551616 + lo)) := by
  unfold num_signed.f
  by_cases hh : hi = 0
  · subst hh
    rw [if_pos rfl]
    cases neg with
    | true =>
      simp only [if_true, num_signed.j0]
      by_cases g : lo ≤ 9223372036854775808
      · rw [decide_eq_true g, if_pos rfl, out_in (by unfold I64; omega), u64m]
        congr 2; unfold wrap64; omega
      · rw [decide_eq_false g, if_neg (by simp), out_no (by unfold I64; omega)]
    | false =>
      simp only [num_signed.j0, Bool.false_eq_true, if_false]
      by_cases g : lo > 9223372036854775807
      · rw [if_pos g, out_no (by unfold I64; omega)]
      · rw [if_neg g, out_in (by unfold I64; omega), w64 (by omega) (by omega)]
        congr 2; omega
  · rw [if_neg hh]
    cases neg with
    | true => rw [if_pos rfl, out_no (by unfold I64; omega)]
    | false => rw [if_neg (by simp), out_no (by unfold I64; omega)]
/-- The sign of a product. -/
theorem mul_sign (a b : Int) : (if ((decide (a < 0)) != (decide (b < 0))) = true then -(ab a * ab b) else ab a * ab b) = a * b := by
  by_cases h1 : a < 0
  · by_cases h2 : b < 0
    · rw [decide_eq_true h1, decide_eq_true h2, if_neg (by simp), ab_neg h1, ab_neg h2, Int.neg_mul_neg]
    · rw [decide_eq_true h1, decide_eq_false h2, if_pos (by simp), ab_neg h1, ab_pos (by omega), Int.neg_mul, Int.neg_neg]
  · by_cases h2 : b < 0
    · rw [decide_eq_false h1, decide_eq_true h2, if_pos (by simp), ab_pos (by omega), ab_neg h2, Int.mul_neg, Int.neg_neg]
    · rw [decide_eq_false h1, decide_eq_false h2, if_neg (by simp), ab_pos (by omega), ab_pos (by omega)]
theorem mul_eq (k : Nat) (a b : Int) (ha : I64 a) (hb : I64 b) : num_Mul.f (k + 1) a b = some (out (a * b)) := by
  have h1 := ab_bd ha
  have h2 := ab_bd hb
  have h3 := mul_bd h1.1 h1.2 h2.1 h2.2
  unfold num_Mul.f
  rw [product_eq a b ha hb]
  simp only [Option.bind_some]
  rw [signed_eq _ _ _ _ (by omega) (by omega) (by omega)]
  simp only [Option.bind_some]
  rw [show ab a * ab b / 18446744073709551616 * 18446744073709551616 + ab a * ab b % 18446744073709551616 = ab a * ab b by omega, mul_sign]
/-- How often, the greatest whole number that is not above; what is left. -/
def fl (a b : Int) : Int := if b < 0 then (-a) / (-b) else a / b
def md (a b : Int) : Int := if b < 0 then -((-a) % (-b)) else a % b
theorem fl_unique {a b q r : Int} (h : a = b * q + r) (hr : (0 ≤ r ∧ r < b) ∨ (b < r ∧ r ≤ 0)) : fl a b = q ∧ md a b = r := by
  unfold fl md
  by_cases hb : b < 0
  · rw [if_pos hb, if_pos hb]
    have := (Int.ediv_emod_unique (a := -a) (b := -b) (r := -r) (q := q) (by omega)).2 ⟨by rw [Int.neg_mul]; omega, by omega, by omega⟩
    omega
  · rw [if_neg hb, if_neg hb]
    have := (Int.ediv_emod_unique (a := a) (b := b) (r := r) (q := q) (by omega)).2 ⟨by omega, by omega, by omega⟩
    omega
theorem div64_small (k : Nat) (lo y : Int) (h0 : 0 < y) (h1 : 0 ≤ lo) (h2 : lo ≤ 18446744073709551615) : bits_Div64.f k 0 lo y = some (lo / y, lo % y) := by
  unfold bits_Div64.f
  rw [if_neg (by omega), if_neg (by omega), if_pos rfl, td_pos h1, tm_pos h1]
  have := Int.ediv_le_self y h1
  have := Int.ediv_nonneg h1 (b := y) (by omega)
  rw [u64w (by omega) (by omega)]
/-- Of a product without signs, and how often a number without a sign is there: with the signs. -/
theorem fl_signs {a b c P D : Int} (hP : ab a * ab b = P) (hD : ab c = D) (hc : c ≠ 0) :
    fl (a * b) c = if (((decide (a < 0)) != (decide (b < 0))) != (decide (c < 0))) = true then (if P % D = 0 then -(P / D) else -(P / D) - 1) else P / D := by
  have hs := mul_sign a b
  rw [hP] at hs
  have hD0 : 0 < D := by rw [← hD]; unfold ab; split <;> omega
  have e := Int.mul_ediv_add_emod P D
  have r0 := Int.emod_nonneg P (Int.ne_of_gt hD0)
  have r1 := Int.emod_lt_of_pos P hD0
  have hP0 : ((decide (a < 0)) != (decide (b < 0))) = true → a * b = -P := fun h => by rw [if_pos h] at hs; exact hs.symm
  have hP1 : ((decide (a < 0)) != (decide (b < 0))) = false → a * b = P := fun h => by rw [if_neg (by rw [h]; simp)] at hs; exact hs.symm
  generalize ((decide (a < 0)) != (decide (b < 0))) = s at *
  generalize P / D = q at *
  generalize P % D = r at *
  have em : D * (q + 1) = D * q + D := by rw [Int.mul_add, Int.mul_one]
  by_cases h3 : c < 0
  · rw [ab_neg h3] at hD
    rw [decide_eq_true h3]
    cases s with
    | true =>
      rw [if_neg (by simp), hP0 rfl]
      exact (fl_unique (r := -r) (by rw [← e, show c = -D by omega, Int.neg_mul]; omega) (by omega)).1
    | false =>
      rw [if_pos (by simp), hP1 rfl]
      by_cases hr : r = 0
      · rw [if_pos hr]
        exact (fl_unique (r := 0) (by rw [← e, show c = -D by omega, Int.neg_mul_neg]; omega) (by omega)).1
      · rw [if_neg hr]
        exact (fl_unique (r := r - D) (by rw [← e, show c = -D by omega, show -q - 1 = -(q + 1) by omega, Int.neg_mul_neg]; omega) (by omega)).1
  · rw [ab_pos (by omega)] at hD
    subst hD
    rw [decide_eq_false h3]
    cases s with
    | true =>
      rw [if_pos (by simp), hP0 rfl]
      by_cases hr : r = 0
      · rw [if_pos hr]
        exact (fl_unique (r := 0) (by rw [← e, Int.mul_neg]; omega) (by omega)).1
      · rw [if_neg hr]
        exact (fl_unique (r := c - r) (by rw [← e, show -q - 1 = -(q + 1) by omega, Int.mul_neg]; omega) (by omega)).1
    | false =>
      rw [if_neg (by simp), hP1 rfl]
      exact (fl_unique (r := r) (by omega) (by omega)).1
theorem add64_eq (x : Int) (h0 : 0 ≤ x) : bits_Add64.f x 1 0 = some ((x + 1) % 18446744073709551616, (x + 1) / 18446744073709551616) := by
  unfold bits_Add64.f
  rw [if_pos h0, if_pos (by omega), if_pos (by omega), if_pos (by omega), Int.add_zero]
/-- One number times another one, and how often a third one is there: if the division of 128 bits by 64 is as it is. -/
theorem scale_of (k : Nat) (a b c : Int) (ha : I64 a) (hb : I64 b) (hc : I64 c) (h0 : c ≠ 0)
    (hd : ab a * ab b / 18446744073709551616 < ab c → bits_Div64.f (k + 1) (ab a * ab b / 18446744073709551616) (ab a * ab b % 18446744073709551616) (ab c) = some (ab a * ab b / ab c, ab a * ab b % ab c)) :
    num_Scale.f (k + 1) a b c = some (out (fl (a * b) c)) := by
  have h1 := ab_bd ha
  have h2 := ab_bd hb
  have h3 := ab_bd hc
  have h4 := mul_bd h1.1 h1.2 h2.1 h2.2
  have hD0 : 0 < ab c := by unfold ab; split <;> omega
  rw [fl_signs rfl rfl h0]
  unfold num_Scale.f
  rw [if_neg h0, product_eq a b ha hb, size_eq c hc]
  simp only [Option.bind_some]
  generalize hP : ab a * ab b = P at *
  generalize hD : ab c = D at *
  have e := Int.mul_ediv_add_emod P D
  have r0 := Int.emod_nonneg P (Int.ne_of_gt hD0)
  have r1 := Int.emod_lt_of_pos P hD0
  have q0 : 0 ≤ P / D := Int.ediv_nonneg h4.1 (by omega)
  by_cases hl : P / 18446744073709551616 ≥ D
  · rw [if_pos hl]
    have hq : 18446744073709551616 ≤ P / D := by
      rw [Int.le_ediv_iff_mul_le hD0]; omega
    split
    · split
      · rw [out_no (by unfold I64; omega)]
      · rw [out_no (by unfold I64; omega)]
    · rw [out_no (by unfold I64; omega)]
  · rw [if_neg hl, hd (by omega)]
    simp only [Option.bind_some]
    have hq : P / D < 18446744073709551616 := Int.ediv_lt_of_lt_mul hD0 (by omega)
    generalize P / D = q at *
    generalize P % D = r at *
    by_cases hs : (((decide (a < 0)) != (decide (b < 0))) != (decide (c < 0))) = true
    · rw [if_pos hs, if_pos hs, hs]
      by_cases hr : r = 0
      · rw [if_pos hr, if_pos hr, signed_eq _ _ _ _ (by omega) (by omega) (by omega), if_pos rfl]
        simp only [Option.bind_some]
        rw [show (0 : Int) * 18446744073709551616 + q = q by omega]
      · rw [if_neg hr, if_neg hr, add64_eq _ q0]
        simp only [Option.bind_some]
        rw [signed_eq _ _ _ _ (by omega) (by omega) (by omega), if_pos rfl]
        simp only [Option.bind_some]
        rw [show (q + 1) / 18446744073709551616 * 18446744073709551616 + (q + 1) % 18446744073709551616 = q + 1 by omega, show -(q + 1) = -q - 1 by omega]
    · rw [if_neg hs, if_neg hs, signed_eq _ _ _ _ (by omega) (by omega) (by omega), if_neg hs]
      simp only [Option.bind_some]
      rw [show (0 : Int) * 18446744073709551616 + q = q by omega]
theorem div_eq (k : Nat) (a c : Int) (ha : I64 a) (hc : I64 c) (h0 : c ≠ 0) : num_Div.f (k + 1) a c = some (out (fl a c)) := by
  have h1 := ab_bd ha
  have h3 := ab_bd hc
  have hD0 : 0 < ab c := by unfold ab; split <;> omega
  unfold num_Div.f
  rw [scale_of k a 1 c ha (by unfold I64; omega) hc h0 (fun _ => ?_)]
  · simp only [Option.bind_some, Int.mul_one]
  · rw [ab_pos (a := 1) (by omega), Int.mul_one, show ab a / 18446744073709551616 = 0 by omega, show ab a % 18446744073709551616 = ab a by omega]
    exact div64_small _ _ _ hD0 h1.1 (by omega)
theorem mod_eq (a b : Int) (ha : I64 a) (hb : I64 b) (h0 : b ≠ 0) : num_Mod.f a b = some (md a b, 0) := by
  unfold num_Mod.f
  rw [if_neg h0]
  by_cases h1 : b = -1
  · rw [if_pos h1]
    have : md a b = 0 := by unfold md; rw [if_pos (by omega), h1]; simp
    rw [this]
  rw [if_neg h1]
  unfold I64 at hb
  by_cases hs : b < 0
  · -- the remainder of a cut division has the sign of a
    have e : Int.tmod a b = Int.tmod a (-b) := by rw [Int.tmod_neg]
    have c := cut_floor a (b := -b) (by omega)
    have g1 := Int.emod_nonneg a (b := -b) (by omega)
    have g2 := Int.emod_lt_of_pos a (b := -b) (by omega)
    have e2 : md a b = if a % (-b) = 0 then 0 else a % (-b) + b := by
      have d := Int.mul_ediv_add_emod a (-b)
      split
      · rename_i hz
        exact (fl_unique (q := -(a / -b)) (by rw [Int.mul_neg, ← Int.neg_mul]; omega) (by omega)).2
      · exact (fl_unique (q := -(a / -b) - 1) (by rw [show -(a / -b) - 1 = -((a / -b) + 1) by omega, Int.mul_neg, ← Int.neg_mul, Int.mul_add]; omega) (by omega)).2
    rw [e, e2]
    by_cases hn : Int.tmod a (-b) < 0
    · obtain ⟨c1, c2, c3⟩ := c.1 hn
      rw [if_neg (by omega), if_neg (show ¬ a % (-b) = 0 by omega), decide_eq_true hn, decide_eq_true hs, if_neg (by simp)]
      congr 2; omega
    · obtain ⟨c1, c2⟩ := c.2 hn
      rw [c2]
      by_cases hz : a % (-b) = 0
      · rw [if_pos hz, if_pos hz, hz]
      · rw [if_neg hz, if_neg hz, decide_eq_false (show ¬ a % (-b) < 0 by omega), decide_eq_true hs, if_pos (by simp), w64 (by omega) (by omega)]
  · have c := cut_floor a (b := b) (by omega)
    have g1 := Int.emod_nonneg a (b := b) (by omega)
    have g2 := Int.emod_lt_of_pos a (b := b) (by omega)
    have e2 : md a b = a % b := by unfold md; rw [if_neg hs]
    rw [e2]
    by_cases hn : Int.tmod a b < 0
    · obtain ⟨c1, c2, c3⟩ := c.1 hn
      rw [if_neg (by omega), decide_eq_true hn, decide_eq_false hs, if_pos (by simp), w64 (by omega) (by omega)]
      congr 2; omega
    · obtain ⟨c1, c2⟩ := c.2 hn
      rw [c2]
      by_cases hz : a % b = 0
      · rw [if_pos hz]
      · rw [if_neg hz, decide_eq_false (show ¬ a % b < 0 by omega), decide_eq_false hs, if_neg (by simp)]
theorem fl_pos {a b : Int} (h : 0 < b) : fl a b = a / b := by unfold fl; rw [if_neg (by omega)]
theorem md_pos {a b : Int} (h : 0 < b) : md a b = a % b := by unfold md; rw [if_neg (by omega)]
end Go.Proofs.Ytkongoedgngfhaa.Civ
namespace Go.Proofs.Ytkongoedgngfhaa.Civ
set_option linter.unusedVariables false
set_option linter.unusedSimpArgs false
open Go.RowKit Go.Proofs.YtkongoedgngfhaaW.PrintWords Go.Proofs.YtkongoedgngfhaaW.PrintLast Go.Proofs.YtkongoedgngfhaaW.PrintMore Go.Proofs.Ytkongoedgngfhaa.P
/-- A wide number's sign and parts. -/
def ng (x : Int) : Bool := decide (x < 0)
def dg (x : Int) : List Int := dig (ab x)
theorem ng_true {x : Int} (h : x < 0) : ng x = true := decide_eq_true h
theorem ng_false {x : Int} (h : ¬ x < 0) : ng x = false := decide_eq_false h
def Wide (x : Int) : Prop := -6277101735386680763835789423207666416102355444464034512896 < x ∧ x < 6277101735386680763835789423207666416102355444464034512896
theorem ab_wide {x : Int} (h : Wide x) : 0 ≤ ab x ∧ ab x < 6277101735386680763835789423207666416102355444464034512896 := by unfold Wide at h; unfold ab; split <;> omega
theorem ab_zero {x : Int} : ab x = 0 ↔ x = 0 := by unfold ab; split <;> omega
theorem of_list (u v : Int) (h0 : 0 ≤ u) (h1 : u ≤ 18446744073709551615) : ((List.replicate 6 0).set (0 : Int).toNat (u % 4294967296)).set (1 : Int).toNat (u / 4294967296) = dig u := by
  show [u % 4294967296, u / 4294967296, 0, 0, 0, 0] = dig u
  rw [dig_of (a := u) (a0 := u % 4294967296) (a1 := u / 4294967296) (a2 := 0) (a3 := 0) (a4 := 0) (a5 := 0) (by omega) (by omega)]
theorem of_eq (a : Int) (h : I64 a) : computusref01_Of.f a = some (ng a, dg a) := by
  have h' := h
  unfold I64 at h'
  unfold computusref01_Of.f
  by_cases g : a < 0
  · have e : IntKind.u64.wrap (-IntKind.u64.wrap a) = -a := by rw [u64m, u64m]; omega
    simp only [if_pos g, if_pos (show (6 : Int) ≤ 35184372088832 by omega), Option.bind_some, e, List.length_replicate]
    rw [and32 (by omega) (by omega), if_pos (by decide), if_pos (by decide), of_list (-a) 0 (by omega) (by omega)]
    unfold dg; rw [ab_neg g, ng_true g]; rfl
  · have e : IntKind.u64.wrap a = a := by rw [u64m]; omega
    simp only [if_neg g, if_pos (show (6 : Int) ≤ 35184372088832 by omega), Option.bind_some, e, List.length_replicate]
    rw [and32 (by omega) (by omega), if_pos (by decide), if_pos (by decide), of_list a 0 (by omega) (by omega)]
    unfold dg; rw [ab_pos (by omega), ng_false g]; rfl
theorem minus_ev {x : Int} (h : Wide x) : Ev (fun k => computusref01_Minus.f k (ng x) (dg x)) (ng (-x), dg (-x)) := by
  have hb := ab_wide h
  have e : dg (-x) = dg x := by unfold dg ab; congr 1; split <;> split <;> omega
  unfold computusref01_Minus.f
  rw [e]
  by_cases g : x < 0
  · rw [ng_true g, ng_false (by omega)]
    exact Ev.now _
  · rw [ng_false g]
    simp only [Bool.false_eq_true, if_false]
    refine Ev.bind (zero_ev hb.1 hb.2) ?_
    have : (!decide (ab x = 0)) = ng (-x) := by
      by_cases z : x = 0
      · subst z; rfl
      · rw [decide_eq_false (fun f => z (ab_zero.1 f)), ng_true (by omega)]; rfl
    rw [this]; exact Ev.now _
theorem plus_ev {x y : Int} (hx : Wide x) (hy : Wide y) (hs : Wide (x + y)) : Ev (fun k => computusref01_Plus.f k (ng x) (dg x) (ng y) (dg y)) (ng (x + y), dg (x + y)) := by
  have bx := ab_wide hx
  have by_ := ab_wide hy
  have bs := ab_wide hs
  unfold computusref01_Plus.f
  have cmpE := cmp_ev bx.1 bx.2 by_.1 by_.2
  by_cases g : ng x = ng y
  · simp only [beq_iff_eq, if_pos g]
    have e1 : ab x + ab y = ab (x + y) := by
      unfold ng at g
      have := decide_eq_decide.1 g
      unfold ab; split <;> split <;> split <;> omega
    have e2 : ng x = ng (x + y) := by
      unfold ng at g ⊢
      have := decide_eq_decide.1 g
      apply decide_eq_decide.2; omega
    refine Ev.bind (add_ev bx.1 by_.1 (by omega)) ?_
    rw [e1, e2]
    exact Ev.now _
  · simp only [beq_iff_eq, if_neg g]
    have g' : ¬ (x < 0 ↔ y < 0) := fun f => g (by unfold ng; exact decide_eq_decide.2 f)
    refine Ev.bind cmpE ?_
    by_cases hc : ab y ≤ ab x
    · have e1 : ab x - ab y = ab (x + y) := by revert hc; unfold ab; split <;> split <;> split <;> omega
      have c0 : sgn (ab x) (ab y) ≥ 0 := by unfold sgn; split <;> omega
      simp only [if_pos c0]
      by_cases hn : x < 0
      · simp only [ng_true hn, if_true]
        refine Ev.bind cmpE (Ev.bind (less_ev bx.2 by_.1 hc) ?_)
        have : decide (sgn (ab x) (ab y) > 0) = ng (x + y) := by
          unfold ng
          apply decide_eq_decide.2
          unfold sgn
          revert hc; unfold ab; rw [if_pos hn, if_neg (by omega)]
          intro hc
          rw [if_neg (by omega)]
          split <;> omega
        rw [this, e1]
        exact Ev.now _
      · simp only [ng_false hn, Bool.false_eq_true, if_false]
        refine Ev.bind (less_ev bx.2 by_.1 hc) ?_
        have : ¬ x + y < 0 := by revert hc; unfold ab; rw [if_neg hn, if_pos (by omega)]; omega
        rw [e1, ng_false this]
        exact Ev.now _
    · have e1 : ab y - ab x = ab (x + y) := by revert hc; unfold ab; split <;> split <;> split <;> omega
      have c0 : ¬ sgn (ab x) (ab y) ≥ 0 := by unfold sgn; rw [if_pos (by omega)]; omega
      simp only [if_neg c0]
      refine Ev.bind (less_ev by_.2 bx.1 (by omega)) ?_
      have : ng y = ng (x + y) := by
        unfold ng
        apply decide_eq_decide.2
        revert hc; unfold ab; split <;> split <;> omega
      rw [e1, this]
      exact Ev.now _
theorem small_step (k : Nat) {n : Bool} {x : List Int} {i v : Int} (h0 : 2 ≤ i) (h6 : i < 6) (hl : x.length = 6) (hv : rd x i = v) :
    computusref01_Small.l0 (k + 1) i n x = if v = 0 then computusref01_Small.l0 k (i + 1) n x else some (0, 10) := by
  simp only [computusref01_Small.l0]
  rw [if_pos h6, if_pos (by omega), hl, if_pos (by omega), hv, w64 (by omega) (by omega)]
theorem small_end (k : Nat) (x u v : Int) (hu : 0 ≤ u ∧ u < 4294967296) (hv : 0 ≤ v ∧ v < 4294967296) (e : ab x = u + 4294967296 * v) (l : List Int) (hl : l.length = 6) (h0 : rd l 0 = u) (h1 : rd l 1 = v) :
    computusref01_Small.l0 (k + 2) 6 (ng x) l = some (out x) := by
  have eo : Go.bits .or .u64 (IntKind.u64.wrap (v * 4294967296)) u = ab x := by
    rw [u64w (by omega) (by omega), orj 32 (by omega) (by omega) (by omega) (by omega) hu.1 (by omega)]; omega
  simp only [computusref01_Small.l0]
  rw [if_neg (by omega), hl, if_pos (by decide), if_pos (by decide), h0, h1, eo]
  have hb : 0 ≤ ab x ∧ ab x ≤ 18446744073709551615 := by omega
  clear eo e h0 h1 hl hu hv
  by_cases g : x < 0
  · rw [ng_true g, if_pos rfl]
    rw [ab_neg g] at hb ⊢
    by_cases q : -x ≤ 9223372036854775808
    · rw [decide_eq_true q, out_in (by unfold I64; omega)]
      simp only [computusref01_Small.j1, if_true]
      rw [u64m]; congr 2; unfold wrap64; omega
    · rw [decide_eq_false q, out_no (by unfold I64; omega)]
      simp only [computusref01_Small.j1]
      rfl
  · rw [ng_false g]
    rw [ab_pos (by omega)] at hb ⊢
    simp only [Bool.false_eq_true, if_false, computusref01_Small.j1]
    by_cases q : x ≥ 9223372036854775808
    · rw [if_pos q, out_no (by unfold I64; omega)]
    · rw [if_neg q, out_in (by unfold I64; omega), w64 (by omega) (by omega)]
theorem small_ev {x : Int} (h : Wide x) : Ev (fun k => computusref01_Small.f k (ng x) (dg x)) (out x) := by
  have hb := ab_wide h
  obtain ⟨a0, a1, a2, a3, a4, a5, ea, ⟨A0, A1, A2, A3, A4, A5⟩, va⟩ := dig_form hb.1 hb.2
  refine Ev.of (computusref01_Small.mono (ng x) (dg x)) (k := 6) ?_
  unfold computusref01_Small.f dg
  rw [ea]
  have no : 18446744073709551616 ≤ ab x → out x = (0, 10) := fun g => out_no (by unfold ab at g; unfold I64; split at g <;> omega)
  rw [small_step 5 (i := 2) (v := a2) (by omega) (by omega) rfl rfl]
  by_cases g2 : a2 = 0
  · rw [if_pos g2, small_step 4 (i := 2 + 1) (v := a3) (by omega) (by omega) rfl rfl]
    by_cases g3 : a3 = 0
    · rw [if_pos g3, small_step 3 (i := 2 + 1 + 1) (v := a4) (by omega) (by omega) rfl rfl]
      by_cases g4 : a4 = 0
      · rw [if_pos g4, small_step 2 (i := 2 + 1 + 1 + 1) (v := a5) (by omega) (by omega) rfl rfl]
        by_cases g5 : a5 = 0
        · rw [if_pos g5]
          exact small_end 0 x a0 a1 A0 A1 (by rw [va, g2, g3, g4, g5]; omega) _ rfl rfl rfl
        · rw [if_neg g5, no (by rw [va, g2, g3, g4]; omega)]
      · rw [if_neg g4, no (by rw [va, g2, g3]; omega)]
    · rw [if_neg g3, no (by rw [va, g2]; omega)]
  · rw [if_neg g2, no (by rw [va]; omega)]
theorem row_next (k : Nat) {x5 row L1 L2 : List Int} {s1 s2 : Bool} {c i j u v : Int} (hi : 0 ≤ i) (hj : 0 ≤ j) (hi2 : i < 2) (hj3 : j < 3) (l1 : L1.length = 6) (l2 : L2.length = 6) (lr : row.length = 6) (hc : 0 ≤ c ∧ c < 4294967296)
    (hu : rd L1 i = u) (hv : rd L2 j = v) (ub : 0 ≤ u ∧ u < 4294967296) (vb : 0 ≤ v ∧ v < 4294967296) :
    ∃ d c', computusref01_Times.l1 (k + 1) x5 i row c j s1 L1 s2 L2 = computusref01_Times.l1 k x5 i (row.set (i + j).toNat d) c' (j + 1) s1 L1 s2 L2 ∧ (0 ≤ d ∧ d < 4294967296) ∧ (0 ≤ c' ∧ c' < 4294967296) ∧ c + u * v = d + 4294967296 * c' := by
  have hp := mul_bd ub.1 (show u ≤ 4294967295 by omega) vb.1 (show v ≤ 4294967295 by omega)
  refine ⟨(c + u * v) % 4294967296, (c + u * v) / 4294967296, ?_, part_bd _, by omega, part_eq _⟩
  simp only [computusref01_Times.l1]
  rw [w64 (x := i + j) (by omega) (by omega), if_pos hj3, if_pos hi, l1, if_pos (by omega), if_pos hj, l2, if_pos (by omega), if_pos (by omega), lr, if_pos (by omega), hu, hv, u64w (x := u * v) (by omega) (by omega), u64w (x := c + u * v) (by omega) (by omega), and32 (by omega) (by omega), w64 (by omega) (by omega)]
theorem row_end (x5 : List Int) (i : Int) (r : List Int) (c : Int) (s1 : Bool) (L1 : List Int) (s2 : Bool) (L2 : List Int) {t : List Int} {res : Bool × List Int} (hi : 0 ≤ i ∧ i < 5) (ha : Ev (fun k => computusref01_add.f k x5 r) t)
    (h : Ev (fun k => computusref01_Times.l0 k t (i + 1) s1 L1 s2 L2) res) : Ev (fun k => computusref01_Times.l1 k x5 i r c 3 s1 L1 s2 L2) res := by
  refine Ev.step (f := fun k => (computusref01_add.f k x5 r).bind fun t => computusref01_Times.l0 k t (wrap64 (i + 1)) s1 L1 s2 L2) (fun k => ?_) (Ev.bind ha ?_)
  · simp only [computusref01_Times.l1]
    rw [if_neg (by omega)]
  · rw [w64 (by omega) (by omega)]; exact h
theorem two_parts {x : Int} (h0 : 0 ≤ x) (h1 : x ≤ 18446744073709551615) : ∃ x0 x1, dig x = [x0, x1, 0, 0, 0, 0] ∧ (0 ≤ x0 ∧ x0 < 4294967296) ∧ (0 ≤ x1 ∧ x1 < 4294967296) ∧ x = x0 + 4294967296 * x1 := by
  refine ⟨x % 4294967296, x / 4294967296, ?_, part_bd _, by omega, part_eq _⟩
  exact dig_of (by omega) (by omega)
theorem row0 {x0 y0 y1 d0 d1 d2 c1 c2 c3 : Int} (E0 : 0 + x0 * y0 = d0 + 4294967296 * c1) (E1 : c1 + x0 * y1 = d1 + 4294967296 * c2) (E2 : c2 + x0 * 0 = d2 + 4294967296 * c3) (C2 : 0 ≤ c2 ∧ c2 < 4294967296) (D2 : 0 ≤ d2 ∧ d2 < 4294967296) :
    x0 * (y0 + 4294967296 * y1) = d0 + 4294967296 * (d1 + 4294967296 * d2) := by
  have : x0 * (y0 + 4294967296 * y1) = x0 * y0 + 4294967296 * (x0 * y1) := by rw [Int.mul_add, Int.mul_left_comm]
  omega
theorem times_ev {x y : Int} (hx : -18446744073709551615 ≤ x ∧ x ≤ 18446744073709551615) (hy : -18446744073709551615 ≤ y ∧ y ≤ 18446744073709551615) :
    Ev (fun k => computusref01_Times.f k (ng x) (dg x) (ng y) (dg y)) (ng (x * y), dg (x * y)) := by
  have bx : 0 ≤ ab x ∧ ab x ≤ 18446744073709551615 := by unfold ab; split <;> omega
  have by_ : 0 ≤ ab y ∧ ab y ≤ 18446744073709551615 := by unfold ab; split <;> omega
  have hm := mul_sign x y
  have eab : ab (x * y) = ab x * ab y := by
    have hp := mul_bd bx.1 bx.2 by_.1 by_.2
    have neg_ab : ∀ P : Int, 0 ≤ P → ab (-P) = P := fun P h => by unfold ab; split <;> omega
    rw [← hm]; split
    · exact neg_ab _ hp.1
    · rw [ab_pos hp.1]
  have esg : (ng x != ng y) = true → ¬ ab x * ab y = 0 → x * y < 0 := by
    intro g z
    have hp := mul_bd bx.1 bx.2 by_.1 by_.2
    have g' : ((decide (x < 0)) != (decide (y < 0))) = true := g
    rw [← hm, if_pos g']; omega
  have esg2 : (ng x != ng y) = false → ¬ x * y < 0 := by
    intro g
    have hp := mul_bd bx.1 bx.2 by_.1 by_.2
    rw [← hm, if_neg (by unfold ng at g; rw [g]; simp)]; omega
  obtain ⟨x0, x1, ex, X0, X1, vx⟩ := two_parts bx.1 bx.2
  obtain ⟨y0, y1, ey, Y0, Y1, vy⟩ := two_parts by_.1 by_.2
  have hprod : ab x * ab y = x0 * ab y + 4294967296 * (x1 * ab y) := by
    conv => lhs; rw [vx]
    rw [Int.add_mul, Int.mul_assoc]
  have b0 := mul_bd X0.1 (show x0 ≤ 4294967295 by omega) by_.1 by_.2
  have b1 := mul_bd X1.1 (show x1 ≤ 4294967295 by omega) by_.1 by_.2
  have fin : Ev (fun k => computusref01_Times.l0 k (dig (ab x * ab y)) 2 (ng x) (dg x) (ng y) (dg y)) (ng (x * y), dg (x * y)) := by
    unfold dg
    rw [eab]
    by_cases g : (ng x != ng y) = true
    · refine Ev.step (f := fun k => (computusref01_zero.f k (dig (ab x * ab y))).bind fun t => some (!t, dig (ab x * ab y))) (fun k => ?_) (Ev.bind (zero_ev (by omega) (by omega)) ?_)
      · simp only [computusref01_Times.l0]
        rw [if_neg (by omega), if_pos g]
      · by_cases z : ab x * ab y = 0
        · have : x * y = 0 := by rw [← ab_zero, eab]; exact z
          rw [decide_eq_true z, this]; exact Ev.now _
        · rw [decide_eq_false z, ng_true (esg g z)]; exact Ev.now _
    · have g' : (ng x != ng y) = false := by simpa using g
      refine Ev.at1 fun k => ?_
      simp only [computusref01_Times.l0]
      rw [if_neg (by omega), if_neg g, ng_false (esg2 g')]
  have Z : (0 : Int) ≤ 0 ∧ (0 : Int) < 4294967296 := by decide
  have r1 : Ev (fun k => computusref01_Times.l1 k (dig (x0 * ab y)) 1 [0, 0, 0, 0, 0, 0] 0 0 (ng x) (dg x) (ng y) (dg y)) (ng (x * y), dg (x * y)) := by
    obtain ⟨K, hK⟩ : Ev (fun k => computusref01_Times.l1 k (dig (x0 * ab y)) 1 (dig (4294967296 * (x1 * ab y))) 0 3 (ng x) (dg x) (ng y) (dg y)) (ng (x * y), dg (x * y)) := by
      refine row_end _ _ _ _ _ _ _ _ (by omega) (add_ev b0.1 (by omega) (by omega)) ?_
      rw [← hprod]; exact fin
    refine ⟨K + 3, fun k hk => ?_⟩
    obtain ⟨m, rfl⟩ : ∃ m, k = m + 3 := ⟨k - 3, by omega⟩
    obtain ⟨d0, c1, e0, D0, C1, E0⟩ := row_next (m + 2) (x5 := dig (x0 * ab y)) (row := [0, 0, 0, 0, 0, 0]) (L1 := dg x) (L2 := dg y) (s1 := ng x) (s2 := ng y) (c := 0) (i := 1) (j := 0) (u := x1) (v := y0) (by decide) (by decide) (by decide) (by decide) rfl rfl rfl Z (by unfold dg; rw [ex]; rfl) (by unfold dg; rw [ey]; rfl) X1 Y0
    refine e0.trans ?_
    show computusref01_Times.l1 (m + 2) (dig (x0 * ab y)) 1 [0, d0, 0, 0, 0, 0] c1 1 (ng x) (dg x) (ng y) (dg y) = _
    obtain ⟨d1, c2, e1, D1, C2, E1⟩ := row_next (m + 1) (x5 := dig (x0 * ab y)) (row := [0, d0, 0, 0, 0, 0]) (L1 := dg x) (L2 := dg y) (s1 := ng x) (s2 := ng y) (c := c1) (i := 1) (j := 1) (u := x1) (v := y1) (by decide) (by decide) (by decide) (by decide) rfl rfl rfl C1 (by unfold dg; rw [ex]; rfl) (by unfold dg; rw [ey]; rfl) X1 Y1
    refine e1.trans ?_
    show computusref01_Times.l1 (m + 1) (dig (x0 * ab y)) 1 [0, d0, d1, 0, 0, 0] c2 2 (ng x) (dg x) (ng y) (dg y) = _
    obtain ⟨d2, c3, e2, D2, C3, E2⟩ := row_next m (x5 := dig (x0 * ab y)) (row := [0, d0, d1, 0, 0, 0]) (L1 := dg x) (L2 := dg y) (s1 := ng x) (s2 := ng y) (c := c2) (i := 1) (j := 2) (u := x1) (v := 0) (by decide) (by decide) (by decide) (by decide) rfl rfl rfl C2 (by unfold dg; rw [ex]; rfl) (by unfold dg; rw [ey]; rfl) X1 Z
    refine e2.trans ?_
    have hr := row0 E0 E1 E2 C2 D2
    rw [← vy] at hr
    have hc3 : c3 = 0 := by omega
    subst hc3
    show computusref01_Times.l1 m (dig (x0 * ab y)) 1 [0, d0, d1, d2, 0, 0] 0 3 (ng x) (dg x) (ng y) (dg y) = _
    rw [← dig_of (a := 4294967296 * (x1 * ab y)) (a0 := 0) (a1 := d0) (a2 := d1) (a3 := d2) (a4 := 0) (a5 := 0) ⟨Z, D0, D1, D2, Z, Z⟩ (by rw [hr]; omega)]
    exact hK m (by omega)
  have r0 : Ev (fun k => computusref01_Times.l1 k (dig 0) 0 [0, 0, 0, 0, 0, 0] 0 0 (ng x) (dg x) (ng y) (dg y)) (ng (x * y), dg (x * y)) := by
    obtain ⟨K, hK⟩ : Ev (fun k => computusref01_Times.l1 k (dig 0) 0 (dig (x0 * ab y)) 0 3 (ng x) (dg x) (ng y) (dg y)) (ng (x * y), dg (x * y)) := by
      refine row_end _ _ _ _ _ _ _ _ (by omega) (add_ev (by omega) b0.1 (by omega)) ?_
      rw [Int.zero_add]
      refine Ev.step (f := fun k => computusref01_Times.l1 k (dig (x0 * ab y)) 1 [0, 0, 0, 0, 0, 0] 0 0 (ng x) (dg x) (ng y) (dg y)) (fun k => ?_) r1
      simp only [computusref01_Times.l0]
      rw [if_pos (by omega), if_pos (by omega)]
      rfl
    refine ⟨K + 3, fun k hk => ?_⟩
    obtain ⟨m, rfl⟩ : ∃ m, k = m + 3 := ⟨k - 3, by omega⟩
    obtain ⟨d0, c1, e0, D0, C1, E0⟩ := row_next (m + 2) (x5 := dig 0) (row := [0, 0, 0, 0, 0, 0]) (L1 := dg x) (L2 := dg y) (s1 := ng x) (s2 := ng y) (c := 0) (i := 0) (j := 0) (u := x0) (v := y0) (by decide) (by decide) (by decide) (by decide) rfl rfl rfl Z (by unfold dg; rw [ex]; rfl) (by unfold dg; rw [ey]; rfl) X0 Y0
    refine e0.trans ?_
    show computusref01_Times.l1 (m + 2) (dig 0) 0 [d0, 0, 0, 0, 0, 0] c1 1 (ng x) (dg x) (ng y) (dg y) = _
    obtain ⟨d1, c2, e1, D1, C2, E1⟩ := row_next (m + 1) (x5 := dig 0) (row := [d0, 0, 0, 0, 0, 0]) (L1 := dg x) (L2 := dg y) (s1 := ng x) (s2 := ng y) (c := c1) (i := 0) (j := 1) (u := x0) (v := y1) (by decide) (by decide) (by decide) (by decide) rfl rfl rfl C1 (by unfold dg; rw [ex]; rfl) (by unfold dg; rw [ey]; rfl) X0 Y1
    refine e1.trans ?_
    show computusref01_Times.l1 (m + 1) (dig 0) 0 [d0, d1, 0, 0, 0, 0] c2 2 (ng x) (dg x) (ng y) (dg y) = _
    obtain ⟨d2, c3, e2, D2, C3, E2⟩ := row_next m (x5 := dig 0) (row := [d0, d1, 0, 0, 0, 0]) (L1 := dg x) (L2 := dg y) (s1 := ng x) (s2 := ng y) (c := c2) (i := 0) (j := 2) (u := x0) (v := 0) (by decide) (by decide) (by decide) (by decide) rfl rfl rfl C2 (by unfold dg; rw [ex]; rfl) (by unfold dg; rw [ey]; rfl) X0 Z
    refine e2.trans ?_
    have hr := row0 E0 E1 E2 C2 D2
    rw [← vy] at hr
    have hc3 : c3 = 0 := by omega
    subst hc3
    show computusref01_Times.l1 m (dig 0) 0 [d0, d1, d2, 0, 0, 0] 0 3 (ng x) (dg x) (ng y) (dg y) = _
    rw [← dig_of (a := x0 * ab y) (a0 := d0) (a1 := d1) (a2 := d2) (a3 := 0) (a4 := 0) (a5 := 0) ⟨D0, D1, D2, Z, Z, Z⟩ (by rw [hr]; omega)]
    exact hK m (by omega)
  unfold computusref01_Times.f
  refine Ev.pos (by decide) ?_
  refine Ev.step (f := fun k => computusref01_Times.l1 k (dig 0) 0 [0, 0, 0, 0, 0, 0] 0 0 (ng x) (dg x) (ng y) (dg y)) (fun k => ?_) r0
  simp only [computusref01_Times.l0]
  rw [if_pos (by omega), if_pos (by omega)]
  rfl
end Go.Proofs.Ytkongoedgngfhaa.Civ
namespace Go.Proofs.Ytkongoedgngfhaa.Civ
set_option linter.unusedVariables false
set_option linter.unusedSimpArgs false
open Go.RowKit Go.Proofs.YtkongoedgngfhaaW.PrintWords Go.Proofs.YtkongoedgngfhaaW.PrintLast Go.Proofs.YtkongoedgngfhaaW.PrintMore Go.Proofs.Ytkongoedgngfhaa.P
def Half (x : Int) : Prop := -3138550867693340381917894711603833208051177722232017256448 ≤ x ∧ x ≤ 3138550867693340381917894711603833208051177722232017256448
theorem half_wide {x : Int} (h : Half x) : Wide x := by unfold Half at h; unfold Wide; omega
theorem wide_neg {a : Int} (ha : Wide a) : Wide (-a) := by unfold Wide at *; omega
theorem i64_word {a : Int} (ha : I64 a) : -18446744073709551615 ≤ a ∧ a ≤ 18446744073709551615 := by unfold I64 at ha; omega
theorem half_mul {a b : Int} (ha : I64 a) (hb : I64 b) : Half (a * b) := by
  have h1 := ab_bd ha
  have h2 := ab_bd hb
  have h3 := mul_bd h1.1 h1.2 h2.1 h2.2
  rw [← mul_sign a b]
  unfold Half
  split <;> omega
theorem rmul_ev (a b : Int) (ha : I64 a) (hb : I64 b) : Ev (fun k => computusref01_Mul.f k a b) (out (a * b)) := by
  unfold computusref01_Mul.f
  rw [of_eq a ha, of_eq b hb]
  exact Ev.bind0 rfl (Ev.bind0 rfl (Ev.bind (times_ev (i64_word ha) (i64_word hb)) (Ev.bind (small_ev (half_wide (half_mul ha hb))) (Ev.now _))))
end Go.Proofs.Ytkongoedgngfhaa.Civ
namespace Go.Proofs.Ytkongoedgngfhaa.Civ
set_option linter.unusedVariables false
set_option linter.unusedSimpArgs false
open Go.RowKit Go.Proofs.YtkongoedgngfhaaW.PrintWords Go.Proofs.YtkongoedgngfhaaW.PrintLast Go.Proofs.YtkongoedgngfhaaW.PrintMore Go.Proofs.Ytkongoedgngfhaa.P
def p10 (k : Int) : Int := if k = 0 then 1 else if k = 1 then 10 else if k = 2 then 100 else if k = 3 then 1000 else if k = 4 then 10000 else if k = 5 then 100000 else if k = 6 then 1000000 else if k = 7 then 10000000 else if k = 8 then 100000000 else 1000000000
theorem ten_cases {k : Int} (h : 0 ≤ k ∧ k ≤ 9) : k = 0 ∨ k = 1 ∨ k = 2 ∨ k = 3 ∨ k = 4 ∨ k = 5 ∨ k = 6 ∨ k = 7 ∨ k = 8 ∨ k = 9 := by omega
theorem p10_bd (k : Int) : 1 ≤ p10 k ∧ p10 k ≤ 1000000000 := by
  unfold p10
  repeat' split
  all_goals omega
theorem ten_eq {k : Int} (h : 0 ≤ k ∧ k ≤ 9) : dec_ten.f k = some (p10 k) := by
  rcases ten_cases h with rfl | rfl | rfl | rfl | rfl | rfl | rfl | rfl | rfl | rfl <;> rfl
def DOk (s : Int) : Prop := 0 ≤ s ∧ s ≤ 9
instance (s : Int) : Decidable (DOk s) := inferInstanceAs (Decidable (_ ∧ _))
theorem dcright_eq (n s : Int) : dec_Right.f n s = some (decide (DOk s)) := by
  unfold dec_Right.f
  by_cases h : s ≥ 0
  · rw [if_pos h]; congr 1; apply decide_eq_decide.2; unfold DOk; omega
  · rw [if_neg h, decide_eq_false (by unfold DOk; omega)]
theorem rdcright_eq (n s : Int) : computusref04_Right.f n s = some (decide (DOk s)) := by
  unfold computusref04_Right.f
  by_cases h : s ≥ 0
  · rw [if_pos h]; congr 1; apply decide_eq_decide.2; unfold DOk; omega
  · rw [if_neg h, decide_eq_false (by unfold DOk; omega)]
theorem i64_p10 (k : Int) : I64 (p10 k) := by have := p10_bd k; unfold I64; omega
/-- A number at a scale that is so much greater. -/
def tox (n s t : Int) : Int × Int × Int := if I64 (n * p10 (t - s)) then (n * p10 (t - s), t, 0) else (0, 0, 10)
theorem to_eq (k : Nat) {n s t : Int} (hn : I64 n) (hs : DOk s) (ht : DOk t) (h : s ≤ t) : dec_Dec_to.f (k + 1) n s t = some (tox n s t) := by
  unfold dec_Dec_to.f tox
  unfold DOk at hs ht
  rw [w64 (x := t - s) (by omega) (by omega), ten_eq (by omega)]
  simp only [Option.bind_some]
  rw [mul_eq k n _ hn (i64_p10 _)]
  simp only [Option.bind_some]
  by_cases g : I64 (n * p10 (t - s))
  · rw [out_in g, if_pos rfl, if_pos g]
  · rw [out_no g, if_neg (by decide), if_neg g]
theorem mx_le {a b : Int} : a ≤ mx a b ∧ b ≤ mx a b ∧ (mx a b = a ∨ mx a b = b) := by unfold mx; split <;> omega
def bothD (n s m r : Int) : Int × Int × Int × Int × Int :=
  if DOk s ∧ DOk r then ((tox n s (mx s r)).1, (tox n s (mx s r)).2.1, (tox m r (mx s r)).1, (tox m r (mx s r)).2.1, mx (tox n s (mx s r)).2.2 (tox m r (mx s r)).2.2) else (0, 0, 0, 0, 1)
theorem bothD_ev {n s m r : Int} (hn : I64 n) (hm : I64 m) : Ev (fun k => dec_both.f k n s m r) (bothD n s m r) := by
  unfold dec_both.f bothD
  refine Ev.bind0 (dcright_eq n s) ?_
  by_cases h1 : DOk s
  · refine Ev.pos (decide_eq_true h1) (Ev.bind0 (dcright_eq m r) (Ev.succ ?_))
    by_cases h2 : DOk r
    · have h12 : DOk s ∧ DOk r := ⟨h1, h2⟩
      have hx := mx_le (a := s) (b := r)
      have ht : DOk (mx s r) := by unfold DOk at *; omega
      rw [if_pos h12, decide_eq_true h2]
      simp only [dec_both.j0, Bool.not_true, Bool.false_eq_true, if_false]
      refine Ev.bind (Ev.at1 fun k => to_eq k hn h1 ht hx.1) ?_
      refine Ev.bind (Ev.at1 fun k => to_eq k hm h2 ht hx.2.1) ?_
      exact Ev.now _
    · have h12 : ¬ (DOk s ∧ DOk r) := fun f => h2 f.2
      rw [if_neg h12, decide_eq_false h2]
      simp only [dec_both.j0, Bool.not_false, if_true]
      exact Ev.now _
  · have h12 : ¬ (DOk s ∧ DOk r) := fun f => h1 f.1
    rw [if_neg h12]
    refine Ev.neg (by rw [decide_eq_false h1]; simp) (Ev.succ ?_)
    simp only [dec_both.j0, if_true]
    exact Ev.now _
/-- A number that came of two at one scale, if both could be there and it can be. -/
def sumD (n s m r z : Int) : Int × Int × Int :=
  if DOk s ∧ DOk r then (if I64 (n * p10 (mx s r - s)) ∧ I64 (m * p10 (mx s r - r)) ∧ I64 z then (z, mx s r, 0) else (0, 0, 10)) else (0, 0, 1)
theorem made_eqD (a b c : Int) : dec_made.f a b c = some (if c = 0 then (a, b, 0) else (0, 0, c)) := by
  unfold dec_made.f
  split <;> rfl
theorem bothD_ok {n s m r : Int} (h : DOk s ∧ DOk r) (a : I64 (n * p10 (mx s r - s))) (b : I64 (m * p10 (mx s r - r))) :
    bothD n s m r = (n * p10 (mx s r - s), mx s r, m * p10 (mx s r - r), mx s r, 0) := by
  unfold bothD tox
  rw [if_pos h, if_pos a, if_pos b]
  rfl
theorem bothD_err {n s m r : Int} (h : DOk s ∧ DOk r) (f : ¬ (I64 (n * p10 (mx s r - s)) ∧ I64 (m * p10 (mx s r - r)))) : (bothD n s m r).2.2.2.2 = 10 := by
  unfold bothD tox
  rw [if_pos h]
  by_cases a : I64 (n * p10 (mx s r - s))
  · have b : ¬ I64 (m * p10 (mx s r - r)) := fun b => f ⟨a, b⟩
    rw [if_pos a, if_neg b]; rfl
  · rw [if_neg a]
    by_cases b : I64 (m * p10 (mx s r - r))
    · rw [if_pos b]; rfl
    · rw [if_neg b]; rfl
theorem addD_ev {n s m r : Int} (hn : I64 n) (hm : I64 m) : Ev (fun k => dec_Add.f k n s m r) (sumD n s m r (n * p10 (mx s r - s) + m * p10 (mx s r - r))) := by
  unfold dec_Add.f
  refine Ev.bind (bothD_ev hn hm) ?_
  by_cases h : DOk s ∧ DOk r
  · by_cases f : I64 (n * p10 (mx s r - s)) ∧ I64 (m * p10 (mx s r - r))
    · rw [bothD_ok h f.1 f.2]
      refine Ev.pos rfl (Ev.bind0 (add_eq _ _ f.1 f.2) (Ev.bind0 (made_eqD _ _ _) (Ev.cast (Ev.now _) ?_)))
      unfold sumD
      rw [if_pos h]
      by_cases g : I64 (n * p10 (mx s r - s) + m * p10 (mx s r - r))
      · have fg := And.intro f.1 (And.intro f.2 g)
        rw [if_pos fg, out_in g]; rfl
      · have fg : ¬ (I64 (n * p10 (mx s r - s)) ∧ I64 (m * p10 (mx s r - r)) ∧ I64 (n * p10 (mx s r - s) + m * p10 (mx s r - r))) := fun q => g q.2.2
        rw [if_neg fg, out_no g]; rfl
    · have e := bothD_err h f
      refine Ev.neg (by rw [e]; decide) (Ev.cast (Ev.now _) ?_)
      have fg : ¬ (I64 (n * p10 (mx s r - s)) ∧ I64 (m * p10 (mx s r - r)) ∧ I64 (n * p10 (mx s r - s) + m * p10 (mx s r - r))) := fun q => f ⟨q.1, q.2.1⟩
      unfold sumD
      rw [e, if_pos h, if_neg fg]
  · have e : bothD n s m r = (0, 0, 0, 0, 1) := if_neg h
    rw [e]
    refine Ev.neg (by decide) (Ev.cast (Ev.now _) ?_)
    unfold sumD
    rw [if_neg h]
theorem subD_ev {n s m r : Int} (hn : I64 n) (hm : I64 m) : Ev (fun k => dec_Sub.f k n s m r) (sumD n s m r (n * p10 (mx s r - s) - m * p10 (mx s r - r))) := by
  unfold dec_Sub.f
  refine Ev.bind (bothD_ev hn hm) ?_
  by_cases h : DOk s ∧ DOk r
  · by_cases f : I64 (n * p10 (mx s r - s)) ∧ I64 (m * p10 (mx s r - r))
    · rw [bothD_ok h f.1 f.2]
      refine Ev.pos rfl (Ev.bind0 (sub_eq _ _ f.1 f.2) (Ev.bind0 (made_eqD _ _ _) (Ev.cast (Ev.now _) ?_)))
      unfold sumD
      rw [if_pos h]
      by_cases g : I64 (n * p10 (mx s r - s) - m * p10 (mx s r - r))
      · have fg := And.intro f.1 (And.intro f.2 g)
        rw [if_pos fg, out_in g]; rfl
      · have fg : ¬ (I64 (n * p10 (mx s r - s)) ∧ I64 (m * p10 (mx s r - r)) ∧ I64 (n * p10 (mx s r - s) - m * p10 (mx s r - r))) := fun q => g q.2.2
        rw [if_neg fg, out_no g]; rfl
    · have e := bothD_err h f
      refine Ev.neg (by rw [e]; decide) (Ev.cast (Ev.now _) ?_)
      have fg : ¬ (I64 (n * p10 (mx s r - s)) ∧ I64 (m * p10 (mx s r - r)) ∧ I64 (n * p10 (mx s r - s) - m * p10 (mx s r - r))) := fun q => f ⟨q.1, q.2.1⟩
      unfold sumD
      rw [e, if_pos h, if_neg fg]
  · have e : bothD n s m r = (0, 0, 0, 0, 1) := if_neg h
    rw [e]
    refine Ev.neg (by decide) (Ev.cast (Ev.now _) ?_)
    unfold sumD
    rw [if_neg h]
end Go.Proofs.Ytkongoedgngfhaa.Civ
namespace Go.Proofs.Ytkongoedgngfhaa.Civ
set_option linter.unusedVariables false
set_option linter.unusedSimpArgs false
open Go.RowKit Go.Proofs.Ytkongoedgngfhaa.P Go.Proofs.YtkongoedgngfhaaW.PrintWords Go.Proofs.YtkongoedgngfhaaW.PrintLast
theorem known_ev : Ev (fun k => computuslaw04_known.f k) true := Ev.of computuslaw04_known.mono (k := 12) (by decide +kernel)
theorem known_end : Ev (fun k => (computuslaw04_known.f k).bind fun t => some t) true := Ev.bind known_ev (Ev.now _)
end Go.Proofs.Ytkongoedgngfhaa.Civ
namespace Go.Proofs.Ytkongoedgngfhaa.Civ
set_option linter.unusedVariables false
set_option linter.unusedSimpArgs false
open Go.RowKit Go.Proofs.YtkongoedgngfhaaW.PrintWords Go.Proofs.YtkongoedgngfhaaW.PrintLast Go.Proofs.YtkongoedgngfhaaW.PrintMore Go.Proofs.Ytkongoedgngfhaa.P
theorem rten_ev {k : Int} (h : 0 ≤ k ∧ k ≤ 9) : Ev (fun n => computusref04_ten.f n k) (p10 k) := by
  refine Ev.of (computusref04_ten.mono k) (k := 12) ?_
  rcases ten_cases h with rfl | rfl | rfl | rfl | rfl | rfl | rfl | rfl | rfl | rfl <;> decide +kernel
theorem p10_word (k : Int) : -18446744073709551615 ≤ p10 k ∧ p10 k ≤ 18446744073709551615 := by have := p10_bd k; omega
/-- The reference's number at another scale, as a wide one. -/
theorem rat_ev {n s t : Int} (hn : I64 n) (hs : DOk s) (ht : DOk t) (h : s ≤ t) : Ev (fun k => computusref04_at.f k n s t) (ng (n * p10 (t - s)), dg (n * p10 (t - s))) := by
  unfold computusref04_at.f
  unfold DOk at hs ht
  rw [w64 (x := t - s) (by omega) (by omega)]
  refine Ev.bind0 (of_eq n hn) (Ev.bind (rten_ev (by omega)) (Ev.bind0 (of_eq _ (i64_p10 _)) (Ev.bind (times_ev (i64_word hn) (p10_word _)) (Ev.now _))))
theorem p10_pos (k : Int) : 0 < p10 k := by have := p10_bd k; omega
theorem floor_i64 {n : Int} (hn : I64 n) (k : Int) : I64 (n / p10 k) := ediv_i64 hn (p10_pos k)
def splD (n s : Int) : Int × Int := (n / p10 s, n % p10 s * p10 (9 - s))
theorem frac_bd (n : Int) {s : Int} (hs : DOk s) : 0 ≤ n % p10 s * p10 (9 - s) ∧ n % p10 s * p10 (9 - s) < 1000000000 := by
  have h0 := Int.emod_nonneg n (b := p10 s) (by have := p10_pos s; omega)
  have h1 := Int.emod_lt_of_pos n (p10_pos s)
  rcases ten_cases hs with rfl | rfl | rfl | rfl | rfl | rfl | rfl | rfl | rfl | rfl <;> simp [p10] at h0 h1 ⊢ <;> omega
theorem split_ev {n s : Int} (hn : I64 n) (hs : DOk s) : Ev (fun k => dec_Dec_split.f k n s) (splD n s) := by
  unfold dec_Dec_split.f
  have hp := p10_pos s
  refine Ev.bind0 (ten_eq hs) (Ev.bind (Ev.at1 fun k => div_eq k n _ hn (i64_p10 s) (by omega)) (Ev.bind0 (ten_eq hs) (Ev.bind0 (mod_eq n _ hn (i64_p10 s) (by omega)) ?_)))
  have hs' := hs
  unfold DOk at hs'
  rw [w64 (x := 9 - s) (by omega) (by omega)]
  refine Ev.bind0 (ten_eq (by omega)) (Ev.cast (Ev.now _) ?_)
  have hb := frac_bd n hs
  rw [fl_pos hp, md_pos hp, out_in (floor_i64 hn s)]
  show (n / p10 s, wrap64 (n % p10 s * p10 (9 - s))) = _
  rw [w64 (by omega) (by omega)]
  rfl
/-- How two numbers stand. -/
def ordD (n s m r : Int) : Int :=
  if DOk s ∧ DOk r then (if splD n s = splD m r then 0 else if n / p10 s = m / p10 r then (if (splD n s).2 < (splD m r).2 then -1 else 1) else if n / p10 s < m / p10 r then -1 else 1) else 0
theorem compare_eq (a b : Int) : cmp_Compare_int64.f a b = some (if a < b then -1 else if a > b then 1 else 0) := by
  unfold cmp_Compare_int64.f
  have e : ∀ x, cmp_isNaN_int64.f x = some false := fun x => by unfold cmp_isNaN_int64.f; simp
  rw [e, e]
  simp only [Option.bind_some, Bool.false_eq_true, if_false]
  repeat' split
  all_goals rfl
theorem cmpD_ev {n s m r : Int} (hn : I64 n) (hm : I64 m) : Ev (fun k => dec_Cmp.f k n s m r) (ordD n s m r) := by
  unfold dec_Cmp.f ordD
  refine Ev.bind0 (dcright_eq n s) ?_
  by_cases h1 : DOk s
  · refine Ev.pos (decide_eq_true h1) (Ev.bind0 (dcright_eq m r) (Ev.succ ?_))
    by_cases h2 : DOk r
    · have h12 : DOk s ∧ DOk r := ⟨h1, h2⟩
      rw [if_pos h12, decide_eq_true h2]
      simp only [dec_Cmp.j0, Bool.not_true, Bool.false_eq_true, if_false]
      refine Ev.bind (split_ev hn h1) (Ev.bind (split_ev hm h2) ?_)
      by_cases he : splD n s = splD m r
      · rw [if_pos he, he]
        exact Ev.pos (by simp) (Ev.now _)
      · rw [if_neg he]
        refine Ev.neg (fun g => he ?_) ?_
        · simp only [Bool.and_eq_true, beq_iff_eq] at g
          exact Prod.ext g.1 g.2
        · by_cases hf : n / p10 s = m / p10 r
          · rw [if_pos hf]
            refine Ev.pos hf (Ev.bind0 (compare_eq _ _) (Ev.cast (Ev.now _) ?_))
            by_cases hl : (splD n s).2 < (splD m r).2
            · rw [if_pos hl, if_pos hl]
            · have hne : (splD n s).2 ≠ (splD m r).2 := fun g => he (Prod.ext hf g)
              rw [if_neg hl, if_neg hl, if_pos (by omega)]
          · rw [if_neg hf]
            refine Ev.neg hf (Ev.bind0 (compare_eq _ _) (Ev.cast (Ev.now _) ?_))
            have e1 : (splD n s).1 = n / p10 s := rfl
            have e2 : (splD m r).1 = m / p10 r := rfl
            rw [e1, e2]
            by_cases hl : n / p10 s < m / p10 r
            · rw [if_pos hl, if_pos hl]
            · rw [if_neg hl, if_neg hl, if_pos (by omega)]
    · have h12 : ¬ (DOk s ∧ DOk r) := fun f => h2 f.2
      rw [if_neg h12, decide_eq_false h2]
      simp only [dec_Cmp.j0, Bool.not_false, if_true]
      exact Ev.now _
  · have h12 : ¬ (DOk s ∧ DOk r) := fun f => h1 f.1
    rw [if_neg h12]
    refine Ev.neg (by rw [decide_eq_false h1]; simp) (Ev.succ ?_)
    simp only [dec_Cmp.j0, if_true]
    exact Ev.now _
end Go.Proofs.Ytkongoedgngfhaa.Civ
namespace Go.Proofs.Ytkongoedgngfhaa.Civ
set_option linter.unusedVariables false
set_option linter.unusedSimpArgs false
open Go.RowKit Go.Proofs.YtkongoedgngfhaaW.PrintWords Go.Proofs.YtkongoedgngfhaaW.PrintLast Go.Proofs.YtkongoedgngfhaaW.PrintMore Go.Proofs.Ytkongoedgngfhaa.P
def vl (n s : Int) : Int := n * p10 (9 - s)
theorem vl_spl (n : Int) {s : Int} (hs : DOk s) : splD n s = (vl n s / 1000000000, vl n s % 1000000000) := by
  unfold splD vl
  rcases ten_cases hs with rfl | rfl | rfl | rfl | rfl | rfl | rfl | rfl | rfl | rfl <;> simp [p10] <;> (try constructor) <;> omega
end Go.Proofs.Ytkongoedgngfhaa.Civ
namespace Go.Proofs.Ytkongoedgngfhaa.Civ
set_option linter.unusedVariables false
set_option linter.unusedSimpArgs false
open Go.RowKit Go.Proofs.YtkongoedgngfhaaW.PrintWords Go.Proofs.YtkongoedgngfhaaW.PrintLast Go.Proofs.YtkongoedgngfhaaW.PrintMore Go.Proofs.Ytkongoedgngfhaa.P
def mulD (n s m r : Int) : Int × Int × Int := if DOk s ∧ DOk r then (if s + r ≤ 9 ∧ I64 (n * m) then (n * m, s + r, 0) else (0, 0, 10)) else (0, 0, 1)
theorem mulD_ev {n s m r : Int} (hn : I64 n) (hm : I64 m) : Ev (fun k => dec_Mul.f k n s m r) (mulD n s m r) := by
  unfold dec_Mul.f mulD
  refine Ev.bind0 (dcright_eq n s) ?_
  by_cases h1 : DOk s
  · refine Ev.pos (decide_eq_true h1) (Ev.bind0 (dcright_eq m r) (Ev.succ ?_))
    by_cases h2 : DOk r
    · have h12 : DOk s ∧ DOk r := ⟨h1, h2⟩
      rw [if_pos h12, decide_eq_true h2]
      simp only [dec_Mul.j0, Bool.not_true, Bool.false_eq_true, if_false]
      refine Ev.bind (Ev.at1 fun k => mul_eq k n m hn hm) ?_
      rw [w64 (x := s + r) (by unfold DOk at h1 h2; omega) (by unfold DOk at h1 h2; omega)]
      by_cases g : s + r > 9
      · refine Ev.pos g (Ev.bind0 (made_eqD _ _ _) (Ev.cast (Ev.now _) ?_))
        have q : ¬ (s + r ≤ 9 ∧ I64 (n * m)) := fun f => by omega
        rw [if_neg q]; rfl
      · refine Ev.neg g (Ev.bind0 (made_eqD _ _ _) (Ev.cast (Ev.now _) ?_))
        by_cases i : I64 (n * m)
        · have q : s + r ≤ 9 ∧ I64 (n * m) := ⟨by omega, i⟩
          rw [if_pos q, out_in i]; rfl
        · have q : ¬ (s + r ≤ 9 ∧ I64 (n * m)) := fun f => i f.2
          rw [if_neg q, out_no i]; rfl
    · have h12 : ¬ (DOk s ∧ DOk r) := fun f => h2 f.2
      rw [if_neg h12, decide_eq_false h2]
      simp only [dec_Mul.j0, Bool.not_false, if_true]
      exact Ev.now _
  · have h12 : ¬ (DOk s ∧ DOk r) := fun f => h1 f.1
    rw [if_neg h12]
    refine Ev.neg (by rw [decide_eq_false h1]; simp) (Ev.succ ?_)
    simp only [dec_Mul.j0, if_true]
    exact Ev.now _
end Go.Proofs.Ytkongoedgngfhaa.Civ
namespace Go.Proofs.Ytkongoedgngfhaa.Civ
set_option linter.unusedVariables false
set_option linter.unusedSimpArgs false
open Go.RowKit Go.Proofs.YtkongoedgngfhaaW.PrintWords Go.Proofs.YtkongoedgngfhaaW.PrintLast Go.Proofs.YtkongoedgngfhaaW.PrintMore Go.Proofs.Ytkongoedgngfhaa.P
theorem scaled_bd {n : Int} (hn : I64 n) (k : Int) : -9223372036854775808000000000 ≤ n * p10 k ∧ n * p10 k ≤ 9223372036854775808000000000 := by
  have hp := p10_bd k
  unfold I64 at hn
  rcases Int.le_total 0 n with h | h
  · have h1 : n * p10 k ≤ n * 1000000000 := Int.mul_le_mul_of_nonneg_left hp.2 h
    have h2 : 0 ≤ n * p10 k := Int.mul_nonneg h (by omega)
    omega
  · have h1 : n * 1000000000 ≤ n * p10 k := Int.mul_le_mul_of_nonpos_left h hp.2
    have h2 : n * p10 k ≤ 0 := Int.mul_nonpos_of_nonpos_of_nonneg h (by omega)
    omega
theorem rboth_eq (n s m r : Int) : computusref04_both.f n s m r = some (mx s r) := by
  unfold computusref04_both.f mx
  repeat' split
  all_goals first | rfl | (congr 1; omega)
theorem rsum_end {t a b z : Int} {x y : Int} (hx : Wide x) (hy : Wide y) (hz : x + y = z) (hw : Wide z) :
    Ev (fun k => computusref04_sum.j1 k t (out a).2 (out b).2 (ng x) (dg x) (ng y) (dg y)) (if I64 a ∧ I64 b ∧ I64 z then (z, t, 0) else (0, 0, 10)) := by
  subst hz
  refine Ev.succ ?_
  simp only [computusref04_sum.j1]
  refine Ev.bind (plus_ev hx hy hw) (Ev.bind (small_ev hw) ?_)
  by_cases ha : I64 a
  · rw [out_in ha]
    refine Ev.pos rfl ?_
    by_cases hb : I64 b
    · rw [out_in hb]
      refine Ev.pos rfl ?_
      by_cases hc : I64 (x + y)
      · rw [out_in hc]; exact Ev.pos rfl (Ev.cast (Ev.now _) (if_pos (show I64 a ∧ I64 b ∧ I64 (x + y) from ⟨ha, hb, hc⟩)).symm)
      · rw [out_no hc]; exact Ev.neg (by decide) (Ev.cast (Ev.now _) (if_neg (fun f : I64 a ∧ I64 b ∧ I64 (x + y) => hc f.2.2)).symm)
    · rw [out_no hb]; exact Ev.neg (by decide) (Ev.cast (Ev.now _) (if_neg (fun f : I64 a ∧ I64 b ∧ I64 (x + y) => hb f.2.1)).symm)
  · rw [out_no ha]; exact Ev.neg (by decide) (Ev.cast (Ev.now _) (if_neg (fun f : I64 a ∧ I64 b ∧ I64 (x + y) => ha f.1)).symm)
theorem rsum_ev {n s m r : Int} (hn : I64 n) (hm : I64 m) (b : Bool) : Ev (fun k => computusref04_sum.f k n s m r b) (sumD n s m r (if b = true then n * p10 (mx s r - s) - m * p10 (mx s r - r) else n * p10 (mx s r - s) + m * p10 (mx s r - r))) := by
  unfold computusref04_sum.f sumD
  refine Ev.bind0 (rdcright_eq n s) ?_
  by_cases h1 : DOk s
  · refine Ev.pos (decide_eq_true h1) (Ev.bind0 (rdcright_eq m r) (Ev.succ ?_))
    by_cases h2 : DOk r
    · have h12 : DOk s ∧ DOk r := ⟨h1, h2⟩
      have hx := mx_le (a := s) (b := r)
      have ht : DOk (mx s r) := by unfold DOk at *; omega
      rw [if_pos h12, decide_eq_true h2]
      simp only [computusref04_sum.j0, Bool.not_true, Bool.false_eq_true, if_false]
      have b1 := scaled_bd hn (mx s r - s)
      have b2 := scaled_bd hm (mx s r - r)
      refine Ev.bind0 (rboth_eq n s m r) (Ev.bind (rat_ev hn h1 ht hx.1) (Ev.bind (rat_ev hm h2 ht hx.2.1) ?_))
      generalize n * p10 (mx s r - s) = x at *
      generalize m * p10 (mx s r - r) = y at *
      have wx : Wide x := by unfold Wide; omega
      have wy : Wide y := by unfold Wide; omega
      refine Ev.bind (small_ev wx) (Ev.bind (small_ev wy) ?_)
      cases b with
      | true =>
        rw [if_pos rfl]
        refine Ev.pos rfl (Ev.bind (minus_ev wy) ?_)
        exact rsum_end wx (wide_neg wy) (by omega) (by unfold Wide; omega)
      | false =>
        have e0 : (if (false : Bool) = true then x - y else x + y) = x + y := if_neg (by decide)
        rw [e0]
        refine Ev.neg (by decide) ?_
        exact rsum_end wx wy rfl (by unfold Wide; omega)
    · have h12 : ¬ (DOk s ∧ DOk r) := fun f => h2 f.2
      rw [if_neg h12, decide_eq_false h2]
      simp only [computusref04_sum.j0, Bool.not_false, if_true]
      exact Ev.now _
  · have h12 : ¬ (DOk s ∧ DOk r) := fun f => h1 f.1
    rw [if_neg h12]
    refine Ev.neg (by rw [decide_eq_false h1]; simp) (Ev.succ ?_)
    simp only [computusref04_sum.j0, if_true]
    exact Ev.now _
theorem raddD_ev {n s m r : Int} (hn : I64 n) (hm : I64 m) : Ev (fun k => computusref04_Add.f k n s m r) (sumD n s m r (n * p10 (mx s r - s) + m * p10 (mx s r - r))) := by
  unfold computusref04_Add.f
  exact Ev.bind (rsum_ev hn hm false) (Ev.now _)
theorem rsubD_ev {n s m r : Int} (hn : I64 n) (hm : I64 m) : Ev (fun k => computusref04_Sub.f k n s m r) (sumD n s m r (n * p10 (mx s r - s) - m * p10 (mx s r - r))) := by
  unfold computusref04_Sub.f
  exact Ev.bind (rsum_ev hn hm true) (Ev.now _)
theorem rmulD_ev {n s m r : Int} (hn : I64 n) (hm : I64 m) : Ev (fun k => computusref04_Mul.f k n s m r) (mulD n s m r) := by
  unfold computusref04_Mul.f mulD
  refine Ev.bind0 (rdcright_eq n s) ?_
  by_cases h1 : DOk s
  · refine Ev.pos (decide_eq_true h1) (Ev.bind0 (rdcright_eq m r) (Ev.succ ?_))
    by_cases h2 : DOk r
    · have h12 : DOk s ∧ DOk r := ⟨h1, h2⟩
      rw [if_pos h12, decide_eq_true h2]
      simp only [computusref04_Mul.j0, Bool.not_true, Bool.false_eq_true, if_false]
      refine Ev.bind (rmul_ev n m hn hm) ?_
      rw [w64 (x := s + r) (by unfold DOk at h1 h2; omega) (by unfold DOk at h1 h2; omega)]
      by_cases i : I64 (n * m)
      · rw [out_in i]
        refine Ev.pos rfl ?_
        by_cases g : s + r > 9
        · exact Ev.pos g (Ev.cast (Ev.now _) (if_neg (fun f : s + r ≤ 9 ∧ I64 (n * m) => by omega)).symm)
        · exact Ev.neg g (Ev.cast (Ev.now _) (if_pos (show s + r ≤ 9 ∧ I64 (n * m) from ⟨by omega, i⟩)).symm)
      · rw [out_no i]
        exact Ev.neg (by decide) (Ev.cast (Ev.now _) (if_neg (fun f : s + r ≤ 9 ∧ I64 (n * m) => i f.2)).symm)
    · have h12 : ¬ (DOk s ∧ DOk r) := fun f => h2 f.2
      rw [if_neg h12, decide_eq_false h2]
      simp only [computusref04_Mul.j0, Bool.not_false, if_true]
      exact Ev.now _
  · have h12 : ¬ (DOk s ∧ DOk r) := fun f => h1 f.1
    rw [if_neg h12]
    refine Ev.neg (by rw [decide_eq_false h1]; simp) (Ev.succ ?_)
    simp only [computusref04_Mul.j0, if_true]
    exact Ev.now _
theorem rcmp_step (k : Nat) {b : Bool} {x : List Int} {i v : Int} (h0 : 0 ≤ i) (h6 : i < 6) (hl : x.length = 6) (hv : rd x i = v) :
    computusref04_Cmp.l0 (k + 1) i b x = if v = 0 then computusref04_Cmp.l0 k (i + 1) b x else some 1 := by
  simp only [computusref04_Cmp.l0]
  rw [hl, if_pos (by omega), if_pos h0, hv, w64 (by omega) (by omega)]
theorem rcmp_loop {z : Int} (h : Wide z) (hz : ¬ z < 0) (b : Bool) : computusref04_Cmp.l0 7 0 b (dg z) = some (if z = 0 then 0 else 1) := by
  have hb := ab_wide h
  obtain ⟨a0, a1, a2, a3, a4, a5, ea, ⟨A0, A1, A2, A3, A4, A5⟩, va⟩ := dig_form hb.1 hb.2
  have e : ab z = z := ab_pos (by omega)
  rw [e] at va
  unfold dg
  rw [ea]
  have no : z ≠ 0 → (if z = 0 then (0 : Int) else 1) = 1 := fun g => if_neg g
  rw [rcmp_step 6 (i := 0) (v := a0) (by omega) (by omega) rfl rfl]
  by_cases g0 : a0 = 0
  · rw [if_pos g0, rcmp_step 5 (i := 0 + 1) (v := a1) (by omega) (by omega) rfl rfl]
    by_cases g1 : a1 = 0
    · rw [if_pos g1, rcmp_step 4 (i := 0 + 1 + 1) (v := a2) (by omega) (by omega) rfl rfl]
      by_cases g2 : a2 = 0
      · rw [if_pos g2, rcmp_step 3 (i := 0 + 1 + 1 + 1) (v := a3) (by omega) (by omega) rfl rfl]
        by_cases g3 : a3 = 0
        · rw [if_pos g3, rcmp_step 2 (i := 0 + 1 + 1 + 1 + 1) (v := a4) (by omega) (by omega) rfl rfl]
          by_cases g4 : a4 = 0
          · rw [if_pos g4, rcmp_step 1 (i := 0 + 1 + 1 + 1 + 1 + 1) (v := a5) (by omega) (by omega) rfl rfl]
            by_cases g5 : a5 = 0
            · rw [if_pos g5, if_pos (by rw [va, g0, g1, g2, g3, g4, g5]; omega)]
              simp only [computusref04_Cmp.l0]
              exact if_neg (by simp)
            · rw [if_neg g5, no (by omega)]
          · rw [if_neg g4, no (by omega)]
        · rw [if_neg g3, no (by omega)]
      · rw [if_neg g2, no (by omega)]
    · rw [if_neg g1, no (by omega)]
  · rw [if_neg g0, no (by omega)]
theorem ord_vl (n s m r : Int) (hs : DOk s) (hr : DOk r) : ordD n s m r = if vl n s - vl m r < 0 then -1 else if vl n s - vl m r = 0 then 0 else 1 := by
  have hh : DOk s ∧ DOk r := ⟨hs, hr⟩
  have e1 : n / p10 s = vl n s / 1000000000 := congrArg Prod.fst (vl_spl n hs)
  have e2 : m / p10 r = vl m r / 1000000000 := congrArg Prod.fst (vl_spl m hr)
  unfold ordD
  rw [if_pos hh, e1, e2, vl_spl n hs, vl_spl m hr]
  generalize vl n s = a
  generalize vl m r = b
  simp only [Prod.mk.injEq]
  repeat' split
  all_goals omega
theorem nine_ok : DOk 9 := by unfold DOk; omega
theorem rcmpD_ev {n s m r : Int} (hn : I64 n) (hm : I64 m) : Ev (fun k => computusref04_Cmp.f k n s m r) (ordD n s m r) := by
  unfold computusref04_Cmp.f
  refine Ev.bind0 (rdcright_eq n s) ?_
  by_cases h1 : DOk s
  · refine Ev.pos (decide_eq_true h1) (Ev.bind0 (rdcright_eq m r) (Ev.succ ?_))
    by_cases h2 : DOk r
    · rw [decide_eq_true h2, ord_vl n s m r h1 h2]
      simp only [computusref04_Cmp.j0, Bool.not_true, Bool.false_eq_true, if_false]
      have b1 := scaled_bd hn (9 - s)
      have b2 := scaled_bd hm (9 - r)
      refine Ev.bind (rat_ev hn h1 nine_ok (by unfold DOk at h1; omega)) (Ev.bind (rat_ev hm h2 nine_ok (by unfold DOk at h2; omega)) ?_)
      unfold vl
      generalize n * p10 (9 - s) = x at *
      generalize m * p10 (9 - r) = y at *
      have wx : Wide x := by unfold Wide; omega
      have wy : Wide y := by unfold Wide; omega
      have wz : Wide (x + -y) := by unfold Wide; omega
      refine Ev.bind (minus_ev wy) (Ev.bind (plus_ev wx (wide_neg wy) wz) ?_)
      rw [show x - y = x + -y by omega]
      by_cases g : x + -y < 0
      · rw [if_pos g]
        exact Ev.pos (ng_true g) (Ev.now _)
      · rw [if_neg g]
        refine Ev.neg (by rw [ng_false g]; simp) ?_
        exact Ev.of (fun k => (computusref04_Cmp.mono_l k).2 _ _ _) (k := 7) (rcmp_loop wz g _)
    · have h12 : ¬ (DOk s ∧ DOk r) := fun f => h2 f.2
      have e : ordD n s m r = 0 := by unfold ordD; rw [if_neg h12]
      rw [decide_eq_false h2, e]
      simp only [computusref04_Cmp.j0, Bool.not_false, if_true]
      exact Ev.now _
  · have h12 : ¬ (DOk s ∧ DOk r) := fun f => h1 f.1
    have e : ordD n s m r = 0 := by unfold ordD; rw [if_neg h12]
    rw [e]
    refine Ev.neg (by rw [decide_eq_false h1]; simp) (Ev.succ ?_)
    simp only [computusref04_Cmp.j0, if_true]
    exact Ev.now _
end Go.Proofs.Ytkongoedgngfhaa.Civ
namespace Go.Proofs.Ytkongoedgngfhaa.Pure
set_option linter.unusedVariables false
set_option linter.unusedSimpArgs false
open Go.RowKit Go.Proofs.Ytkongoedgngfhaa.P Go.Proofs.YtkongoedgngfhaaW.PrintWords Go.Proofs.YtkongoedgngfhaaW.PrintLast Go.Proofs.Ytkongoedgngfhaa.Civ
theorem given_eqS (n s : Int) : computuslaw04_given.f n s = some (n, s) := rfl
theorem taken_eqS (n s : Int) : computuslaw04_taken.f n s = some (n, s) := rfl
theorem DecSums : computuslaw04_DecSums.Pure := by
  intro n s m r hn _ hm _
  have hn := i64_of_wf hn
  have hm := i64_of_wf hm
  refine Ev.rounds ?_
  unfold computuslaw04_DecSums.f
  refine Ev.bind0 (given_eqS n s) (Ev.bind0 (given_eqS m r) (Ev.bind (addD_ev hn hm) (Ev.bind (raddD_ev hn hm) (Ev.bind0 (given_eqS n s) (Ev.bind0 (given_eqS m r) (Ev.bind (subD_ev hn hm) (Ev.bind (rsubD_ev hn hm) (Ev.bind0 (given_eqS n s) (Ev.bind0 (given_eqS m r) (Ev.bind (mulD_ev hn hm) (Ev.bind (rmulD_ev hn hm) ?_)))))))))))
  generalize sumD n s m r (n * p10 (mx s r - s) + m * p10 (mx s r - r)) = A
  generalize sumD n s m r (n * p10 (mx s r - s) - m * p10 (mx s r - r)) = B
  generalize mulD n s m r = C
  refine Ev.bind0 (taken_eqS _ _) (Ev.pos (by simp) (Ev.pos rfl (Ev.bind0 (taken_eqS _ _) (Ev.pos (by simp) (Ev.pos rfl (Ev.bind0 (taken_eqS _ _) (Ev.pos (by simp) (Ev.pos rfl ?_))))))))
  refine Ev.bind0 (given_eqS n s) (Ev.bind0 (given_eqS m r) (Ev.bind (cmpD_ev hn hm) (Ev.bind (rcmpD_ev hn hm) (Ev.pos rfl ?_))))
  exact Ev.bind0 (given_eqS n s) (Ev.bind0 (dcright_eq n s) (Ev.bind0 (rdcright_eq n s) (Ev.pos (by simp) known_end)))
end Go.Proofs.Ytkongoedgngfhaa.Pure

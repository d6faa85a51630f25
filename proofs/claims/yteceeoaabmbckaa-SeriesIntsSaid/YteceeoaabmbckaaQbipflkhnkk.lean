-- Written by a program of the session (a print of the seat's translation, functions given by hand among it). Lean checks it.
import Derived.Test.YteceeoaabmbckaaQnfimnniaco
import Derived.Test.YteceeoaabmbckaaQloiomfigje
import Derived.Test.YteceeoaabmbckaaQcejcjgmolp
import Derived.Test.YteceeoaabmbckaaQddpbnagbok
import Derived.Test.YteceeoaabmbckaaQmneeifjkkf
namespace Go.Proofs.Yteceeoaabmbckaa.P
open Go.RowKit Go.Proofs.YteceeoaabmbckaaW.PrintWords Go.Proofs.YteceeoaabmbckaaW.PrintLast Go.Proofs.YteceeoaabmbckaaW.PrintMore
attribute [local go_sem] max2_int min2_int max_two min_two max_three min_three max_four min_four   -- for this text's walks alone
set_option linter.unusedVariables false
set_option linter.unusedSimpArgs false
open A in
def cnRead (c : Nat → Nat → AV) : Option (List Int) := match c 0 0, c 1 0, c 2 0, c 3 0, c 4 0, c 5 0 with
  | .int .u64 x0, .int .u64 x1, .int .u64 x2, .int .u64 x3, .int .u64 x4, .int .u64 x5 => some [x0, x1, x2, x3, x4, x5]
  | _, _, _, _, _, _ => none
def cnAt (l : List Int) (i : Nat) : Int := l.getD i 0
open A in
noncomputable def cnSixA (l : List Int) : AV := .nu 26 1 6 [.int .u64 (cnAt l 0), .int .u64 (cnAt l 1), .int .u64 (cnAt l 2), .int .u64 (cnAt l 3), .int .u64 (cnAt l 4), .int .u64 (cnAt l 5)]
open A in
noncomputable def cnConW (f : Bool → List Int → Bool → List Int → Option (Bool × List Int)) : Con
  | [.agg [.bool n, .csl s len c], .agg [.bool m, .csl s' len' d]] => if s = 1 ∧ len = 6 ∧ s' = 1 ∧ len' = 6 then (match cnRead c, cnRead d with
    | some l, some l' => some ((f n l m l').isSome && decide ((gd (f n l m l')).2.length = 6), .agg [.bool (gd (f n l m l')).1, cnSixA (gd (f n l m l')).2])
    | _, _ => none) else none
  | _ => none
open A in
noncomputable def cnConO (f : Int → Option (Bool × List Int)) : Con
  | [.int .i64 n] => some ((f n).isSome && decide ((gd (f n)).2.length = 6), .agg [.bool (gd (f n)).1, cnSixA (gd (f n)).2])
  | _ => none
open A in
noncomputable def cnConZ (f : List Int → Option Bool) : Con
  | [.csl s len c] => if s = 1 ∧ len = 6 then (match cnRead c with
    | some l => some ((f l).isSome, .bool (gd (f l)))
    | none => none) else none
  | _ => none
theorem cnSixOf {l : List Int} (h : l.length = 6) : ∃ a b c d e f, l = [a, b, c, d, e, f] := by
  match l, h with
  | [a, b, c, d, e, f], _ => exact ⟨a, b, c, d, e, f, rfl⟩
theorem cnSixV {l : List Value} (h : l.length = 6) : ∃ a b c d e f, l = [a, b, c, d, e, f] := by
  match l, h with
  | [a, b, c, d, e, f], _ => exact ⟨a, b, c, d, e, f, rfl⟩
open A in
theorem cnRead_some {c : Nat → Nat → AV} {l : List Int} (h : cnRead c = some l) : ∃ x0 x1 x2 x3 x4 x5, l = [x0, x1, x2, x3, x4, x5] ∧ c 0 0 = .int .u64 x0 ∧ c 1 0 = .int .u64 x1 ∧ c 2 0 = .int .u64 x2 ∧ c 3 0 = .int .u64 x3 ∧ c 4 0 = .int .u64 x4 ∧ c 5 0 = .int .u64 x5 := by
  unfold cnRead at h
  split at h
  · rename_i h0 h1 h2 h3 h4 h5
    simp at h; subst h
    exact ⟨_, _, _, _, _, _, rfl, h0, h1, h2, h3, h4, h5⟩
  · cases h
open A in
theorem cnCsl {w : World} {c : Nat → Nat → AV} {V : Value} {l : List Int} (h : RV noNames w (.csl 1 6 c) V) (hc : cnRead c = some l) : ∃ A cap, V = .slice A l.length cap ∧ l.length ≤ cap ∧ Kd.C (Kd.int .u64) w A l.length l := by
  obtain ⟨x0, x1, x2, x3, x4, x5, rfl, e0, e1, e2, e3, e4, e5⟩ := cnRead_some hc
  cases h with
  | csl s len cap c U hb hl hcell hr =>
  rename_i b o
  refine ⟨_, cap, rfl, hl, rfl, by simp, fun _ => ⟨_, rfl, ?_⟩⟩
  have key : ∀ j x, j < 6 → c j 0 = .int .u64 x → w.cell? ⟨b, o + (j * 1 + 0), none⟩ = some (.int .u64 x) := by
    intro j x hj e
    have h1 := hcell j 0 hj (by decide)
    have h2 := hr j 0 hj (by decide)
    rw [e] at h2
    rw [h1, rv_int.1 h2]
  intro j p hj
  refine ⟨[.int .u64 p], rfl, rfl, ?_⟩
  intro i u hu
  have hi : i = 0 ∧ u = .int .u64 p := by
    cases i with
    | zero => simpa using hu.symm
    | succ i => simp at hu
  obtain ⟨rfl, rfl⟩ := hi
  match j, hj with
  | 0, hj => simp at hj; subst hj; exact key 0 _ (by decide) e0
  | 1, hj => simp at hj; subst hj; exact key 1 _ (by decide) e1
  | 2, hj => simp at hj; subst hj; exact key 2 _ (by decide) e2
  | 3, hj => simp at hj; subst hj; exact key 3 _ (by decide) e3
  | 4, hj => simp at hj; subst hj; exact key 4 _ (by decide) e4
  | 5, hj => simp at hj; subst hj; exact key 5 _ (by decide) e5
  | j + 6, hj => simp at hj
open A in
theorem cnNu {w w' : World} {ok : Nat → Prop} {v : Value} {l : List Int} (hl : l.length = 6) (h : Kd.R (Kd.int .u64) 26 w' w.heap.size ok v l) (hs : ∀ g, w'.heap[g]? = none ∨ g < w'.heap.size) :
    RV noNames w' (cnSixA l) v ∧ ∀ n, Fr w.heap.size n (cnSixA l) v := by
  obtain ⟨_, inner, ho, hr⟩ := h
  obtain ⟨a, b, c, d, e, f, rfl⟩ := cnSixOf hl
  obtain ⟨hi, ⟨rfl, h0⟩ | ⟨g, cap, cur, rfl, hg, hh, hle, hcap, hsz, htk⟩⟩ := ho
  · simp at h0
  obtain ⟨v0, v1, v2, v3, v4, v5, rfl⟩ := cnSixV (l := inner) hi
  have q : ∀ j p, ([a, b, c, d, e, f] : List Int)[j]? = some p → (([v0, v1, v2, v3, v4, v5] : List Value).drop (j * 1)).take 1 = [.int .u64 p] := fun j p hj => hr.2 j p hj
  have q0 : v0 = .int .u64 a := by simpa using q 0 a rfl
  have q1 : v1 = .int .u64 b := by simpa using q 1 b rfl
  have q2 : v2 = .int .u64 c := by simpa using q 2 c rfl
  have q3 : v3 = .int .u64 d := by simpa using q 3 d rfl
  have q4 : v4 = .int .u64 e := by simpa using q 4 e rfl
  have q5 : v5 = .int .u64 f := by simpa using q 5 f rfl
  subst q0 q1 q2 q3 q4 q5
  have hlt : g < w'.heap.size := by
    rcases hs g with hq | hq
    · rw [hq] at hh; cases hh
    · exact hq
  refine ⟨?_, fun n => ?_⟩
  · refine RV.nu 26 1 6 (L := cur.toList) hlt hcap hle (by simpa using hh) (by simpa [show (Kd.int .u64).sz = 1 from rfl] using hsz) rfl ?_
    have : cur.toList.take 6 = [.int .u64 a, .int .u64 b, .int .u64 c, .int .u64 d, .int .u64 e, .int .u64 f] := htk
    show RL noNames w' [.int .u64 a, .int .u64 b, .int .u64 c, .int .u64 d, .int .u64 e, .int .u64 f] (cur.toList.take 6)
    rw [this]
    exact .cons (.int _ _) (.cons (.int _ _) (.cons (.int _ _) (.cons (.int _ _) (.cons (.int _ _) (.cons (.int _ _) .nil)))))
  · cases n <;> exact hg
theorem cnHeapOr (w : World) (g : Nat) : w.heap[g]? = none ∨ g < w.heap.size := by
  rcases Nat.lt_or_ge g w.heap.size with h | h
  · exact .inr h
  · exact .inl (by simp [h])
open A in
/-- A call whose result is a wide number. -/
theorem cnGives {g : FuncId} {fn : Func} (hf : Try.prog.funcs[g]? = some fn) (hb : fn.body.isSome = true) (hn : (fn.name == "runtime.NumGoroutine") = false) {A : List Value} {w : World} {n : Bool} {l : List Int} (hl : l.length = 6)
    (h : Calls Try.prog g A.toArray w fun e w' => ∃ v1_ : Value, e = .returned (.agg #[.bool n, v1_]) ∧ Kd.R (Kd.int .u64) 26 w' w.heap.size (fun _ => True) v1_ l ∧ Below w.heap.size w w') :
    Gives Try.prog g A.toArray w fun V w' => (RV noNames w' (.agg [.bool n, cnSixA l]) V ∧ Below w.heap.size w w') ∧ Fr w.heap.size 4 (.agg [.bool n, cnSixA l]) V := by
  refine .inl ⟨callFunc_enter hf hb hn _ _, h.mono fun e w' he => ?_⟩
  obtain ⟨v1, e1, hR, hB⟩ := he
  have hq := cnNu hl hR (cnHeapOr w')
  refine ⟨_, e1, ⟨.agg (.cons (.bool _) (.cons hq.1 .nil)), hB⟩, ?_⟩
  show ∀ (i : Nat) (v : AV) (V : Value), [AV.bool n, cnSixA l][i]? = some v → #[Value.bool n, v1][i]? = some V → Fr w.heap.size 3 v V
  intro i v V hv hV
  match i with
  | 0 => simp at hv hV; subst hv hV; exact Fr.flat 3 rfl
  | 1 => simp at hv hV; subst hv hV; exact hq.2 3
  | i + 2 => simp at hv
open A in
theorem cnConW_ok {g : FuncId} {fn : Func} (hf : Try.prog.funcs[g]? = some fn) (hb : fn.body.isSome = true) (hn : (fn.name == "runtime.NumGoroutine") = false) {f : Bool → List Int → Bool → List Int → Option (Bool × List Int)}
    (h : ∀ n A0 c0 l m A1 c1 l' r1 r2 w, Kd.C (Kd.int .u64) w A0 l.length l → l.length ≤ c0 → Kd.C (Kd.int .u64) w A1 l'.length l' → l'.length ≤ c1 → f n l m l' = some (r1, r2) →
      Calls Try.prog g #[.agg #[.bool n, .slice A0 l.length c0], .agg #[.bool m, .slice A1 l'.length c1]] w fun e w' => ∃ v1_ : Value, e = .returned (.agg #[.bool r1, v1_]) ∧ Kd.R (Kd.int .u64) 26 w' w.heap.size (fun _ => True) v1_ r2 ∧ Below w.heap.size w w') : COk Try.prog g (cnConW f) := by
  intro args p v hc hp w A hA
  unfold cnConW at hc
  split at hc
  · split at hc
    · rename_i n s len c m s' len' d hs
      obtain ⟨rfl, rfl, rfl, rfl⟩ := hs
      split at hc
      · rename_i l l' hl hl'
        simp only [Option.some.injEq, Prod.mk.injEq] at hc
        obtain ⟨rfl, rfl⟩ := hc
        simp only [rl_cons, rl_nil, rv_agg, rv_bool] at hA
        obtain ⟨_, _, rfl, ⟨_, rfl, _, _, rfl, rfl, V0, _, rfl, hV0, rfl⟩, _, _, rfl, ⟨_, rfl, _, _, rfl, rfl, V1, _, rfl, hV1, rfl⟩, rfl⟩ := hA
        obtain ⟨A0, c0, rfl, q0, C0⟩ := cnCsl hV0 hl
        obtain ⟨A1, c1, rfl, q1, C1⟩ := cnCsl hV1 hl'
        simp only [Bool.and_eq_true, decide_eq_true_eq] at hp
        rcases hq : f n l m l' with _ | ⟨r1, r2⟩
        · rw [hq] at hp; simp at hp
        rw [hq] at hp
        exact cnGives hf hb hn (A := [.agg #[.bool n, .slice A0 l.length c0], .agg #[.bool m, .slice A1 l'.length c1]]) hp.2 (h n A0 c0 l m A1 c1 l' r1 r2 w C0 q0 C1 q1 hq)
      · cases hc
    · cases hc
  · cases hc
open A in
theorem cnConO_ok {g : FuncId} {fn : Func} (hf : Try.prog.funcs[g]? = some fn) (hb : fn.body.isSome = true) (hn : (fn.name == "runtime.NumGoroutine") = false) {f : Int → Option (Bool × List Int)}
    (h : ∀ n r1 r2 w, f n = some (r1, r2) → Calls Try.prog g #[.int .i64 n] w fun e w' => ∃ v1_ : Value, e = .returned (.agg #[.bool r1, v1_]) ∧ Kd.R (Kd.int .u64) 26 w' w.heap.size (fun _ => True) v1_ r2 ∧ Below w.heap.size w w') : COk Try.prog g (cnConO f) := by
  intro args p v hc hp w A hA
  unfold cnConO at hc
  split at hc
  · rename_i n
    simp only [Option.some.injEq, Prod.mk.injEq] at hc
    obtain ⟨rfl, rfl⟩ := hc
    obtain rfl : A = [.int .i64 n] := by simpa [rl_cons, rl_nil, rv_int] using hA
    simp only [Bool.and_eq_true, decide_eq_true_eq] at hp
    rcases hq : f n with _ | ⟨r1, r2⟩
    · rw [hq] at hp; simp at hp
    rw [hq] at hp
    exact cnGives hf hb hn (A := [.int .i64 n]) hp.2 (h n r1 r2 w hq)
  · cases hc
open A in
theorem cnConZ_ok {g : FuncId} {fn : Func} (hf : Try.prog.funcs[g]? = some fn) (hb : fn.body.isSome = true) (hn : (fn.name == "runtime.NumGoroutine") = false) {f : List Int → Option Bool}
    (h : ∀ A0 c0 l r w, Kd.C (Kd.int .u64) w A0 l.length l → l.length ≤ c0 → f l = some r → Calls Try.prog g #[.slice A0 l.length c0] w fun e w' => e = .returned (.bool r) ∧ Below w.heap.size w w') : COk Try.prog g (cnConZ f) := by
  intro args p v hc hp w A hA
  unfold cnConZ at hc
  split at hc
  · split at hc
    · rename_i s len c hs
      obtain ⟨rfl, rfl⟩ := hs
      split at hc
      · rename_i l hl
        simp only [Option.some.injEq, Prod.mk.injEq] at hc
        obtain ⟨rfl, rfl⟩ := hc
        simp only [rl_cons, rl_nil] at hA
        obtain ⟨V0, _, rfl, hV0, rfl⟩ := hA
        obtain ⟨A0, c0, rfl, q0, C0⟩ := cnCsl hV0 hl
        rcases hq : f l with _ | r
        · rw [hq] at hp; cases hp
        exact gives_of_calls (A := [.slice A0 l.length c0]) hf hb hn (h A0 c0 l r w C0 q0 hq) (fun _ => .bool _) (fun _ h => h)
      · cases hc
    · cases hc
  · cases hc
open A in
theorem cnTab (k : Nat) : TabOk Try.prog (tab [(13, cnConW (computusref01_Plus.f k)), (14, cnConO computusref01_Of.f), (16, cnConW (computusref01_Over.f k)), (24, cnConZ (computusref01_zero.f k))]) :=
  tab_cons (cnConW_ok Try.func13 (by kernel_rfl) (by kernel_rfl) fun n A0 c0 l m A1 c1 l' r1 r2 w a b c d e => computusref01_Plus.calls k n A0 c0 l m A1 c1 l' r1 r2 w a b c d e)
    (tab_cons (cnConO_ok Try.func14 (by kernel_rfl) (by kernel_rfl) fun n r1 r2 w e => computusref01_Of.calls n r1 r2 w e)
    (tab_cons (cnConW_ok Try.func16 (by kernel_rfl) (by kernel_rfl) fun n A0 c0 l m A1 c1 l' r1 r2 w a b c d e => computusref01_Over.calls k n A0 c0 l m A1 c1 l' r1 r2 w a b c d e)
    (tab_cons (cnConZ_ok Try.func24 (by kernel_rfl) (by kernel_rfl) fun A0 c0 l r w a b c => computusref01_zero.calls k A0 c0 l r w a b c) tab_nil)))
def cnOr (x y : Int) : Int := IntKind.wrap .u64 ((BitVec.toNat (BitVec.ofInt (IntKind.bits .u64) (IntKind.wrap .u64 (x * 2 ^ min (Int.toNat 32) (IntKind.bits .u64))) ||| BitVec.ofInt (IntKind.bits .u64) y) : Nat) : Int)
open A in
set_option maxRecDepth 100000 in
theorem cnVc (k : Nat) (a b s : Int) (K : AV → Prop) : afv PA Try.prog (tab [(13, cnConW (computusref01_Plus.f k)), (14, cnConO computusref01_Of.f), (16, cnConW (computusref01_Over.f k)), (24, cnConZ (computusref01_zero.f k))]) noLoops 12 8 [.int .i64 a, .int .i64 b, .int .i64 s] K = (brc (s == 0) (K (AV.tup [AV.int IntKind.u64 0, AV.int IntKind.i64 11])) (brc (Option.isSome (computusref01_Of.f b) && decide (List.length (Prod.snd (gd (computusref01_Of.f b))) = 6)) (∀ (m0 : Bool), m0 = Prod.fst (gd (computusref01_Of.f b)) → ∀ (m1 : Int), m1 = cnAt (Prod.snd (gd (computusref01_Of.f b))) 0 → ∀ (m2 : Int), m2 = cnAt (Prod.snd (gd (computusref01_Of.f b))) 1 → ∀ (m3 : Int), m3 = cnAt (Prod.snd (gd (computusref01_Of.f b))) 2 → ∀ (m4 : Int), m4 = cnAt (Prod.snd (gd (computusref01_Of.f b))) 3 → ∀ (m5 : Int), m5 = cnAt (Prod.snd (gd (computusref01_Of.f b))) 4 → ∀ (m6 : Int), m6 = cnAt (Prod.snd (gd (computusref01_Of.f b))) 5 → brc (Option.isSome (computusref01_Of.f a) && decide (List.length (Prod.snd (gd (computusref01_Of.f a))) = 6)) (∀ (m7 : Bool), m7 = Prod.fst (gd (computusref01_Of.f a)) → ∀ (m8 : Int), m8 = cnAt (Prod.snd (gd (computusref01_Of.f a))) 0 → ∀ (m9 : Int), m9 = cnAt (Prod.snd (gd (computusref01_Of.f a))) 1 → ∀ (m10 : Int), m10 = cnAt (Prod.snd (gd (computusref01_Of.f a))) 2 → ∀ (m11 : Int), m11 = cnAt (Prod.snd (gd (computusref01_Of.f a))) 3 → ∀ (m12 : Int), m12 = cnAt (Prod.snd (gd (computusref01_Of.f a))) 4 → ∀ (m13 : Int), m13 = cnAt (Prod.snd (gd (computusref01_Of.f a))) 5 → brc (!m7) (brc (Option.isSome ((computusref01_zero.f k) [m8, m9, m10, m11, m12, m13])) (∀ (m14 : Bool), m14 = gd ((computusref01_zero.f k) [m8, m9, m10, m11, m12, m13]) → brc (Option.isSome ((computusref01_Plus.f k) m0 [m1, m2, m3, m4, m5, m6] (if true = true then !m14 else false) [m8, m9, m10, m11, m12, m13]) && decide (List.length (Prod.snd (gd ((computusref01_Plus.f k) m0 [m1, m2, m3, m4, m5, m6] (if true = true then !m14 else false) [m8, m9, m10, m11, m12, m13]))) = 6)) (∀ (m15 : Bool), m15 = Prod.fst (gd ((computusref01_Plus.f k) m0 [m1, m2, m3, m4, m5, m6] (if true = true then !m14 else false) [m8, m9, m10, m11, m12, m13])) → ∀ (m16 : Int), m16 = cnAt (Prod.snd (gd ((computusref01_Plus.f k) m0 [m1, m2, m3, m4, m5, m6] (if true = true then !m14 else false) [m8, m9, m10, m11, m12, m13]))) 0 → ∀ (m17 : Int), m17 = cnAt (Prod.snd (gd ((computusref01_Plus.f k) m0 [m1, m2, m3, m4, m5, m6] (if true = true then !m14 else false) [m8, m9, m10, m11, m12, m13]))) 1 → ∀ (m18 : Int), m18 = cnAt (Prod.snd (gd ((computusref01_Plus.f k) m0 [m1, m2, m3, m4, m5, m6] (if true = true then !m14 else false) [m8, m9, m10, m11, m12, m13]))) 2 → ∀ (m19 : Int), m19 = cnAt (Prod.snd (gd ((computusref01_Plus.f k) m0 [m1, m2, m3, m4, m5, m6] (if true = true then !m14 else false) [m8, m9, m10, m11, m12, m13]))) 3 → ∀ (m20 : Int), m20 = cnAt (Prod.snd (gd ((computusref01_Plus.f k) m0 [m1, m2, m3, m4, m5, m6] (if true = true then !m14 else false) [m8, m9, m10, m11, m12, m13]))) 4 → ∀ (m21 : Int), m21 = cnAt (Prod.snd (gd ((computusref01_Plus.f k) m0 [m1, m2, m3, m4, m5, m6] (if true = true then !m14 else false) [m8, m9, m10, m11, m12, m13]))) 5 → brc (Option.isSome (computusref01_Of.f s) && decide (List.length (Prod.snd (gd (computusref01_Of.f s))) = 6)) (∀ (m22 : Bool), m22 = Prod.fst (gd (computusref01_Of.f s)) → ∀ (m23 : Int), m23 = cnAt (Prod.snd (gd (computusref01_Of.f s))) 0 → ∀ (m24 : Int), m24 = cnAt (Prod.snd (gd (computusref01_Of.f s))) 1 → ∀ (m25 : Int), m25 = cnAt (Prod.snd (gd (computusref01_Of.f s))) 2 → ∀ (m26 : Int), m26 = cnAt (Prod.snd (gd (computusref01_Of.f s))) 3 → ∀ (m27 : Int), m27 = cnAt (Prod.snd (gd (computusref01_Of.f s))) 4 → ∀ (m28 : Int), m28 = cnAt (Prod.snd (gd (computusref01_Of.f s))) 5 → brc (decide (s < 0)) (brc (!m15) (brc (Option.isSome ((computusref01_zero.f k) [m16, m17, m18, m19, m20, m21])) (∀ (m29 : Bool), m29 = gd ((computusref01_zero.f k) [m16, m17, m18, m19, m20, m21]) → brc (!m22) (brc (Option.isSome ((computusref01_zero.f k) [m23, m24, m25, m26, m27, m28])) (∀ (m30 : Bool), m30 = gd ((computusref01_zero.f k) [m23, m24, m25, m26, m27, m28]) → brc (!m29) (K (AV.tup [AV.int IntKind.u64 0, AV.int IntKind.i64 0])) (brc (Option.isSome ((computusref01_Over.f k) (if true = true then !m29 else false) [m16, m17, m18, m19, m20, m21] (if true = true then !m30 else false) [m23, m24, m25, m26, m27, m28]) && decide (List.length (Prod.snd (gd ((computusref01_Over.f k) (if true = true then !m29 else false) [m16, m17, m18, m19, m20, m21] (if true = true then !m30 else false) [m23, m24, m25, m26, m27, m28]))) = 6)) (∀ (m31 : Bool), m31 = Prod.fst (gd ((computusref01_Over.f k) (if true = true then !m29 else false) [m16, m17, m18, m19, m20, m21] (if true = true then !m30 else false) [m23, m24, m25, m26, m27, m28])) → ∀ (m32 : Int), m32 = cnAt (Prod.snd (gd ((computusref01_Over.f k) (if true = true then !m29 else false) [m16, m17, m18, m19, m20, m21] (if true = true then !m30 else false) [m23, m24, m25, m26, m27, m28]))) 0 → ∀ (m33 : Int), m33 = cnAt (Prod.snd (gd ((computusref01_Over.f k) (if true = true then !m29 else false) [m16, m17, m18, m19, m20, m21] (if true = true then !m30 else false) [m23, m24, m25, m26, m27, m28]))) 1 → ∀ (m34 : Int), m34 = cnAt (Prod.snd (gd ((computusref01_Over.f k) (if true = true then !m29 else false) [m16, m17, m18, m19, m20, m21] (if true = true then !m30 else false) [m23, m24, m25, m26, m27, m28]))) 2 → ∀ (m35 : Int), m35 = cnAt (Prod.snd (gd ((computusref01_Over.f k) (if true = true then !m29 else false) [m16, m17, m18, m19, m20, m21] (if true = true then !m30 else false) [m23, m24, m25, m26, m27, m28]))) 3 → ∀ (m36 : Int), m36 = cnAt (Prod.snd (gd ((computusref01_Over.f k) (if true = true then !m29 else false) [m16, m17, m18, m19, m20, m21] (if true = true then !m30 else false) [m23, m24, m25, m26, m27, m28]))) 4 → ∀ (m37 : Int), m37 = cnAt (Prod.snd (gd ((computusref01_Over.f k) (if true = true then !m29 else false) [m16, m17, m18, m19, m20, m21] (if true = true then !m30 else false) [m23, m24, m25, m26, m27, m28]))) 5 → brc (Option.isSome (computusref01_Of.f 1) && decide (List.length (Prod.snd (gd (computusref01_Of.f 1))) = 6)) (∀ (m38 : Bool), m38 = Prod.fst (gd (computusref01_Of.f 1)) → ∀ (m39 : Int), m39 = cnAt (Prod.snd (gd (computusref01_Of.f 1))) 0 → ∀ (m40 : Int), m40 = cnAt (Prod.snd (gd (computusref01_Of.f 1))) 1 → ∀ (m41 : Int), m41 = cnAt (Prod.snd (gd (computusref01_Of.f 1))) 2 → ∀ (m42 : Int), m42 = cnAt (Prod.snd (gd (computusref01_Of.f 1))) 3 → ∀ (m43 : Int), m43 = cnAt (Prod.snd (gd (computusref01_Of.f 1))) 4 → ∀ (m44 : Int), m44 = cnAt (Prod.snd (gd (computusref01_Of.f 1))) 5 → brc (Option.isSome ((computusref01_Plus.f k) m31 [m32, m33, m34, m35, m36, m37] m38 [m39, m40, m41, m42, m43, m44]) && decide (List.length (Prod.snd (gd ((computusref01_Plus.f k) m31 [m32, m33, m34, m35, m36, m37] m38 [m39, m40, m41, m42, m43, m44]))) = 6)) (∀ (m45 : Bool), m45 = Prod.fst (gd ((computusref01_Plus.f k) m31 [m32, m33, m34, m35, m36, m37] m38 [m39, m40, m41, m42, m43, m44])) → ∀ (m46 : Int), m46 = cnAt (Prod.snd (gd ((computusref01_Plus.f k) m31 [m32, m33, m34, m35, m36, m37] m38 [m39, m40, m41, m42, m43, m44]))) 0 → ∀ (m47 : Int), m47 = cnAt (Prod.snd (gd ((computusref01_Plus.f k) m31 [m32, m33, m34, m35, m36, m37] m38 [m39, m40, m41, m42, m43, m44]))) 1 → ∀ (m48 : Int), m48 = cnAt (Prod.snd (gd ((computusref01_Plus.f k) m31 [m32, m33, m34, m35, m36, m37] m38 [m39, m40, m41, m42, m43, m44]))) 2 → ∀ (m49 : Int), m49 = cnAt (Prod.snd (gd ((computusref01_Plus.f k) m31 [m32, m33, m34, m35, m36, m37] m38 [m39, m40, m41, m42, m43, m44]))) 3 → ∀ (m50 : Int), m50 = cnAt (Prod.snd (gd ((computusref01_Plus.f k) m31 [m32, m33, m34, m35, m36, m37] m38 [m39, m40, m41, m42, m43, m44]))) 4 → ∀ (m51 : Int), m51 = cnAt (Prod.snd (gd ((computusref01_Plus.f k) m31 [m32, m33, m34, m35, m36, m37] m38 [m39, m40, m41, m42, m43, m44]))) 5 → brc (m48 != 0) (K (AV.tup [AV.int IntKind.u64 0, AV.int IntKind.i64 10])) (K (AV.tup [AV.int IntKind.u64 (cnOr m47 m46), AV.int IntKind.i64 0]))) False) False) False)) False) (brc (!m29) (K (AV.tup [AV.int IntKind.u64 0, AV.int IntKind.i64 0])) (brc (Option.isSome ((computusref01_Over.f k) (if true = true then !m29 else false) [m16, m17, m18, m19, m20, m21] false [m23, m24, m25, m26, m27, m28]) && decide (List.length (Prod.snd (gd ((computusref01_Over.f k) (if true = true then !m29 else false) [m16, m17, m18, m19, m20, m21] false [m23, m24, m25, m26, m27, m28]))) = 6)) (∀ (m30 : Bool), m30 = Prod.fst (gd ((computusref01_Over.f k) (if true = true then !m29 else false) [m16, m17, m18, m19, m20, m21] false [m23, m24, m25, m26, m27, m28])) → ∀ (m31 : Int), m31 = cnAt (Prod.snd (gd ((computusref01_Over.f k) (if true = true then !m29 else false) [m16, m17, m18, m19, m20, m21] false [m23, m24, m25, m26, m27, m28]))) 0 → ∀ (m32 : Int), m32 = cnAt (Prod.snd (gd ((computusref01_Over.f k) (if true = true then !m29 else false) [m16, m17, m18, m19, m20, m21] false [m23, m24, m25, m26, m27, m28]))) 1 → ∀ (m33 : Int), m33 = cnAt (Prod.snd (gd ((computusref01_Over.f k) (if true = true then !m29 else false) [m16, m17, m18, m19, m20, m21] false [m23, m24, m25, m26, m27, m28]))) 2 → ∀ (m34 : Int), m34 = cnAt (Prod.snd (gd ((computusref01_Over.f k) (if true = true then !m29 else false) [m16, m17, m18, m19, m20, m21] false [m23, m24, m25, m26, m27, m28]))) 3 → ∀ (m35 : Int), m35 = cnAt (Prod.snd (gd ((computusref01_Over.f k) (if true = true then !m29 else false) [m16, m17, m18, m19, m20, m21] false [m23, m24, m25, m26, m27, m28]))) 4 → ∀ (m36 : Int), m36 = cnAt (Prod.snd (gd ((computusref01_Over.f k) (if true = true then !m29 else false) [m16, m17, m18, m19, m20, m21] false [m23, m24, m25, m26, m27, m28]))) 5 → brc (Option.isSome (computusref01_Of.f 1) && decide (List.length (Prod.snd (gd (computusref01_Of.f 1))) = 6)) (∀ (m37 : Bool), m37 = Prod.fst (gd (computusref01_Of.f 1)) → ∀ (m38 : Int), m38 = cnAt (Prod.snd (gd (computusref01_Of.f 1))) 0 → ∀ (m39 : Int), m39 = cnAt (Prod.snd (gd (computusref01_Of.f 1))) 1 → ∀ (m40 : Int), m40 = cnAt (Prod.snd (gd (computusref01_Of.f 1))) 2 → ∀ (m41 : Int), m41 = cnAt (Prod.snd (gd (computusref01_Of.f 1))) 3 → ∀ (m42 : Int), m42 = cnAt (Prod.snd (gd (computusref01_Of.f 1))) 4 → ∀ (m43 : Int), m43 = cnAt (Prod.snd (gd (computusref01_Of.f 1))) 5 → brc (Option.isSome ((computusref01_Plus.f k) m30 [m31, m32, m33, m34, m35, m36] m37 [m38, m39, m40, m41, m42, m43]) && decide (List.length (Prod.snd (gd ((computusref01_Plus.f k) m30 [m31, m32, m33, m34, m35, m36] m37 [m38, m39, m40, m41, m42, m43]))) = 6)) (∀ (m44 : Bool), m44 = Prod.fst (gd ((computusref01_Plus.f k) m30 [m31, m32, m33, m34, m35, m36] m37 [m38, m39, m40, m41, m42, m43])) → ∀ (m45 : Int), m45 = cnAt (Prod.snd (gd ((computusref01_Plus.f k) m30 [m31, m32, m33, m34, m35, m36] m37 [m38, m39, m40, m41, m42, m43]))) 0 → ∀ (m46 : Int), m46 = cnAt (Prod.snd (gd ((computusref01_Plus.f k) m30 [m31, m32, m33, m34, m35, m36] m37 [m38, m39, m40, m41, m42, m43]))) 1 → ∀ (m47 : Int), m47 = cnAt (Prod.snd (gd ((computusref01_Plus.f k) m30 [m31, m32, m33, m34, m35, m36] m37 [m38, m39, m40, m41, m42, m43]))) 2 → ∀ (m48 : Int), m48 = cnAt (Prod.snd (gd ((computusref01_Plus.f k) m30 [m31, m32, m33, m34, m35, m36] m37 [m38, m39, m40, m41, m42, m43]))) 3 → ∀ (m49 : Int), m49 = cnAt (Prod.snd (gd ((computusref01_Plus.f k) m30 [m31, m32, m33, m34, m35, m36] m37 [m38, m39, m40, m41, m42, m43]))) 4 → ∀ (m50 : Int), m50 = cnAt (Prod.snd (gd ((computusref01_Plus.f k) m30 [m31, m32, m33, m34, m35, m36] m37 [m38, m39, m40, m41, m42, m43]))) 5 → brc (m47 != 0) (K (AV.tup [AV.int IntKind.u64 0, AV.int IntKind.i64 10])) (K (AV.tup [AV.int IntKind.u64 (cnOr m46 m45), AV.int IntKind.i64 0]))) False) False) False))) False) (brc (!m22) (brc (Option.isSome ((computusref01_zero.f k) [m23, m24, m25, m26, m27, m28])) (∀ (m29 : Bool), m29 = gd ((computusref01_zero.f k) [m23, m24, m25, m26, m27, m28]) → brc (Option.isSome ((computusref01_Over.f k) false [m16, m17, m18, m19, m20, m21] (if true = true then !m29 else false) [m23, m24, m25, m26, m27, m28]) && decide (List.length (Prod.snd (gd ((computusref01_Over.f k) false [m16, m17, m18, m19, m20, m21] (if true = true then !m29 else false) [m23, m24, m25, m26, m27, m28]))) = 6)) (∀ (m30 : Bool), m30 = Prod.fst (gd ((computusref01_Over.f k) false [m16, m17, m18, m19, m20, m21] (if true = true then !m29 else false) [m23, m24, m25, m26, m27, m28])) → ∀ (m31 : Int), m31 = cnAt (Prod.snd (gd ((computusref01_Over.f k) false [m16, m17, m18, m19, m20, m21] (if true = true then !m29 else false) [m23, m24, m25, m26, m27, m28]))) 0 → ∀ (m32 : Int), m32 = cnAt (Prod.snd (gd ((computusref01_Over.f k) false [m16, m17, m18, m19, m20, m21] (if true = true then !m29 else false) [m23, m24, m25, m26, m27, m28]))) 1 → ∀ (m33 : Int), m33 = cnAt (Prod.snd (gd ((computusref01_Over.f k) false [m16, m17, m18, m19, m20, m21] (if true = true then !m29 else false) [m23, m24, m25, m26, m27, m28]))) 2 → ∀ (m34 : Int), m34 = cnAt (Prod.snd (gd ((computusref01_Over.f k) false [m16, m17, m18, m19, m20, m21] (if true = true then !m29 else false) [m23, m24, m25, m26, m27, m28]))) 3 → ∀ (m35 : Int), m35 = cnAt (Prod.snd (gd ((computusref01_Over.f k) false [m16, m17, m18, m19, m20, m21] (if true = true then !m29 else false) [m23, m24, m25, m26, m27, m28]))) 4 → ∀ (m36 : Int), m36 = cnAt (Prod.snd (gd ((computusref01_Over.f k) false [m16, m17, m18, m19, m20, m21] (if true = true then !m29 else false) [m23, m24, m25, m26, m27, m28]))) 5 → brc (Option.isSome (computusref01_Of.f 1) && decide (List.length (Prod.snd (gd (computusref01_Of.f 1))) = 6)) (∀ (m37 : Bool), m37 = Prod.fst (gd (computusref01_Of.f 1)) → ∀ (m38 : Int), m38 = cnAt (Prod.snd (gd (computusref01_Of.f 1))) 0 → ∀ (m39 : Int), m39 = cnAt (Prod.snd (gd (computusref01_Of.f 1))) 1 → ∀ (m40 : Int), m40 = cnAt (Prod.snd (gd (computusref01_Of.f 1))) 2 → ∀ (m41 : Int), m41 = cnAt (Prod.snd (gd (computusref01_Of.f 1))) 3 → ∀ (m42 : Int), m42 = cnAt (Prod.snd (gd (computusref01_Of.f 1))) 4 → ∀ (m43 : Int), m43 = cnAt (Prod.snd (gd (computusref01_Of.f 1))) 5 → brc (Option.isSome ((computusref01_Plus.f k) m30 [m31, m32, m33, m34, m35, m36] m37 [m38, m39, m40, m41, m42, m43]) && decide (List.length (Prod.snd (gd ((computusref01_Plus.f k) m30 [m31, m32, m33, m34, m35, m36] m37 [m38, m39, m40, m41, m42, m43]))) = 6)) (∀ (m44 : Bool), m44 = Prod.fst (gd ((computusref01_Plus.f k) m30 [m31, m32, m33, m34, m35, m36] m37 [m38, m39, m40, m41, m42, m43])) → ∀ (m45 : Int), m45 = cnAt (Prod.snd (gd ((computusref01_Plus.f k) m30 [m31, m32, m33, m34, m35, m36] m37 [m38, m39, m40, m41, m42, m43]))) 0 → ∀ (m46 : Int), m46 = cnAt (Prod.snd (gd ((computusref01_Plus.f k) m30 [m31, m32, m33, m34, m35, m36] m37 [m38, m39, m40, m41, m42, m43]))) 1 → ∀ (m47 : Int), m47 = cnAt (Prod.snd (gd ((computusref01_Plus.f k) m30 [m31, m32, m33, m34, m35, m36] m37 [m38, m39, m40, m41, m42, m43]))) 2 → ∀ (m48 : Int), m48 = cnAt (Prod.snd (gd ((computusref01_Plus.f k) m30 [m31, m32, m33, m34, m35, m36] m37 [m38, m39, m40, m41, m42, m43]))) 3 → ∀ (m49 : Int), m49 = cnAt (Prod.snd (gd ((computusref01_Plus.f k) m30 [m31, m32, m33, m34, m35, m36] m37 [m38, m39, m40, m41, m42, m43]))) 4 → ∀ (m50 : Int), m50 = cnAt (Prod.snd (gd ((computusref01_Plus.f k) m30 [m31, m32, m33, m34, m35, m36] m37 [m38, m39, m40, m41, m42, m43]))) 5 → brc (m47 != 0) (K (AV.tup [AV.int IntKind.u64 0, AV.int IntKind.i64 10])) (K (AV.tup [AV.int IntKind.u64 (cnOr m46 m45), AV.int IntKind.i64 0]))) False) False) False) False) (brc (Option.isSome ((computusref01_Over.f k) false [m16, m17, m18, m19, m20, m21] false [m23, m24, m25, m26, m27, m28]) && decide (List.length (Prod.snd (gd ((computusref01_Over.f k) false [m16, m17, m18, m19, m20, m21] false [m23, m24, m25, m26, m27, m28]))) = 6)) (∀ (m29 : Bool), m29 = Prod.fst (gd ((computusref01_Over.f k) false [m16, m17, m18, m19, m20, m21] false [m23, m24, m25, m26, m27, m28])) → ∀ (m30 : Int), m30 = cnAt (Prod.snd (gd ((computusref01_Over.f k) false [m16, m17, m18, m19, m20, m21] false [m23, m24, m25, m26, m27, m28]))) 0 → ∀ (m31 : Int), m31 = cnAt (Prod.snd (gd ((computusref01_Over.f k) false [m16, m17, m18, m19, m20, m21] false [m23, m24, m25, m26, m27, m28]))) 1 → ∀ (m32 : Int), m32 = cnAt (Prod.snd (gd ((computusref01_Over.f k) false [m16, m17, m18, m19, m20, m21] false [m23, m24, m25, m26, m27, m28]))) 2 → ∀ (m33 : Int), m33 = cnAt (Prod.snd (gd ((computusref01_Over.f k) false [m16, m17, m18, m19, m20, m21] false [m23, m24, m25, m26, m27, m28]))) 3 → ∀ (m34 : Int), m34 = cnAt (Prod.snd (gd ((computusref01_Over.f k) false [m16, m17, m18, m19, m20, m21] false [m23, m24, m25, m26, m27, m28]))) 4 → ∀ (m35 : Int), m35 = cnAt (Prod.snd (gd ((computusref01_Over.f k) false [m16, m17, m18, m19, m20, m21] false [m23, m24, m25, m26, m27, m28]))) 5 → brc (Option.isSome (computusref01_Of.f 1) && decide (List.length (Prod.snd (gd (computusref01_Of.f 1))) = 6)) (∀ (m36 : Bool), m36 = Prod.fst (gd (computusref01_Of.f 1)) → ∀ (m37 : Int), m37 = cnAt (Prod.snd (gd (computusref01_Of.f 1))) 0 → ∀ (m38 : Int), m38 = cnAt (Prod.snd (gd (computusref01_Of.f 1))) 1 → ∀ (m39 : Int), m39 = cnAt (Prod.snd (gd (computusref01_Of.f 1))) 2 → ∀ (m40 : Int), m40 = cnAt (Prod.snd (gd (computusref01_Of.f 1))) 3 → ∀ (m41 : Int), m41 = cnAt (Prod.snd (gd (computusref01_Of.f 1))) 4 → ∀ (m42 : Int), m42 = cnAt (Prod.snd (gd (computusref01_Of.f 1))) 5 → brc (Option.isSome ((computusref01_Plus.f k) m29 [m30, m31, m32, m33, m34, m35] m36 [m37, m38, m39, m40, m41, m42]) && decide (List.length (Prod.snd (gd ((computusref01_Plus.f k) m29 [m30, m31, m32, m33, m34, m35] m36 [m37, m38, m39, m40, m41, m42]))) = 6)) (∀ (m43 : Bool), m43 = Prod.fst (gd ((computusref01_Plus.f k) m29 [m30, m31, m32, m33, m34, m35] m36 [m37, m38, m39, m40, m41, m42])) → ∀ (m44 : Int), m44 = cnAt (Prod.snd (gd ((computusref01_Plus.f k) m29 [m30, m31, m32, m33, m34, m35] m36 [m37, m38, m39, m40, m41, m42]))) 0 → ∀ (m45 : Int), m45 = cnAt (Prod.snd (gd ((computusref01_Plus.f k) m29 [m30, m31, m32, m33, m34, m35] m36 [m37, m38, m39, m40, m41, m42]))) 1 → ∀ (m46 : Int), m46 = cnAt (Prod.snd (gd ((computusref01_Plus.f k) m29 [m30, m31, m32, m33, m34, m35] m36 [m37, m38, m39, m40, m41, m42]))) 2 → ∀ (m47 : Int), m47 = cnAt (Prod.snd (gd ((computusref01_Plus.f k) m29 [m30, m31, m32, m33, m34, m35] m36 [m37, m38, m39, m40, m41, m42]))) 3 → ∀ (m48 : Int), m48 = cnAt (Prod.snd (gd ((computusref01_Plus.f k) m29 [m30, m31, m32, m33, m34, m35] m36 [m37, m38, m39, m40, m41, m42]))) 4 → ∀ (m49 : Int), m49 = cnAt (Prod.snd (gd ((computusref01_Plus.f k) m29 [m30, m31, m32, m33, m34, m35] m36 [m37, m38, m39, m40, m41, m42]))) 5 → brc (m46 != 0) (K (AV.tup [AV.int IntKind.u64 0, AV.int IntKind.i64 10])) (K (AV.tup [AV.int IntKind.u64 (cnOr m45 m44), AV.int IntKind.i64 0]))) False) False) False))) (brc m15 (K (AV.tup [AV.int IntKind.u64 0, AV.int IntKind.i64 0])) (brc (Option.isSome ((computusref01_Over.f k) m15 [m16, m17, m18, m19, m20, m21] m22 [m23, m24, m25, m26, m27, m28]) && decide (List.length (Prod.snd (gd ((computusref01_Over.f k) m15 [m16, m17, m18, m19, m20, m21] m22 [m23, m24, m25, m26, m27, m28]))) = 6)) (∀ (m29 : Bool), m29 = Prod.fst (gd ((computusref01_Over.f k) m15 [m16, m17, m18, m19, m20, m21] m22 [m23, m24, m25, m26, m27, m28])) → ∀ (m30 : Int), m30 = cnAt (Prod.snd (gd ((computusref01_Over.f k) m15 [m16, m17, m18, m19, m20, m21] m22 [m23, m24, m25, m26, m27, m28]))) 0 → ∀ (m31 : Int), m31 = cnAt (Prod.snd (gd ((computusref01_Over.f k) m15 [m16, m17, m18, m19, m20, m21] m22 [m23, m24, m25, m26, m27, m28]))) 1 → ∀ (m32 : Int), m32 = cnAt (Prod.snd (gd ((computusref01_Over.f k) m15 [m16, m17, m18, m19, m20, m21] m22 [m23, m24, m25, m26, m27, m28]))) 2 → ∀ (m33 : Int), m33 = cnAt (Prod.snd (gd ((computusref01_Over.f k) m15 [m16, m17, m18, m19, m20, m21] m22 [m23, m24, m25, m26, m27, m28]))) 3 → ∀ (m34 : Int), m34 = cnAt (Prod.snd (gd ((computusref01_Over.f k) m15 [m16, m17, m18, m19, m20, m21] m22 [m23, m24, m25, m26, m27, m28]))) 4 → ∀ (m35 : Int), m35 = cnAt (Prod.snd (gd ((computusref01_Over.f k) m15 [m16, m17, m18, m19, m20, m21] m22 [m23, m24, m25, m26, m27, m28]))) 5 → brc (Option.isSome (computusref01_Of.f 1) && decide (List.length (Prod.snd (gd (computusref01_Of.f 1))) = 6)) (∀ (m36 : Bool), m36 = Prod.fst (gd (computusref01_Of.f 1)) → ∀ (m37 : Int), m37 = cnAt (Prod.snd (gd (computusref01_Of.f 1))) 0 → ∀ (m38 : Int), m38 = cnAt (Prod.snd (gd (computusref01_Of.f 1))) 1 → ∀ (m39 : Int), m39 = cnAt (Prod.snd (gd (computusref01_Of.f 1))) 2 → ∀ (m40 : Int), m40 = cnAt (Prod.snd (gd (computusref01_Of.f 1))) 3 → ∀ (m41 : Int), m41 = cnAt (Prod.snd (gd (computusref01_Of.f 1))) 4 → ∀ (m42 : Int), m42 = cnAt (Prod.snd (gd (computusref01_Of.f 1))) 5 → brc (Option.isSome ((computusref01_Plus.f k) m29 [m30, m31, m32, m33, m34, m35] m36 [m37, m38, m39, m40, m41, m42]) && decide (List.length (Prod.snd (gd ((computusref01_Plus.f k) m29 [m30, m31, m32, m33, m34, m35] m36 [m37, m38, m39, m40, m41, m42]))) = 6)) (∀ (m43 : Bool), m43 = Prod.fst (gd ((computusref01_Plus.f k) m29 [m30, m31, m32, m33, m34, m35] m36 [m37, m38, m39, m40, m41, m42])) → ∀ (m44 : Int), m44 = cnAt (Prod.snd (gd ((computusref01_Plus.f k) m29 [m30, m31, m32, m33, m34, m35] m36 [m37, m38, m39, m40, m41, m42]))) 0 → ∀ (m45 : Int), m45 = cnAt (Prod.snd (gd ((computusref01_Plus.f k) m29 [m30, m31, m32, m33, m34, m35] m36 [m37, m38, m39, m40, m41, m42]))) 1 → ∀ (m46 : Int), m46 = cnAt (Prod.snd (gd ((computusref01_Plus.f k) m29 [m30, m31, m32, m33, m34, m35] m36 [m37, m38, m39, m40, m41, m42]))) 2 → ∀ (m47 : Int), m47 = cnAt (Prod.snd (gd ((computusref01_Plus.f k) m29 [m30, m31, m32, m33, m34, m35] m36 [m37, m38, m39, m40, m41, m42]))) 3 → ∀ (m48 : Int), m48 = cnAt (Prod.snd (gd ((computusref01_Plus.f k) m29 [m30, m31, m32, m33, m34, m35] m36 [m37, m38, m39, m40, m41, m42]))) 4 → ∀ (m49 : Int), m49 = cnAt (Prod.snd (gd ((computusref01_Plus.f k) m29 [m30, m31, m32, m33, m34, m35] m36 [m37, m38, m39, m40, m41, m42]))) 5 → brc (m46 != 0) (K (AV.tup [AV.int IntKind.u64 0, AV.int IntKind.i64 10])) (K (AV.tup [AV.int IntKind.u64 (cnOr m45 m44), AV.int IntKind.i64 0]))) False) False) False))) False) False) False) (brc (Option.isSome ((computusref01_Plus.f k) m0 [m1, m2, m3, m4, m5, m6] false [m8, m9, m10, m11, m12, m13]) && decide (List.length (Prod.snd (gd ((computusref01_Plus.f k) m0 [m1, m2, m3, m4, m5, m6] false [m8, m9, m10, m11, m12, m13]))) = 6)) (∀ (m14 : Bool), m14 = Prod.fst (gd ((computusref01_Plus.f k) m0 [m1, m2, m3, m4, m5, m6] false [m8, m9, m10, m11, m12, m13])) → ∀ (m15 : Int), m15 = cnAt (Prod.snd (gd ((computusref01_Plus.f k) m0 [m1, m2, m3, m4, m5, m6] false [m8, m9, m10, m11, m12, m13]))) 0 → ∀ (m16 : Int), m16 = cnAt (Prod.snd (gd ((computusref01_Plus.f k) m0 [m1, m2, m3, m4, m5, m6] false [m8, m9, m10, m11, m12, m13]))) 1 → ∀ (m17 : Int), m17 = cnAt (Prod.snd (gd ((computusref01_Plus.f k) m0 [m1, m2, m3, m4, m5, m6] false [m8, m9, m10, m11, m12, m13]))) 2 → ∀ (m18 : Int), m18 = cnAt (Prod.snd (gd ((computusref01_Plus.f k) m0 [m1, m2, m3, m4, m5, m6] false [m8, m9, m10, m11, m12, m13]))) 3 → ∀ (m19 : Int), m19 = cnAt (Prod.snd (gd ((computusref01_Plus.f k) m0 [m1, m2, m3, m4, m5, m6] false [m8, m9, m10, m11, m12, m13]))) 4 → ∀ (m20 : Int), m20 = cnAt (Prod.snd (gd ((computusref01_Plus.f k) m0 [m1, m2, m3, m4, m5, m6] false [m8, m9, m10, m11, m12, m13]))) 5 → brc (Option.isSome (computusref01_Of.f s) && decide (List.length (Prod.snd (gd (computusref01_Of.f s))) = 6)) (∀ (m21 : Bool), m21 = Prod.fst (gd (computusref01_Of.f s)) → ∀ (m22 : Int), m22 = cnAt (Prod.snd (gd (computusref01_Of.f s))) 0 → ∀ (m23 : Int), m23 = cnAt (Prod.snd (gd (computusref01_Of.f s))) 1 → ∀ (m24 : Int), m24 = cnAt (Prod.snd (gd (computusref01_Of.f s))) 2 → ∀ (m25 : Int), m25 = cnAt (Prod.snd (gd (computusref01_Of.f s))) 3 → ∀ (m26 : Int), m26 = cnAt (Prod.snd (gd (computusref01_Of.f s))) 4 → ∀ (m27 : Int), m27 = cnAt (Prod.snd (gd (computusref01_Of.f s))) 5 → brc (decide (s < 0)) (brc (!m14) (brc (Option.isSome ((computusref01_zero.f k) [m15, m16, m17, m18, m19, m20])) (∀ (m28 : Bool), m28 = gd ((computusref01_zero.f k) [m15, m16, m17, m18, m19, m20]) → brc (!m21) (brc (Option.isSome ((computusref01_zero.f k) [m22, m23, m24, m25, m26, m27])) (∀ (m29 : Bool), m29 = gd ((computusref01_zero.f k) [m22, m23, m24, m25, m26, m27]) → brc (!m28) (K (AV.tup [AV.int IntKind.u64 0, AV.int IntKind.i64 0])) (brc (Option.isSome ((computusref01_Over.f k) (if true = true then !m28 else false) [m15, m16, m17, m18, m19, m20] (if true = true then !m29 else false) [m22, m23, m24, m25, m26, m27]) && decide (List.length (Prod.snd (gd ((computusref01_Over.f k) (if true = true then !m28 else false) [m15, m16, m17, m18, m19, m20] (if true = true then !m29 else false) [m22, m23, m24, m25, m26, m27]))) = 6)) (∀ (m30 : Bool), m30 = Prod.fst (gd ((computusref01_Over.f k) (if true = true then !m28 else false) [m15, m16, m17, m18, m19, m20] (if true = true then !m29 else false) [m22, m23, m24, m25, m26, m27])) → ∀ (m31 : Int), m31 = cnAt (Prod.snd (gd ((computusref01_Over.f k) (if true = true then !m28 else false) [m15, m16, m17, m18, m19, m20] (if true = true then !m29 else false) [m22, m23, m24, m25, m26, m27]))) 0 → ∀ (m32 : Int), m32 = cnAt (Prod.snd (gd ((computusref01_Over.f k) (if true = true then !m28 else false) [m15, m16, m17, m18, m19, m20] (if true = true then !m29 else false) [m22, m23, m24, m25, m26, m27]))) 1 → ∀ (m33 : Int), m33 = cnAt (Prod.snd (gd ((computusref01_Over.f k) (if true = true then !m28 else false) [m15, m16, m17, m18, m19, m20] (if true = true then !m29 else false) [m22, m23, m24, m25, m26, m27]))) 2 → ∀ (m34 : Int), m34 = cnAt (Prod.snd (gd ((computusref01_Over.f k) (if true = true then !m28 else false) [m15, m16, m17, m18, m19, m20] (if true = true then !m29 else false) [m22, m23, m24, m25, m26, m27]))) 3 → ∀ (m35 : Int), m35 = cnAt (Prod.snd (gd ((computusref01_Over.f k) (if true = true then !m28 else false) [m15, m16, m17, m18, m19, m20] (if true = true then !m29 else false) [m22, m23, m24, m25, m26, m27]))) 4 → ∀ (m36 : Int), m36 = cnAt (Prod.snd (gd ((computusref01_Over.f k) (if true = true then !m28 else false) [m15, m16, m17, m18, m19, m20] (if true = true then !m29 else false) [m22, m23, m24, m25, m26, m27]))) 5 → brc (Option.isSome (computusref01_Of.f 1) && decide (List.length (Prod.snd (gd (computusref01_Of.f 1))) = 6)) (∀ (m37 : Bool), m37 = Prod.fst (gd (computusref01_Of.f 1)) → ∀ (m38 : Int), m38 = cnAt (Prod.snd (gd (computusref01_Of.f 1))) 0 → ∀ (m39 : Int), m39 = cnAt (Prod.snd (gd (computusref01_Of.f 1))) 1 → ∀ (m40 : Int), m40 = cnAt (Prod.snd (gd (computusref01_Of.f 1))) 2 → ∀ (m41 : Int), m41 = cnAt (Prod.snd (gd (computusref01_Of.f 1))) 3 → ∀ (m42 : Int), m42 = cnAt (Prod.snd (gd (computusref01_Of.f 1))) 4 → ∀ (m43 : Int), m43 = cnAt (Prod.snd (gd (computusref01_Of.f 1))) 5 → brc (Option.isSome ((computusref01_Plus.f k) m30 [m31, m32, m33, m34, m35, m36] m37 [m38, m39, m40, m41, m42, m43]) && decide (List.length (Prod.snd (gd ((computusref01_Plus.f k) m30 [m31, m32, m33, m34, m35, m36] m37 [m38, m39, m40, m41, m42, m43]))) = 6)) (∀ (m44 : Bool), m44 = Prod.fst (gd ((computusref01_Plus.f k) m30 [m31, m32, m33, m34, m35, m36] m37 [m38, m39, m40, m41, m42, m43])) → ∀ (m45 : Int), m45 = cnAt (Prod.snd (gd ((computusref01_Plus.f k) m30 [m31, m32, m33, m34, m35, m36] m37 [m38, m39, m40, m41, m42, m43]))) 0 → ∀ (m46 : Int), m46 = cnAt (Prod.snd (gd ((computusref01_Plus.f k) m30 [m31, m32, m33, m34, m35, m36] m37 [m38, m39, m40, m41, m42, m43]))) 1 → ∀ (m47 : Int), m47 = cnAt (Prod.snd (gd ((computusref01_Plus.f k) m30 [m31, m32, m33, m34, m35, m36] m37 [m38, m39, m40, m41, m42, m43]))) 2 → ∀ (m48 : Int), m48 = cnAt (Prod.snd (gd ((computusref01_Plus.f k) m30 [m31, m32, m33, m34, m35, m36] m37 [m38, m39, m40, m41, m42, m43]))) 3 → ∀ (m49 : Int), m49 = cnAt (Prod.snd (gd ((computusref01_Plus.f k) m30 [m31, m32, m33, m34, m35, m36] m37 [m38, m39, m40, m41, m42, m43]))) 4 → ∀ (m50 : Int), m50 = cnAt (Prod.snd (gd ((computusref01_Plus.f k) m30 [m31, m32, m33, m34, m35, m36] m37 [m38, m39, m40, m41, m42, m43]))) 5 → brc (m47 != 0) (K (AV.tup [AV.int IntKind.u64 0, AV.int IntKind.i64 10])) (K (AV.tup [AV.int IntKind.u64 (cnOr m46 m45), AV.int IntKind.i64 0]))) False) False) False)) False) (brc (!m28) (K (AV.tup [AV.int IntKind.u64 0, AV.int IntKind.i64 0])) (brc (Option.isSome ((computusref01_Over.f k) (if true = true then !m28 else false) [m15, m16, m17, m18, m19, m20] false [m22, m23, m24, m25, m26, m27]) && decide (List.length (Prod.snd (gd ((computusref01_Over.f k) (if true = true then !m28 else false) [m15, m16, m17, m18, m19, m20] false [m22, m23, m24, m25, m26, m27]))) = 6)) (∀ (m29 : Bool), m29 = Prod.fst (gd ((computusref01_Over.f k) (if true = true then !m28 else false) [m15, m16, m17, m18, m19, m20] false [m22, m23, m24, m25, m26, m27])) → ∀ (m30 : Int), m30 = cnAt (Prod.snd (gd ((computusref01_Over.f k) (if true = true then !m28 else false) [m15, m16, m17, m18, m19, m20] false [m22, m23, m24, m25, m26, m27]))) 0 → ∀ (m31 : Int), m31 = cnAt (Prod.snd (gd ((computusref01_Over.f k) (if true = true then !m28 else false) [m15, m16, m17, m18, m19, m20] false [m22, m23, m24, m25, m26, m27]))) 1 → ∀ (m32 : Int), m32 = cnAt (Prod.snd (gd ((computusref01_Over.f k) (if true = true then !m28 else false) [m15, m16, m17, m18, m19, m20] false [m22, m23, m24, m25, m26, m27]))) 2 → ∀ (m33 : Int), m33 = cnAt (Prod.snd (gd ((computusref01_Over.f k) (if true = true then !m28 else false) [m15, m16, m17, m18, m19, m20] false [m22, m23, m24, m25, m26, m27]))) 3 → ∀ (m34 : Int), m34 = cnAt (Prod.snd (gd ((computusref01_Over.f k) (if true = true then !m28 else false) [m15, m16, m17, m18, m19, m20] false [m22, m23, m24, m25, m26, m27]))) 4 → ∀ (m35 : Int), m35 = cnAt (Prod.snd (gd ((computusref01_Over.f k) (if true = true then !m28 else false) [m15, m16, m17, m18, m19, m20] false [m22, m23, m24, m25, m26, m27]))) 5 → brc (Option.isSome (computusref01_Of.f 1) && decide (List.length (Prod.snd (gd (computusref01_Of.f 1))) = 6)) (∀ (m36 : Bool), m36 = Prod.fst (gd (computusref01_Of.f 1)) → ∀ (m37 : Int), m37 = cnAt (Prod.snd (gd (computusref01_Of.f 1))) 0 → ∀ (m38 : Int), m38 = cnAt (Prod.snd (gd (computusref01_Of.f 1))) 1 → ∀ (m39 : Int), m39 = cnAt (Prod.snd (gd (computusref01_Of.f 1))) 2 → ∀ (m40 : Int), m40 = cnAt (Prod.snd (gd (computusref01_Of.f 1))) 3 → ∀ (m41 : Int), m41 = cnAt (Prod.snd (gd (computusref01_Of.f 1))) 4 → ∀ (m42 : Int), m42 = cnAt (Prod.snd (gd (computusref01_Of.f 1))) 5 → brc (Option.isSome ((computusref01_Plus.f k) m29 [m30, m31, m32, m33, m34, m35] m36 [m37, m38, m39, m40, m41, m42]) && decide (List.length (Prod.snd (gd ((computusref01_Plus.f k) m29 [m30, m31, m32, m33, m34, m35] m36 [m37, m38, m39, m40, m41, m42]))) = 6)) (∀ (m43 : Bool), m43 = Prod.fst (gd ((computusref01_Plus.f k) m29 [m30, m31, m32, m33, m34, m35] m36 [m37, m38, m39, m40, m41, m42])) → ∀ (m44 : Int), m44 = cnAt (Prod.snd (gd ((computusref01_Plus.f k) m29 [m30, m31, m32, m33, m34, m35] m36 [m37, m38, m39, m40, m41, m42]))) 0 → ∀ (m45 : Int), m45 = cnAt (Prod.snd (gd ((computusref01_Plus.f k) m29 [m30, m31, m32, m33, m34, m35] m36 [m37, m38, m39, m40, m41, m42]))) 1 → ∀ (m46 : Int), m46 = cnAt (Prod.snd (gd ((computusref01_Plus.f k) m29 [m30, m31, m32, m33, m34, m35] m36 [m37, m38, m39, m40, m41, m42]))) 2 → ∀ (m47 : Int), m47 = cnAt (Prod.snd (gd ((computusref01_Plus.f k) m29 [m30, m31, m32, m33, m34, m35] m36 [m37, m38, m39, m40, m41, m42]))) 3 → ∀ (m48 : Int), m48 = cnAt (Prod.snd (gd ((computusref01_Plus.f k) m29 [m30, m31, m32, m33, m34, m35] m36 [m37, m38, m39, m40, m41, m42]))) 4 → ∀ (m49 : Int), m49 = cnAt (Prod.snd (gd ((computusref01_Plus.f k) m29 [m30, m31, m32, m33, m34, m35] m36 [m37, m38, m39, m40, m41, m42]))) 5 → brc (m46 != 0) (K (AV.tup [AV.int IntKind.u64 0, AV.int IntKind.i64 10])) (K (AV.tup [AV.int IntKind.u64 (cnOr m45 m44), AV.int IntKind.i64 0]))) False) False) False))) False) (brc (!m21) (brc (Option.isSome ((computusref01_zero.f k) [m22, m23, m24, m25, m26, m27])) (∀ (m28 : Bool), m28 = gd ((computusref01_zero.f k) [m22, m23, m24, m25, m26, m27]) → brc (Option.isSome ((computusref01_Over.f k) false [m15, m16, m17, m18, m19, m20] (if true = true then !m28 else false) [m22, m23, m24, m25, m26, m27]) && decide (List.length (Prod.snd (gd ((computusref01_Over.f k) false [m15, m16, m17, m18, m19, m20] (if true = true then !m28 else false) [m22, m23, m24, m25, m26, m27]))) = 6)) (∀ (m29 : Bool), m29 = Prod.fst (gd ((computusref01_Over.f k) false [m15, m16, m17, m18, m19, m20] (if true = true then !m28 else false) [m22, m23, m24, m25, m26, m27])) → ∀ (m30 : Int), m30 = cnAt (Prod.snd (gd ((computusref01_Over.f k) false [m15, m16, m17, m18, m19, m20] (if true = true then !m28 else false) [m22, m23, m24, m25, m26, m27]))) 0 → ∀ (m31 : Int), m31 = cnAt (Prod.snd (gd ((computusref01_Over.f k) false [m15, m16, m17, m18, m19, m20] (if true = true then !m28 else false) [m22, m23, m24, m25, m26, m27]))) 1 → ∀ (m32 : Int), m32 = cnAt (Prod.snd (gd ((computusref01_Over.f k) false [m15, m16, m17, m18, m19, m20] (if true = true then !m28 else false) [m22, m23, m24, m25, m26, m27]))) 2 → ∀ (m33 : Int), m33 = cnAt (Prod.snd (gd ((computusref01_Over.f k) false [m15, m16, m17, m18, m19, m20] (if true = true then !m28 else false) [m22, m23, m24, m25, m26, m27]))) 3 → ∀ (m34 : Int), m34 = cnAt (Prod.snd (gd ((computusref01_Over.f k) false [m15, m16, m17, m18, m19, m20] (if true = true then !m28 else false) [m22, m23, m24, m25, m26, m27]))) 4 → ∀ (m35 : Int), m35 = cnAt (Prod.snd (gd ((computusref01_Over.f k) false [m15, m16, m17, m18, m19, m20] (if true = true then !m28 else false) [m22, m23, m24, m25, m26, m27]))) 5 → brc (Option.isSome (computusref01_Of.f 1) && decide (List.length (Prod.snd (gd (computusref01_Of.f 1))) = 6)) (∀ (m36 : Bool), m36 = Prod.fst (gd (computusref01_Of.f 1)) → ∀ (m37 : Int), m37 = cnAt (Prod.snd (gd (computusref01_Of.f 1))) 0 → ∀ (m38 : Int), m38 = cnAt (Prod.snd (gd (computusref01_Of.f 1))) 1 → ∀ (m39 : Int), m39 = cnAt (Prod.snd (gd (computusref01_Of.f 1))) 2 → ∀ (m40 : Int), m40 = cnAt (Prod.snd (gd (computusref01_Of.f 1))) 3 → ∀ (m41 : Int), m41 = cnAt (Prod.snd (gd (computusref01_Of.f 1))) 4 → ∀ (m42 : Int), m42 = cnAt (Prod.snd (gd (computusref01_Of.f 1))) 5 → brc (Option.isSome ((computusref01_Plus.f k) m29 [m30, m31, m32, m33, m34, m35] m36 [m37, m38, m39, m40, m41, m42]) && decide (List.length (Prod.snd (gd ((computusref01_Plus.f k) m29 [m30, m31, m32, m33, m34, m35] m36 [m37, m38, m39, m40, m41, m42]))) = 6)) (∀ (m43 : Bool), m43 = Prod.fst (gd ((computusref01_Plus.f k) m29 [m30, m31, m32, m33, m34, m35] m36 [m37, m38, m39, m40, m41, m42])) → ∀ (m44 : Int), m44 = cnAt (Prod.snd (gd ((computusref01_Plus.f k) m29 [m30, m31, m32, m33, m34, m35] m36 [m37, m38, m39, m40, m41, m42]))) 0 → ∀ (m45 : Int), m45 = cnAt (Prod.snd (gd ((computusref01_Plus.f k) m29 [m30, m31, m32, m33, m34, m35] m36 [m37, m38, m39, m40, m41, m42]))) 1 → ∀ (m46 : Int), m46 = cnAt (Prod.snd (gd ((computusref01_Plus.f k) m29 [m30, m31, m32, m33, m34, m35] m36 [m37, m38, m39, m40, m41, m42]))) 2 → ∀ (m47 : Int), m47 = cnAt (Prod.snd (gd ((computusref01_Plus.f k) m29 [m30, m31, m32, m33, m34, m35] m36 [m37, m38, m39, m40, m41, m42]))) 3 → ∀ (m48 : Int), m48 = cnAt (Prod.snd (gd ((computusref01_Plus.f k) m29 [m30, m31, m32, m33, m34, m35] m36 [m37, m38, m39, m40, m41, m42]))) 4 → ∀ (m49 : Int), m49 = cnAt (Prod.snd (gd ((computusref01_Plus.f k) m29 [m30, m31, m32, m33, m34, m35] m36 [m37, m38, m39, m40, m41, m42]))) 5 → brc (m46 != 0) (K (AV.tup [AV.int IntKind.u64 0, AV.int IntKind.i64 10])) (K (AV.tup [AV.int IntKind.u64 (cnOr m45 m44), AV.int IntKind.i64 0]))) False) False) False) False) (brc (Option.isSome ((computusref01_Over.f k) false [m15, m16, m17, m18, m19, m20] false [m22, m23, m24, m25, m26, m27]) && decide (List.length (Prod.snd (gd ((computusref01_Over.f k) false [m15, m16, m17, m18, m19, m20] false [m22, m23, m24, m25, m26, m27]))) = 6)) (∀ (m28 : Bool), m28 = Prod.fst (gd ((computusref01_Over.f k) false [m15, m16, m17, m18, m19, m20] false [m22, m23, m24, m25, m26, m27])) → ∀ (m29 : Int), m29 = cnAt (Prod.snd (gd ((computusref01_Over.f k) false [m15, m16, m17, m18, m19, m20] false [m22, m23, m24, m25, m26, m27]))) 0 → ∀ (m30 : Int), m30 = cnAt (Prod.snd (gd ((computusref01_Over.f k) false [m15, m16, m17, m18, m19, m20] false [m22, m23, m24, m25, m26, m27]))) 1 → ∀ (m31 : Int), m31 = cnAt (Prod.snd (gd ((computusref01_Over.f k) false [m15, m16, m17, m18, m19, m20] false [m22, m23, m24, m25, m26, m27]))) 2 → ∀ (m32 : Int), m32 = cnAt (Prod.snd (gd ((computusref01_Over.f k) false [m15, m16, m17, m18, m19, m20] false [m22, m23, m24, m25, m26, m27]))) 3 → ∀ (m33 : Int), m33 = cnAt (Prod.snd (gd ((computusref01_Over.f k) false [m15, m16, m17, m18, m19, m20] false [m22, m23, m24, m25, m26, m27]))) 4 → ∀ (m34 : Int), m34 = cnAt (Prod.snd (gd ((computusref01_Over.f k) false [m15, m16, m17, m18, m19, m20] false [m22, m23, m24, m25, m26, m27]))) 5 → brc (Option.isSome (computusref01_Of.f 1) && decide (List.length (Prod.snd (gd (computusref01_Of.f 1))) = 6)) (∀ (m35 : Bool), m35 = Prod.fst (gd (computusref01_Of.f 1)) → ∀ (m36 : Int), m36 = cnAt (Prod.snd (gd (computusref01_Of.f 1))) 0 → ∀ (m37 : Int), m37 = cnAt (Prod.snd (gd (computusref01_Of.f 1))) 1 → ∀ (m38 : Int), m38 = cnAt (Prod.snd (gd (computusref01_Of.f 1))) 2 → ∀ (m39 : Int), m39 = cnAt (Prod.snd (gd (computusref01_Of.f 1))) 3 → ∀ (m40 : Int), m40 = cnAt (Prod.snd (gd (computusref01_Of.f 1))) 4 → ∀ (m41 : Int), m41 = cnAt (Prod.snd (gd (computusref01_Of.f 1))) 5 → brc (Option.isSome ((computusref01_Plus.f k) m28 [m29, m30, m31, m32, m33, m34] m35 [m36, m37, m38, m39, m40, m41]) && decide (List.length (Prod.snd (gd ((computusref01_Plus.f k) m28 [m29, m30, m31, m32, m33, m34] m35 [m36, m37, m38, m39, m40, m41]))) = 6)) (∀ (m42 : Bool), m42 = Prod.fst (gd ((computusref01_Plus.f k) m28 [m29, m30, m31, m32, m33, m34] m35 [m36, m37, m38, m39, m40, m41])) → ∀ (m43 : Int), m43 = cnAt (Prod.snd (gd ((computusref01_Plus.f k) m28 [m29, m30, m31, m32, m33, m34] m35 [m36, m37, m38, m39, m40, m41]))) 0 → ∀ (m44 : Int), m44 = cnAt (Prod.snd (gd ((computusref01_Plus.f k) m28 [m29, m30, m31, m32, m33, m34] m35 [m36, m37, m38, m39, m40, m41]))) 1 → ∀ (m45 : Int), m45 = cnAt (Prod.snd (gd ((computusref01_Plus.f k) m28 [m29, m30, m31, m32, m33, m34] m35 [m36, m37, m38, m39, m40, m41]))) 2 → ∀ (m46 : Int), m46 = cnAt (Prod.snd (gd ((computusref01_Plus.f k) m28 [m29, m30, m31, m32, m33, m34] m35 [m36, m37, m38, m39, m40, m41]))) 3 → ∀ (m47 : Int), m47 = cnAt (Prod.snd (gd ((computusref01_Plus.f k) m28 [m29, m30, m31, m32, m33, m34] m35 [m36, m37, m38, m39, m40, m41]))) 4 → ∀ (m48 : Int), m48 = cnAt (Prod.snd (gd ((computusref01_Plus.f k) m28 [m29, m30, m31, m32, m33, m34] m35 [m36, m37, m38, m39, m40, m41]))) 5 → brc (m45 != 0) (K (AV.tup [AV.int IntKind.u64 0, AV.int IntKind.i64 10])) (K (AV.tup [AV.int IntKind.u64 (cnOr m44 m43), AV.int IntKind.i64 0]))) False) False) False))) (brc m14 (K (AV.tup [AV.int IntKind.u64 0, AV.int IntKind.i64 0])) (brc (Option.isSome ((computusref01_Over.f k) m14 [m15, m16, m17, m18, m19, m20] m21 [m22, m23, m24, m25, m26, m27]) && decide (List.length (Prod.snd (gd ((computusref01_Over.f k) m14 [m15, m16, m17, m18, m19, m20] m21 [m22, m23, m24, m25, m26, m27]))) = 6)) (∀ (m28 : Bool), m28 = Prod.fst (gd ((computusref01_Over.f k) m14 [m15, m16, m17, m18, m19, m20] m21 [m22, m23, m24, m25, m26, m27])) → ∀ (m29 : Int), m29 = cnAt (Prod.snd (gd ((computusref01_Over.f k) m14 [m15, m16, m17, m18, m19, m20] m21 [m22, m23, m24, m25, m26, m27]))) 0 → ∀ (m30 : Int), m30 = cnAt (Prod.snd (gd ((computusref01_Over.f k) m14 [m15, m16, m17, m18, m19, m20] m21 [m22, m23, m24, m25, m26, m27]))) 1 → ∀ (m31 : Int), m31 = cnAt (Prod.snd (gd ((computusref01_Over.f k) m14 [m15, m16, m17, m18, m19, m20] m21 [m22, m23, m24, m25, m26, m27]))) 2 → ∀ (m32 : Int), m32 = cnAt (Prod.snd (gd ((computusref01_Over.f k) m14 [m15, m16, m17, m18, m19, m20] m21 [m22, m23, m24, m25, m26, m27]))) 3 → ∀ (m33 : Int), m33 = cnAt (Prod.snd (gd ((computusref01_Over.f k) m14 [m15, m16, m17, m18, m19, m20] m21 [m22, m23, m24, m25, m26, m27]))) 4 → ∀ (m34 : Int), m34 = cnAt (Prod.snd (gd ((computusref01_Over.f k) m14 [m15, m16, m17, m18, m19, m20] m21 [m22, m23, m24, m25, m26, m27]))) 5 → brc (Option.isSome (computusref01_Of.f 1) && decide (List.length (Prod.snd (gd (computusref01_Of.f 1))) = 6)) (∀ (m35 : Bool), m35 = Prod.fst (gd (computusref01_Of.f 1)) → ∀ (m36 : Int), m36 = cnAt (Prod.snd (gd (computusref01_Of.f 1))) 0 → ∀ (m37 : Int), m37 = cnAt (Prod.snd (gd (computusref01_Of.f 1))) 1 → ∀ (m38 : Int), m38 = cnAt (Prod.snd (gd (computusref01_Of.f 1))) 2 → ∀ (m39 : Int), m39 = cnAt (Prod.snd (gd (computusref01_Of.f 1))) 3 → ∀ (m40 : Int), m40 = cnAt (Prod.snd (gd (computusref01_Of.f 1))) 4 → ∀ (m41 : Int), m41 = cnAt (Prod.snd (gd (computusref01_Of.f 1))) 5 → brc (Option.isSome ((computusref01_Plus.f k) m28 [m29, m30, m31, m32, m33, m34] m35 [m36, m37, m38, m39, m40, m41]) && decide (List.length (Prod.snd (gd ((computusref01_Plus.f k) m28 [m29, m30, m31, m32, m33, m34] m35 [m36, m37, m38, m39, m40, m41]))) = 6)) (∀ (m42 : Bool), m42 = Prod.fst (gd ((computusref01_Plus.f k) m28 [m29, m30, m31, m32, m33, m34] m35 [m36, m37, m38, m39, m40, m41])) → ∀ (m43 : Int), m43 = cnAt (Prod.snd (gd ((computusref01_Plus.f k) m28 [m29, m30, m31, m32, m33, m34] m35 [m36, m37, m38, m39, m40, m41]))) 0 → ∀ (m44 : Int), m44 = cnAt (Prod.snd (gd ((computusref01_Plus.f k) m28 [m29, m30, m31, m32, m33, m34] m35 [m36, m37, m38, m39, m40, m41]))) 1 → ∀ (m45 : Int), m45 = cnAt (Prod.snd (gd ((computusref01_Plus.f k) m28 [m29, m30, m31, m32, m33, m34] m35 [m36, m37, m38, m39, m40, m41]))) 2 → ∀ (m46 : Int), m46 = cnAt (Prod.snd (gd ((computusref01_Plus.f k) m28 [m29, m30, m31, m32, m33, m34] m35 [m36, m37, m38, m39, m40, m41]))) 3 → ∀ (m47 : Int), m47 = cnAt (Prod.snd (gd ((computusref01_Plus.f k) m28 [m29, m30, m31, m32, m33, m34] m35 [m36, m37, m38, m39, m40, m41]))) 4 → ∀ (m48 : Int), m48 = cnAt (Prod.snd (gd ((computusref01_Plus.f k) m28 [m29, m30, m31, m32, m33, m34] m35 [m36, m37, m38, m39, m40, m41]))) 5 → brc (m45 != 0) (K (AV.tup [AV.int IntKind.u64 0, AV.int IntKind.i64 10])) (K (AV.tup [AV.int IntKind.u64 (cnOr m44 m43), AV.int IntKind.i64 0]))) False) False) False))) False) False)) False) False)) := by kernel_rfl
def cnSixL (l : List Int) : List Int := [cnAt l 0, cnAt l 1, cnAt l 2, cnAt l 3, cnAt l 4, cnAt l 5]
/-- The number of the other sign. -/
def cnMi (k : Nat) (n : Bool) (l : List Int) : Option Bool := if n = true then some false else (computusref01_zero.f k (cnSixL l)).bind fun z => some (!z)
def cnW (o : Option (Bool × List Int)) : Option (Bool × List Int) := o.bind fun r => if r.2.length = 6 then some r else none
def cnEnd (k : Nat) (g : List Int) (y : Bool) (l : List Int) : Option (Int × Int) :=
  (cnW (computusref01_Over.f k false (cnSixL g) y (cnSixL l))).bind fun D => (cnW (computusref01_Of.f 1)).bind fun O => (cnW (computusref01_Plus.f k D.1 (cnSixL D.2) O.1 (cnSixL O.2))).bind fun N =>
  if cnAt N.2 2 = 0 then some (cnOr (cnAt N.2 1) (cnAt N.2 0), 0) else some (0, 10)
def computusref21_Count.f (k : Nat) (a0 : Int) (a1 : Int) (a2 : Int) : Option (Int × Int) :=
  if a2 = 0 then some (0, 11) else
  (cnW (computusref01_Of.f a1)).bind fun B => (cnW (computusref01_Of.f a0)).bind fun A => (cnMi k A.1 A.2).bind fun A1 =>
  (cnW (computusref01_Plus.f k B.1 (cnSixL B.2) A1 (cnSixL A.2))).bind fun G => (cnW (computusref01_Of.f a2)).bind fun Y =>
  if a2 < 0 then (cnMi k G.1 G.2).bind fun g => (cnMi k Y.1 Y.2).bind fun y => if g = true then some (0, 0) else cnEnd k G.2 y Y.2
  else if G.1 = true then some (0, 0) else cnEnd k G.2 Y.1 Y.2
open A in
theorem cnY {b : Bool} {A B : Prop} (h : b = true) (a : A) : brc b A B := by subst h; exact a
open A in
theorem cnN {b : Bool} {A B : Prop} (h : b = false) (a : B) : brc b A B := by subst h; exact a
open A in
theorem cnStepW {o : Option (Bool × List Int)} {n : Bool} {l : List Int} (h : cnW o = some (n, l)) {C : Bool → Int → Int → Int → Int → Int → Int → Prop} {F : Prop} (hc : C n (cnAt l 0) (cnAt l 1) (cnAt l 2) (cnAt l 3) (cnAt l 4) (cnAt l 5)) :
    brc (Option.isSome o && decide (List.length (Prod.snd (gd o)) = 6)) (∀ (m0 : Bool), m0 = Prod.fst (gd o) → ∀ (m1 : Int), m1 = cnAt (Prod.snd (gd o)) 0 → ∀ (m2 : Int), m2 = cnAt (Prod.snd (gd o)) 1 → ∀ (m3 : Int), m3 = cnAt (Prod.snd (gd o)) 2 → ∀ (m4 : Int), m4 = cnAt (Prod.snd (gd o)) 3 → ∀ (m5 : Int), m5 = cnAt (Prod.snd (gd o)) 4 → ∀ (m6 : Int), m6 = cnAt (Prod.snd (gd o)) 5 → C m0 m1 m2 m3 m4 m5 m6) F := by
  unfold cnW at h
  rcases o with _ | r
  · cases h
  · simp only [Option.bind_some, ite_some_iff] at h
    rcases h with ⟨hl, e⟩ | ⟨_, e⟩
    · simp at e; subst e
      refine cnY (by simp [gd_some, hl]) ?_
      rintro _ rfl _ rfl _ rfl _ rfl _ rfl _ rfl _ rfl
      exact hc
    · cases e
open A in
theorem cnStepZ {o : Option Bool} {z : Bool} (h : o = some z) {C : Bool → Prop} {F : Prop} (hc : C z) : brc (Option.isSome o) (∀ (m : Bool), m = gd o → C m) F := by
  subst h
  refine cnY rfl ?_
  rintro _ rfl
  exact hc
open A in
theorem cnMi_some {k : Nat} {n : Bool} {l : List Int} {r : Bool} (h : cnMi k n l = some r) : (n = true ∧ r = false) ∨ (n = false ∧ ∃ z, computusref01_zero.f k (cnSixL l) = some z ∧ r = !z) := by
  unfold cnMi at h
  cases n
  · simp only [Bool.false_eq_true, if_false, Option.bind_eq_some_iff] at h
    obtain ⟨z, hz, e⟩ := h
    exact .inr ⟨rfl, z, hz, by simpa using e.symm⟩
  · simp at h; exact .inl ⟨rfl, h⟩
set_option maxHeartbeats 8000000 in
set_option linter.unusedSimpArgs false in
open A in
theorem computusref21_Count.calls (k : Nat) (a0 : Int) (a1 : Int) (a2 : Int) (r1 : Int) (r2 : Int) (w : World) (h : computusref21_Count.f k a0 a1 a2 = some (r1, r2)) :
    Calls Try.prog 8 #[.int .i64 a0, .int .i64 a1, .int .i64 a2] w fun e w' => e = .returned (.tuple #[.int .u64 r1, .int .i64 r2]) ∧ Below w.heap.size w w' := by
  have hT := cnTab k
  have hA : RL noNames w [.int .i64 a0, .int .i64 a1, .int .i64 a2] [.int .i64 a0, .int .i64 a1, .int .i64 a2] := by simp [rl_cons, rl_nil, rv_int]
  have hV : ∀ ρ V', RV ρ w (AV.tup [.int .u64 r1, .int .i64 r2]) V' → V' = .tuple #[.int .u64 r1, .int .i64 r2] := fun ρ V' hV => by simpa [rl_cons, rl_nil, rv_int, rv_tup] using hV
  refine calls_of_vc hT (n := 12) (g := 8) ?_ hA hV
  rw [cnVc]
  unfold computusref21_Count.f at h
  by_cases hs : a2 = 0
  · rw [if_pos hs] at h
    simp at h; obtain ⟨rfl, rfl⟩ := h
    exact cnY (by simp [hs]) rfl
  rw [if_neg hs] at h
  refine cnN (by simp [hs]) ?_
  simp only [Option.bind_eq_some_iff, Prod.exists] at h
  obtain ⟨b1, b2, hB, n1, n2, hN, m1, hM, g1, g2, hG, y1, y2, hY, h⟩ := h
  refine cnStepW hB ?_
  refine cnStepW hN ?_
  rcases cnMi_some hM with ⟨rfl, rfl⟩ | ⟨rfl, z, hz, rfl⟩
  · refine cnN rfl ?_
    refine cnStepW hG ?_
    refine cnStepW hY ?_
    by_cases hs0 : a2 < 0
    · rw [if_pos hs0] at h
      refine cnY (by simpa using hs0) ?_
      simp only [Option.bind_eq_some_iff] at h
      obtain ⟨g3, hG3, y3, hY3, h⟩ := h
      rcases cnMi_some hG3 with ⟨rfl, rfl⟩ | ⟨rfl, zg, hzg, rfl⟩ <;> rcases cnMi_some hY3 with ⟨rfl, rfl⟩ | ⟨rfl, zy, hzy, rfl⟩
      · refine cnN rfl (cnN rfl ?_)
        rw [if_neg (by decide)] at h
        (unfold cnEnd at h; simp only [Option.bind_eq_some_iff, Prod.exists, ite_some_iff] at h; obtain ⟨d1, d2, hD, o1, o2, hO, p1, p2, hP, h⟩ := h; refine cnStepW hD ?_; refine cnStepW hO ?_; refine cnStepW hP ?_; rcases h with ⟨hw, h⟩ | ⟨hw, h⟩ <;> simp only [Option.some.injEq, Prod.mk.injEq] at h <;> obtain ⟨rfl, rfl⟩ := h <;> first | exact cnN (by simpa using hw) rfl | exact cnY (by simpa using hw) rfl)
      · refine cnN rfl (cnY rfl (cnStepZ hzy ?_))
        rw [if_neg (by decide)] at h
        (unfold cnEnd at h; simp only [Option.bind_eq_some_iff, Prod.exists, ite_some_iff] at h; obtain ⟨d1, d2, hD, o1, o2, hO, p1, p2, hP, h⟩ := h; refine cnStepW hD ?_; refine cnStepW hO ?_; refine cnStepW hP ?_; rcases h with ⟨hw, h⟩ | ⟨hw, h⟩ <;> simp only [Option.some.injEq, Prod.mk.injEq] at h <;> obtain ⟨rfl, rfl⟩ := h <;> first | exact cnN (by simpa using hw) rfl | exact cnY (by simpa using hw) rfl)
      · refine cnY rfl (cnStepZ hzg (cnN rfl ?_))
        cases zg
        · refine cnY rfl ?_
          rw [if_pos (by decide)] at h
          simp at h; obtain ⟨rfl, rfl⟩ := h
          rfl
        · refine cnN rfl ?_
          rw [if_neg (by decide)] at h
          (unfold cnEnd at h; simp only [Option.bind_eq_some_iff, Prod.exists, ite_some_iff] at h; obtain ⟨d1, d2, hD, o1, o2, hO, p1, p2, hP, h⟩ := h; refine cnStepW hD ?_; refine cnStepW hO ?_; refine cnStepW hP ?_; rcases h with ⟨hw, h⟩ | ⟨hw, h⟩ <;> simp only [Option.some.injEq, Prod.mk.injEq] at h <;> obtain ⟨rfl, rfl⟩ := h <;> first | exact cnN (by simpa using hw) rfl | exact cnY (by simpa using hw) rfl)
      · refine cnY rfl (cnStepZ hzg (cnY rfl (cnStepZ hzy ?_)))
        cases zg
        · refine cnY rfl ?_
          rw [if_pos (by decide)] at h
          simp at h; obtain ⟨rfl, rfl⟩ := h
          rfl
        · refine cnN rfl ?_
          rw [if_neg (by decide)] at h
          (unfold cnEnd at h; simp only [Option.bind_eq_some_iff, Prod.exists, ite_some_iff] at h; obtain ⟨d1, d2, hD, o1, o2, hO, p1, p2, hP, h⟩ := h; refine cnStepW hD ?_; refine cnStepW hO ?_; refine cnStepW hP ?_; rcases h with ⟨hw, h⟩ | ⟨hw, h⟩ <;> simp only [Option.some.injEq, Prod.mk.injEq] at h <;> obtain ⟨rfl, rfl⟩ := h <;> first | exact cnN (by simpa using hw) rfl | exact cnY (by simpa using hw) rfl)
    · rw [if_neg hs0] at h
      refine cnN (by simpa using hs0) ?_
      cases g1
      · rw [if_neg (by decide)] at h
        refine cnN rfl ?_
        (unfold cnEnd at h; simp only [Option.bind_eq_some_iff, Prod.exists, ite_some_iff] at h; obtain ⟨d1, d2, hD, o1, o2, hO, p1, p2, hP, h⟩ := h; refine cnStepW hD ?_; refine cnStepW hO ?_; refine cnStepW hP ?_; rcases h with ⟨hw, h⟩ | ⟨hw, h⟩ <;> simp only [Option.some.injEq, Prod.mk.injEq] at h <;> obtain ⟨rfl, rfl⟩ := h <;> first | exact cnN (by simpa using hw) rfl | exact cnY (by simpa using hw) rfl)
      · rw [if_pos rfl] at h
        refine cnY rfl ?_
        simp at h; obtain ⟨rfl, rfl⟩ := h
        rfl
  · refine cnY rfl ?_
    refine cnStepZ hz ?_
    refine cnStepW hG ?_
    refine cnStepW hY ?_
    by_cases hs0 : a2 < 0
    · rw [if_pos hs0] at h
      refine cnY (by simpa using hs0) ?_
      simp only [Option.bind_eq_some_iff] at h
      obtain ⟨g3, hG3, y3, hY3, h⟩ := h
      rcases cnMi_some hG3 with ⟨rfl, rfl⟩ | ⟨rfl, zg, hzg, rfl⟩ <;> rcases cnMi_some hY3 with ⟨rfl, rfl⟩ | ⟨rfl, zy, hzy, rfl⟩
      · refine cnN rfl (cnN rfl ?_)
        rw [if_neg (by decide)] at h
        (unfold cnEnd at h; simp only [Option.bind_eq_some_iff, Prod.exists, ite_some_iff] at h; obtain ⟨d1, d2, hD, o1, o2, hO, p1, p2, hP, h⟩ := h; refine cnStepW hD ?_; refine cnStepW hO ?_; refine cnStepW hP ?_; rcases h with ⟨hw, h⟩ | ⟨hw, h⟩ <;> simp only [Option.some.injEq, Prod.mk.injEq] at h <;> obtain ⟨rfl, rfl⟩ := h <;> first | exact cnN (by simpa using hw) rfl | exact cnY (by simpa using hw) rfl)
      · refine cnN rfl (cnY rfl (cnStepZ hzy ?_))
        rw [if_neg (by decide)] at h
        (unfold cnEnd at h; simp only [Option.bind_eq_some_iff, Prod.exists, ite_some_iff] at h; obtain ⟨d1, d2, hD, o1, o2, hO, p1, p2, hP, h⟩ := h; refine cnStepW hD ?_; refine cnStepW hO ?_; refine cnStepW hP ?_; rcases h with ⟨hw, h⟩ | ⟨hw, h⟩ <;> simp only [Option.some.injEq, Prod.mk.injEq] at h <;> obtain ⟨rfl, rfl⟩ := h <;> first | exact cnN (by simpa using hw) rfl | exact cnY (by simpa using hw) rfl)
      · refine cnY rfl (cnStepZ hzg (cnN rfl ?_))
        cases zg
        · refine cnY rfl ?_
          rw [if_pos (by decide)] at h
          simp at h; obtain ⟨rfl, rfl⟩ := h
          rfl
        · refine cnN rfl ?_
          rw [if_neg (by decide)] at h
          (unfold cnEnd at h; simp only [Option.bind_eq_some_iff, Prod.exists, ite_some_iff] at h; obtain ⟨d1, d2, hD, o1, o2, hO, p1, p2, hP, h⟩ := h; refine cnStepW hD ?_; refine cnStepW hO ?_; refine cnStepW hP ?_; rcases h with ⟨hw, h⟩ | ⟨hw, h⟩ <;> simp only [Option.some.injEq, Prod.mk.injEq] at h <;> obtain ⟨rfl, rfl⟩ := h <;> first | exact cnN (by simpa using hw) rfl | exact cnY (by simpa using hw) rfl)
      · refine cnY rfl (cnStepZ hzg (cnY rfl (cnStepZ hzy ?_)))
        cases zg
        · refine cnY rfl ?_
          rw [if_pos (by decide)] at h
          simp at h; obtain ⟨rfl, rfl⟩ := h
          rfl
        · refine cnN rfl ?_
          rw [if_neg (by decide)] at h
          (unfold cnEnd at h; simp only [Option.bind_eq_some_iff, Prod.exists, ite_some_iff] at h; obtain ⟨d1, d2, hD, o1, o2, hO, p1, p2, hP, h⟩ := h; refine cnStepW hD ?_; refine cnStepW hO ?_; refine cnStepW hP ?_; rcases h with ⟨hw, h⟩ | ⟨hw, h⟩ <;> simp only [Option.some.injEq, Prod.mk.injEq] at h <;> obtain ⟨rfl, rfl⟩ := h <;> first | exact cnN (by simpa using hw) rfl | exact cnY (by simpa using hw) rfl)
    · rw [if_neg hs0] at h
      refine cnN (by simpa using hs0) ?_
      cases g1
      · rw [if_neg (by decide)] at h
        refine cnN rfl ?_
        (unfold cnEnd at h; simp only [Option.bind_eq_some_iff, Prod.exists, ite_some_iff] at h; obtain ⟨d1, d2, hD, o1, o2, hO, p1, p2, hP, h⟩ := h; refine cnStepW hD ?_; refine cnStepW hO ?_; refine cnStepW hP ?_; rcases h with ⟨hw, h⟩ | ⟨hw, h⟩ <;> simp only [Option.some.injEq, Prod.mk.injEq] at h <;> obtain ⟨rfl, rfl⟩ := h <;> first | exact cnN (by simpa using hw) rfl | exact cnY (by simpa using hw) rfl)
      · rw [if_pos rfl] at h
        refine cnY rfl ?_
        simp at h; obtain ⟨rfl, rfl⟩ := h
        rfl
end Go.Proofs.Yteceeoaabmbckaa.P

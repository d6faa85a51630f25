/- A year's earlier shift and its later one, out of a map of both halves: foot.halves by hand, foot.shift by the machine. -/
import Derived.BigRegion
import Derived.Carry
import Derived.MapKept
import Derived.Test.YtlpnbbonbclddaaQajmofjgilk
namespace Go.Proofs.Ytlpnbbonbclddaa.P
open Go Go.RowKit Go.Proofs.Ytlpnbbonbclddaa.Civ Go.Proofs.Ytlpnbbonbclddaa.Ft
set_option linter.unusedVariables false
set_option linter.unusedSimpArgs false
set_option maxHeartbeats 4000000
set_option maxRecDepth 100000
open A in
theorem hv_ck (k : Bool) (w : World) : (Instr.checkKey false 10000 4 (.bool k)).run Try.prog w = .ok () w :=
  checkKey_ok (P := Try.prog) (ρ := noNames) (W := w) (k := .bool k) (kt := 4) (by kernel_rfl) (.bool k) false 9999 w
theorem hv_find0 (k : Bool) (w : World) : (Instr.findKey 4 (.bool k) []).run Try.prog w = .ok none w :=
  Go.MapKept.run_findKey (d := .bool) (by kernel_rfl) rfl
theorem hv_find1 (k : Bool) (v : Value) (w : World) : (Instr.findKey 4 (.bool !k) [⟨.bool k, v, 0⟩]).run Try.prog w = .ok none w :=
  Go.MapKept.run_findKey (d := .bool) (by kernel_rfl) (by cases k <;> rfl)
theorem hv_up (r : Nat) (k : Bool) (u : Value) (es : Array MapEntry) (c : Nat) (w : World) (hb : w.heap[r]? = some (.map es c)) (hf : (Instr.findKey 4 (.bool k) es.toList).run Try.prog w = .ok none w) :
    (Instr.mapUpdate 63 (.map (some r)) (.bool k) u).run Try.prog w = .ok () { w with heap := w.heap.setIfInBounds r (.map (es.push ⟨.bool k, u, c⟩) (c + 1)) } := by
  have hu : Try.prog.underlying 63 = some (.map 4 37) := by kernel_rfl
  have hget : (getObj r).run Try.prog w = .ok (.map es c) w := by simp [getObj, Sem.run, hb]
  have hset : ∀ ob, (setObj r ob).run Try.prog w = .ok () { w with heap := w.heap.setIfInBounds r ob } := fun ob => by simp [setObj, Sem.run, hb]
  simp only [Instr.mapUpdate, Sem.run_bind, run_underlying hu, Result.andThen_ok, hget, hv_ck, hf, hset]
theorem hv_set (w : World) (ob ob' : Obj) (cs : Array Value) : { ((w.alloc (.cells cs 39)).alloc ob).drew with heap := ((w.alloc (.cells cs 39)).alloc ob).drew.heap.setIfInBounds (w.heap.size + 1) ob' } = ((w.alloc (.cells cs 39)).alloc ob').drew := by
  have e : ((w.heap.push (Obj.cells cs 39)).push ob).setIfInBounds (w.heap.size + 1) ob' = (w.heap.push (Obj.cells cs 39)).push ob' := by
    apply Array.ext'
    simp [List.set_append]
  simp only [World.alloc, World.drew, e]
theorem hv_at (w : World) (ob : Obj) (cs : Array Value) : ((w.alloc (.cells cs 39)).alloc ob).drew.heap[w.heap.size + 1]? = some ob := by
  show ((w.heap.push (Obj.cells cs 39)).push ob)[w.heap.size + 1]? = some ob
  rw [Array.getElem?_push, if_pos (by simp)]
theorem hv_first (w : World) (cs : Array Value) (k : Bool) (v : Value) :
    (Instr.mapUpdate 63 (.map (some (w.heap.size + 1))) (.bool k) v).run Try.prog ((w.alloc (.cells cs 39)).alloc (.map #[] 0)).drew = .ok () ((w.alloc (.cells cs 39)).alloc (.map #[⟨.bool k, v, 0⟩] 1)).drew := by
  rw [hv_up _ _ _ _ _ _ (hv_at w _ cs) (hv_find0 k _), hv_set]; rfl
theorem hv_second (w : World) (cs : Array Value) (k : Bool) (v u : Value) :
    (Instr.mapUpdate 63 (.map (some (w.heap.size + 1))) (.bool !k) u).run Try.prog ((w.alloc (.cells cs 39)).alloc (.map #[⟨.bool k, v, 0⟩] 1)).drew = .ok () ((w.alloc (.cells cs 39)).alloc (.map #[⟨.bool k, v, 0⟩, ⟨.bool !k, u, 1⟩] 2)).drew := by
  rw [hv_up _ _ _ _ _ _ (hv_at w _ cs) (hv_find1 k v _), hv_set]; rfl
/-- Two halves in a new map, in one of two orders. -/
def HvIs (k : Bool) (a b : Value) (w : World) (e : Ending) (w' : World) : Prop :=
  ∃ r, e = .returned (.map (some r)) ∧ w.heap.size ≤ r ∧ Below w.heap.size w w' ∧ (w'.heap[r]? = some (.map #[⟨.bool k, a, 0⟩, ⟨.bool !k, b, 1⟩] 2) ∨ w'.heap[r]? = some (.map #[⟨.bool !k, b, 0⟩, ⟨.bool k, a, 1⟩] 2))
theorem hv_is1 {k : Bool} {a b : Value} {w : World} {cs : Array Value} : HvIs k a b w (.returned (.map (some (w.heap.size + 1)))) ((w.alloc (.cells cs 39)).alloc (.map #[⟨.bool k, a, 0⟩, ⟨.bool !k, b, 1⟩] 2)).drew :=
  ⟨_, rfl, by omega, (((Below.refl _ w).alloc (Nat.le_refl _) _).alloc (by simp) _).drew, .inl (hv_at w _ cs)⟩
theorem hv_is2 {k : Bool} {a b : Value} {w : World} {cs : Array Value} : HvIs k a b w (.returned (.map (some (w.heap.size + 1)))) ((w.alloc (.cells cs 39)).alloc (.map #[⟨.bool !k, b, 0⟩, ⟨.bool k, a, 1⟩] 2)).drew :=
  ⟨_, rfl, by omega, (((Below.refl _ w).alloc (Nat.le_refl _) _).alloc (by simp) _).drew, .inr (hv_at w _ cs)⟩
theorem halves_calls (z : Bool) (fr off m1 k1 w1 n1 s1 c1 v1 m2 k2 w2 n2 s2 c2 v2 : Int) (b1 b2 : ByteArray) (w : World) :
    Calls Try.prog 29 #[.agg #[.bool z, .int .i64 fr, .int .i64 off, .int .i64 m1, .int .i64 k1, .int .i64 w1, .int .i64 n1, .int .i64 s1, .int .u8 c1, .int .i64 v1, .string b1, .int .i64 m2, .int .i64 k2, .int .i64 w2, .int .i64 n2, .int .i64 s2, .int .u8 c2, .int .i64 v2, .string b2]] w
      (HvIs (decide (m1 < m2)) (.agg #[.int .i64 m1, .int .i64 k1, .int .i64 w1, .int .i64 n1, .int .i64 s1, .int .u8 c1, .int .i64 v1, .string b1]) (.agg #[.int .i64 m2, .int .i64 k2, .int .i64 w2, .int .i64 n2, .int .i64 s2, .int .u8 c2, .int .i64 v2, .string b2]) w) := by
  have hmm := @run_makeMap Try.prog
  have h1 := hv_first
  have h2 := hv_second
  have h3 : ∀ (w : World) (cs : Array Value) (k : Bool) (v u : Value),
    (Instr.mapUpdate 63 (.map (some (w.heap.size + 1))) (.bool k) u).run Try.prog ((w.alloc (.cells cs 39)).alloc (.map #[⟨.bool !k, v, 0⟩] 1)).drew = .ok () ((w.alloc (.cells cs 39)).alloc (.map #[⟨.bool !k, v, 0⟩, ⟨.bool k, u, 1⟩] 2)).drew := fun w cs k v u => by have := hv_second w cs (!k) v u; simpa using this
  obtain ⟨c, hc⟩ : ∃ c, decide (m1 < m2) = c := ⟨_, rfl⟩
  rw [hc]
  go_enter Try.func29, Try.ntmps29
  go_wp2
  go_region
  · go_wp2
    go_ret
    exact hv_is1
  · go_wp2
    go_ret
    exact hv_is2
section
open A
/-- What a map of both halves comes to. -/
def hvK (E L : List AV) (h : Heap) (K : AV → Heap → Prop) : Prop :=
  K (.mp h.length) (h ++ [some (.mapo [(.bool true, .agg E), (.bool false, .agg L)] 2)]) ∧ K (.mp h.length) (h ++ [some (.mapo [(.bool false, .agg L), (.bool true, .agg E)] 2)])
/-- A call of halves is told by what it makes, in either order; others are walked. -/
noncomputable def inlH (T : Tab) (n : Nat) : Inl Prop := fun o e h K =>
  match callOf Try.prog o e with
  | some (g, args) =>
    if g = 29 then
      match args with
      | [.agg [.bool z, .int .i64 fr, .int .i64 off, .int .i64 m1, .int .i64 k1, .int .i64 w1, .int .i64 n1, .int .i64 s1, .int .u8 c1, .int .i64 v1, .str b1, .int .i64 m2, .int .i64 k2, .int .i64 w2, .int .i64 n2, .int .i64 s2, .int .u8 c2, .int .i64 v2, .str b2]] =>
        brc (decide (m1 < m2)) (hvK [.int .i64 m1, .int .i64 k1, .int .i64 w1, .int .i64 n1, .int .i64 s1, .int .u8 c1, .int .i64 v1, .str b1] [.int .i64 m2, .int .i64 k2, .int .i64 w2, .int .i64 n2, .int .i64 s2, .int .u8 c2, .int .i64 v2, .str b2] h K)
          (hvK [.int .i64 m2, .int .i64 k2, .int .i64 w2, .int .i64 n2, .int .i64 s2, .int .u8 c2, .int .i64 v2, .str b2] [.int .i64 m1, .int .i64 k1, .int .i64 w1, .int .i64 n1, .int .i64 s1, .int .u8 c1, .int .i64 v1, .str b1] h K)
      | _ => False
    else ainl PA Try.prog T n o e h K
  | none => ainl PA Try.prog T n o e h K
theorem hv_named {ρ : Names} {W w w' : World} {h : Heap} (hR : Rel ρ W h w) {r : Nat} (hr : w.heap.size ≤ r) (hB : Below w.heap.size w w') {es : List (AV × AV)} {L : Array MapEntry} {c : Nat} (hL : w'.heap[r]? = some (.map L c)) (hE : RE noNames W es L.toList) :
    ∃ ρ', Ext ρ ρ' ∧ RV ρ' W (.mp h.length) (.map (some r)) ∧ Rel ρ' W (h ++ [some (.mapo es c)]) w' := by
  have h1 := hR.below hB
  have hl : r < w'.heap.size := (Array.getElem?_eq_some_iff.1 hL).1
  have hf : Fresh h h.length := .inl rfl
  have hn := h1.free_none hf
  refine ⟨ρ.with h.length r 0, Names.with_ext hn, .mp (o := 0) (by simp [Names.with]), ?_⟩
  have := h1.name (x := .mapo es c) hf hl (b := r) (o := 0) ⟨Nat.le_trans hR.bel.size hr, L.toList, by simpa using hL, hE.ext (Ext.none _)⟩ fun m p y hm hp hy => by
    have := (hR.dom m p hm).2
    omega
  simpa [effH] using this
theorem inlH_ok {T : Tab} (hT : TabOk Try.prog T) (n : Nat) : InlOk Try.prog (inlH T n) := by
  intro o e h Kx hq ρ W w a hR he K Q hK r dp
  have base : ainl PA Try.prog T n o e h Kx → o.wpIn (FR r) dp Try.prog a w K Q := fun h1 => (all_ok mixed hT n).2.1 o e h Kx h1 ρ W w a hR he K Q hK r dp
  unfold inlH at hq
  split at hq
  case h_2 => exact base hq
  rename_i g args hta
  split at hq
  case isFalse => exact base hq
  rename_i hg
  subst hg
  split at hq
  case h_2 => exact hq.elim
  rename_i z fr off m1 k1 w1 n1 s1 c1 v1 b1 m2 k2 w2 n2 s2 c2 v2 b2
  obtain ⟨c, hc, hta⟩ := callOf_ok hta
  obtain ⟨A, hA, hrun⟩ := target_ok (P := Try.prog) he hta o.type
  obtain rfl : A = [.agg #[.bool z, .int .i64 fr, .int .i64 off, .int .i64 m1, .int .i64 k1, .int .i64 w1, .int .i64 n1, .int .i64 s1, .int .u8 c1, .int .i64 v1, .string b1, .int .i64 m2, .int .i64 k2, .int .i64 w2, .int .i64 n2, .int .i64 s2, .int .u8 c2, .int .i64 v2, .string b2]] := by
    simpa [rl_cons, rl_nil, rv_int, rv_bool, rv_str, rv_agg] using hA
  have hcalls := halves_calls z fr off m1 k1 w1 n1 s1 c1 v1 m2 k2 w2 n2 s2 c2 v2 b1 b2 w
  refine wpIn_of_wp (fun c' e' => by rw [hc] at e'; cases e') (wp_gives (R := fun V w' => ∃ ρ' v h', Ext ρ ρ' ∧ RV ρ' W v V ∧ Rel ρ' W h' w' ∧ Kx v h') (.inl ⟨callFunc_enter Try.func29 (by kernel_rfl) (by kernel_rfl) _ _, hcalls.mono fun e' w' he' => ?_⟩) (by simp only [execOp, hc]; exact hrun w) fun V w' hVw => ?_)
  · obtain ⟨r', rfl, h1, h2, h3⟩ := he'
    have e1 : ∀ (b : Bool) (x y : List AV) (X Y : List Value) (i j : Nat), RL noNames W x X → RL noNames W y Y → RE noNames W [(.bool b, .agg x), (.bool !b, .agg y)] [⟨.bool b, .agg X.toArray, i⟩, ⟨.bool !b, .agg Y.toArray, j⟩] := fun b x y X Y i j hx hy => .cons (.bool _) (.agg hx) (.cons (.bool _) (.agg hy) .nil)
    have hx : RL noNames W [.int .i64 m1, .int .i64 k1, .int .i64 w1, .int .i64 n1, .int .i64 s1, .int .u8 c1, .int .i64 v1, .str b1] [.int .i64 m1, .int .i64 k1, .int .i64 w1, .int .i64 n1, .int .i64 s1, .int .u8 c1, .int .i64 v1, .string b1] := .cons (.int _ _) (.cons (.int _ _) (.cons (.int _ _) (.cons (.int _ _) (.cons (.int _ _) (.cons (.int _ _) (.cons (.int _ _) (.cons (.str _) .nil)))))))
    have hy : RL noNames W [.int .i64 m2, .int .i64 k2, .int .i64 w2, .int .i64 n2, .int .i64 s2, .int .u8 c2, .int .i64 v2, .str b2] [.int .i64 m2, .int .i64 k2, .int .i64 w2, .int .i64 n2, .int .i64 s2, .int .u8 c2, .int .i64 v2, .string b2] := .cons (.int _ _) (.cons (.int _ _) (.cons (.int _ _) (.cons (.int _ _) (.cons (.int _ _) (.cons (.int _ _) (.cons (.int _ _) (.cons (.str _) .nil)))))))
    have key : ∀ (es : List (AV × AV)) (L : Array MapEntry), w'.heap[r']? = some (.map L 2) → RE noNames W es L.toList → Kx (.mp h.length) (h ++ [some (.mapo es 2)]) → ∃ V, Ending.returned (.map (some r')) = .returned V ∧ ∃ ρ' v h', Ext ρ ρ' ∧ RV ρ' W v V ∧ Rel ρ' W h' w' ∧ Kx v h' := fun es L hL hE hk => by
      obtain ⟨ρ', g1, g2, g3⟩ := hv_named hR h1 h2 hL hE
      exact ⟨_, rfl, ρ', _, _, g1, g2, g3, hk⟩
    by_cases hm : m1 < m2
    · obtain ⟨q1, q2⟩ := (brc_iff.1 hq).1 (decide_eq_true hm)
      rw [decide_eq_true hm] at h3
      rcases h3 with h3 | h3
      · exact key _ _ h3 (e1 true _ _ _ _ 0 1 hx hy) q1
      · exact key _ _ h3 (e1 false _ _ _ _ 0 1 hy hx) q2
    · obtain ⟨q1, q2⟩ := (brc_iff.1 hq).2 (decide_eq_false hm)
      rw [decide_eq_false hm] at h3
      rcases h3 with h3 | h3
      · exact key _ _ h3 (e1 false _ _ _ _ 0 1 hx hy) q2
      · exact key _ _ h3 (e1 true _ _ _ _ 0 1 hy hx) q1
  · obtain ⟨ρ', v, h', g1, g2, g3, g4⟩ := hVw
    exact hK ρ' V w' v h' g1 g2 g3 g4
/-- What shift must come to. -/
@[irreducible] def AH (T : Tab) (n : Nat) (args : List AV) (K : AV → Prop) : Prop :=
  match Try.prog.funcs[20]? with
  | some fn => bodyA PA Try.prog T noLoops (alp PA Try.prog T (noRf PA) n) (inlH T n) (noRf PA) fn args [] fun u _ => K u
  | none => False
theorem ah_gives {T : Tab} (hT : TabOk Try.prog T) {args : List AV} {v : AV} (hfl : v.flat 4 = true) {n : Nat} (h2 : AH T n args fun u => u = v) {w : World} {A : List Value} (hA : RL noNames w args A) : Gives Try.prog 20 A.toArray w fun V w' => (RV noNames w' v V ∧ Below w.heap.size w w') ∧ Fr w.heap.size 4 v V := by
  unfold AH at h2
  rw [Try.func20] at h2
  have h3 := body_ok (g := 20) Try.func20 (fun c _ => codeA_ok0 mixed hT ((all_ok mixed hT n).1 none _ (noRf_ok Try.prog _)) (inlH_ok hT n) (noRf_ok Try.prog _) c) hA (Rel.start w) h2
  refine .inl ⟨callFunc_enter Try.func20 (by kernel_rfl) (by kernel_rfl) _ _, h3.mono fun e w' he => ?_⟩
  obtain ⟨V, g1, ρ', u, h', _, g2, g3, rfl⟩ := he
  exact ⟨V, g1, ⟨g2.flat_move 4 hfl, g3.bel⟩, Fr.flat 4 hfl⟩
set_option maxRecDepth 100000 in
theorem shift_true_vc (F : Ft) (y : Int) (K : AV → Prop) : AH (tab [(30, cyDay), (31, cyInst)]) 6 [.agg (avF F), .int .i64 y, .bool true] K =
    (brc (decide (Hf.m (Ft.a F) < Hf.m (Ft.b F))) (brc (decide (-4718 < y ∧ y < 294282 ∧ 1 ≤ Hf.m (Ft.a F) ∧ Hf.m (Ft.a F) ≤ 12 ∧ OnOk (Hf.k (Ft.a F)) (Hf.w (Ft.a F)) (Hf.n (Ft.a F)))) (∀ (m0 : Int), m0 = dayOn y (Hf.m (Ft.a F)) (Hf.k (Ft.a F)) (Hf.w (Ft.a F)) (Hf.n (Ft.a F)) → ∀ (m1 : Int), m1 = 0 → brc (decide (-10000000000 ≤ m0 ∧ m0 ≤ 10000000000 ∧ 0 ≤ Hf.s (Ft.a F) ∧ Hf.s (Ft.a F) ≤ 86400 ∧ -50400 ≤ Ft.off F ∧ Ft.off F ≤ 50400 ∧ 0 ≤ Hf.v (Ft.b F) ∧ Hf.v (Ft.b F) ≤ 7200)) (∀ (m2 : Int), m2 = inst m0 (Hf.s (Ft.a F)) (Hf.c (Ft.a F)) (Ft.off F) (Hf.v (Ft.b F)) → K (AV.agg [AV.int IntKind.i64 m2, AV.int IntKind.i64 (IntKind.wrap IntKind.i64 (Ft.off F + Hf.v (Ft.a F))), AV.bool (Hf.v (Ft.a F) != 0), AV.str (Hf.ab (Ft.a F))])) False) False ∧ brc (decide (-4718 < y ∧ y < 294282 ∧ 1 ≤ Hf.m (Ft.a F) ∧ Hf.m (Ft.a F) ≤ 12 ∧ OnOk (Hf.k (Ft.a F)) (Hf.w (Ft.a F)) (Hf.n (Ft.a F)))) (∀ (m0 : Int), m0 = dayOn y (Hf.m (Ft.a F)) (Hf.k (Ft.a F)) (Hf.w (Ft.a F)) (Hf.n (Ft.a F)) → ∀ (m1 : Int), m1 = 0 → brc (decide (-10000000000 ≤ m0 ∧ m0 ≤ 10000000000 ∧ 0 ≤ Hf.s (Ft.a F) ∧ Hf.s (Ft.a F) ≤ 86400 ∧ -50400 ≤ Ft.off F ∧ Ft.off F ≤ 50400 ∧ 0 ≤ Hf.v (Ft.b F) ∧ Hf.v (Ft.b F) ≤ 7200)) (∀ (m2 : Int), m2 = inst m0 (Hf.s (Ft.a F)) (Hf.c (Ft.a F)) (Ft.off F) (Hf.v (Ft.b F)) → K (AV.agg [AV.int IntKind.i64 m2, AV.int IntKind.i64 (IntKind.wrap IntKind.i64 (Ft.off F + Hf.v (Ft.a F))), AV.bool (Hf.v (Ft.a F) != 0), AV.str (Hf.ab (Ft.a F))])) False) False) (brc (decide (-4718 < y ∧ y < 294282 ∧ 1 ≤ Hf.m (Ft.b F) ∧ Hf.m (Ft.b F) ≤ 12 ∧ OnOk (Hf.k (Ft.b F)) (Hf.w (Ft.b F)) (Hf.n (Ft.b F)))) (∀ (m0 : Int), m0 = dayOn y (Hf.m (Ft.b F)) (Hf.k (Ft.b F)) (Hf.w (Ft.b F)) (Hf.n (Ft.b F)) → ∀ (m1 : Int), m1 = 0 → brc (decide (-10000000000 ≤ m0 ∧ m0 ≤ 10000000000 ∧ 0 ≤ Hf.s (Ft.b F) ∧ Hf.s (Ft.b F) ≤ 86400 ∧ -50400 ≤ Ft.off F ∧ Ft.off F ≤ 50400 ∧ 0 ≤ Hf.v (Ft.a F) ∧ Hf.v (Ft.a F) ≤ 7200)) (∀ (m2 : Int), m2 = inst m0 (Hf.s (Ft.b F)) (Hf.c (Ft.b F)) (Ft.off F) (Hf.v (Ft.a F)) → K (AV.agg [AV.int IntKind.i64 m2, AV.int IntKind.i64 (IntKind.wrap IntKind.i64 (Ft.off F + Hf.v (Ft.b F))), AV.bool (Hf.v (Ft.b F) != 0), AV.str (Hf.ab (Ft.b F))])) False) False ∧ brc (decide (-4718 < y ∧ y < 294282 ∧ 1 ≤ Hf.m (Ft.b F) ∧ Hf.m (Ft.b F) ≤ 12 ∧ OnOk (Hf.k (Ft.b F)) (Hf.w (Ft.b F)) (Hf.n (Ft.b F)))) (∀ (m0 : Int), m0 = dayOn y (Hf.m (Ft.b F)) (Hf.k (Ft.b F)) (Hf.w (Ft.b F)) (Hf.n (Ft.b F)) → ∀ (m1 : Int), m1 = 0 → brc (decide (-10000000000 ≤ m0 ∧ m0 ≤ 10000000000 ∧ 0 ≤ Hf.s (Ft.b F) ∧ Hf.s (Ft.b F) ≤ 86400 ∧ -50400 ≤ Ft.off F ∧ Ft.off F ≤ 50400 ∧ 0 ≤ Hf.v (Ft.a F) ∧ Hf.v (Ft.a F) ≤ 7200)) (∀ (m2 : Int), m2 = inst m0 (Hf.s (Ft.b F)) (Hf.c (Ft.b F)) (Ft.off F) (Hf.v (Ft.a F)) → K (AV.agg [AV.int IntKind.i64 m2, AV.int IntKind.i64 (IntKind.wrap IntKind.i64 (Ft.off F + Hf.v (Ft.b F))), AV.bool (Hf.v (Ft.b F) != 0), AV.str (Hf.ab (Ft.b F))])) False) False)) := by kernel_rfl
set_option maxRecDepth 100000 in
theorem shift_false_vc (F : Ft) (y : Int) (K : AV → Prop) : AH (tab [(30, cyDay), (31, cyInst)]) 6 [.agg (avF F), .int .i64 y, .bool false] K =
    (brc (decide (Hf.m (Ft.a F) < Hf.m (Ft.b F))) (brc (decide (-4718 < y ∧ y < 294282 ∧ 1 ≤ Hf.m (Ft.b F) ∧ Hf.m (Ft.b F) ≤ 12 ∧ OnOk (Hf.k (Ft.b F)) (Hf.w (Ft.b F)) (Hf.n (Ft.b F)))) (∀ (m0 : Int), m0 = dayOn y (Hf.m (Ft.b F)) (Hf.k (Ft.b F)) (Hf.w (Ft.b F)) (Hf.n (Ft.b F)) → ∀ (m1 : Int), m1 = 0 → brc (decide (-10000000000 ≤ m0 ∧ m0 ≤ 10000000000 ∧ 0 ≤ Hf.s (Ft.b F) ∧ Hf.s (Ft.b F) ≤ 86400 ∧ -50400 ≤ Ft.off F ∧ Ft.off F ≤ 50400 ∧ 0 ≤ Hf.v (Ft.a F) ∧ Hf.v (Ft.a F) ≤ 7200)) (∀ (m2 : Int), m2 = inst m0 (Hf.s (Ft.b F)) (Hf.c (Ft.b F)) (Ft.off F) (Hf.v (Ft.a F)) → K (AV.agg [AV.int IntKind.i64 m2, AV.int IntKind.i64 (IntKind.wrap IntKind.i64 (Ft.off F + Hf.v (Ft.b F))), AV.bool (Hf.v (Ft.b F) != 0), AV.str (Hf.ab (Ft.b F))])) False) False ∧ brc (decide (-4718 < y ∧ y < 294282 ∧ 1 ≤ Hf.m (Ft.b F) ∧ Hf.m (Ft.b F) ≤ 12 ∧ OnOk (Hf.k (Ft.b F)) (Hf.w (Ft.b F)) (Hf.n (Ft.b F)))) (∀ (m0 : Int), m0 = dayOn y (Hf.m (Ft.b F)) (Hf.k (Ft.b F)) (Hf.w (Ft.b F)) (Hf.n (Ft.b F)) → ∀ (m1 : Int), m1 = 0 → brc (decide (-10000000000 ≤ m0 ∧ m0 ≤ 10000000000 ∧ 0 ≤ Hf.s (Ft.b F) ∧ Hf.s (Ft.b F) ≤ 86400 ∧ -50400 ≤ Ft.off F ∧ Ft.off F ≤ 50400 ∧ 0 ≤ Hf.v (Ft.a F) ∧ Hf.v (Ft.a F) ≤ 7200)) (∀ (m2 : Int), m2 = inst m0 (Hf.s (Ft.b F)) (Hf.c (Ft.b F)) (Ft.off F) (Hf.v (Ft.a F)) → K (AV.agg [AV.int IntKind.i64 m2, AV.int IntKind.i64 (IntKind.wrap IntKind.i64 (Ft.off F + Hf.v (Ft.b F))), AV.bool (Hf.v (Ft.b F) != 0), AV.str (Hf.ab (Ft.b F))])) False) False) (brc (decide (-4718 < y ∧ y < 294282 ∧ 1 ≤ Hf.m (Ft.a F) ∧ Hf.m (Ft.a F) ≤ 12 ∧ OnOk (Hf.k (Ft.a F)) (Hf.w (Ft.a F)) (Hf.n (Ft.a F)))) (∀ (m0 : Int), m0 = dayOn y (Hf.m (Ft.a F)) (Hf.k (Ft.a F)) (Hf.w (Ft.a F)) (Hf.n (Ft.a F)) → ∀ (m1 : Int), m1 = 0 → brc (decide (-10000000000 ≤ m0 ∧ m0 ≤ 10000000000 ∧ 0 ≤ Hf.s (Ft.a F) ∧ Hf.s (Ft.a F) ≤ 86400 ∧ -50400 ≤ Ft.off F ∧ Ft.off F ≤ 50400 ∧ 0 ≤ Hf.v (Ft.b F) ∧ Hf.v (Ft.b F) ≤ 7200)) (∀ (m2 : Int), m2 = inst m0 (Hf.s (Ft.a F)) (Hf.c (Ft.a F)) (Ft.off F) (Hf.v (Ft.b F)) → K (AV.agg [AV.int IntKind.i64 m2, AV.int IntKind.i64 (IntKind.wrap IntKind.i64 (Ft.off F + Hf.v (Ft.a F))), AV.bool (Hf.v (Ft.a F) != 0), AV.str (Hf.ab (Ft.a F))])) False) False ∧ brc (decide (-4718 < y ∧ y < 294282 ∧ 1 ≤ Hf.m (Ft.a F) ∧ Hf.m (Ft.a F) ≤ 12 ∧ OnOk (Hf.k (Ft.a F)) (Hf.w (Ft.a F)) (Hf.n (Ft.a F)))) (∀ (m0 : Int), m0 = dayOn y (Hf.m (Ft.a F)) (Hf.k (Ft.a F)) (Hf.w (Ft.a F)) (Hf.n (Ft.a F)) → ∀ (m1 : Int), m1 = 0 → brc (decide (-10000000000 ≤ m0 ∧ m0 ≤ 10000000000 ∧ 0 ≤ Hf.s (Ft.a F) ∧ Hf.s (Ft.a F) ≤ 86400 ∧ -50400 ≤ Ft.off F ∧ Ft.off F ≤ 50400 ∧ 0 ≤ Hf.v (Ft.b F) ∧ Hf.v (Ft.b F) ≤ 7200)) (∀ (m2 : Int), m2 = inst m0 (Hf.s (Ft.a F)) (Hf.c (Ft.a F)) (Ft.off F) (Hf.v (Ft.b F)) → K (AV.agg [AV.int IntKind.i64 m2, AV.int IntKind.i64 (IntKind.wrap IntKind.i64 (Ft.off F + Hf.v (Ft.a F))), AV.bool (Hf.v (Ft.a F) != 0), AV.str (Hf.ab (Ft.a F))])) False) False)) := by kernel_rfl
theorem sh_blk {h o : Hf} {off y : Int} {v : AV} (h1 : HfOk h) (h2 : HfOk o) (h3 : -50400 ≤ off) (h4 : off ≤ 50400) (h5 : -4718 < y) (h6 : y < 294282) (hv : AV.agg (avT (tran h o off y)) = v) :
    brc (decide (-4718 < y ∧ y < 294282 ∧ 1 ≤ h.m ∧ h.m ≤ 12 ∧ OnOk h.k h.w h.n)) (∀ m0 : Int, m0 = dayOn y h.m h.k h.w h.n → ∀ m1 : Int, m1 = 0 → brc (decide (-10000000000 ≤ m0 ∧ m0 ≤ 10000000000 ∧ 0 ≤ h.s ∧ h.s ≤ 86400 ∧ -50400 ≤ off ∧ off ≤ 50400 ∧ 0 ≤ o.v ∧ o.v ≤ 7200)) (∀ m2 : Int, m2 = inst m0 h.s h.c off o.v → AV.agg [.int .i64 m2, .int .i64 (IntKind.wrap .i64 (off + h.v)), .bool (h.v != 0), .str h.ab] = v) False) False := by
  refine brcT (decide_eq_true ⟨h5, h6, h1.1, h1.2.1, h1.2.2.1⟩) ?_
  rintro _ rfl _ rfl
  refine brcT (decide_eq_true (day_in h1 h2 h3 h4 h5 h6)) ?_
  rintro _ rfl
  rw [wv (by have := h1.2.2.2.2; omega) (by have := h1.2.2.2.2; omega), bne_dec]
  exact hv
theorem cyShift_ok : COk Try.prog 20 cyShift := by
  intro args p v hc hp w A hA
  unfold cyShift at hc
  split at hc
  case h_2 => cases hc
  split at hc
  case h_2 => cases hc
  rename_i y b _ F hl
  simp only [Option.some.injEq, Prod.mk.injEq] at hc
  obtain ⟨rfl, rfl⟩ := hc
  obtain ⟨h0, h5, h6⟩ := of_decide_eq_true hp
  obtain ⟨_, h1, h2, h3, h4, _⟩ := h0
  rw [rdF_ok hl] at hA
  have hT : TabOk Try.prog (tab [(30, cyDay), (31, cyInst)]) := tab_cons cyDay_ok (tab_cons cyInst_ok tab_nil)
  cases b
  · refine ah_gives hT rfl (n := 6) ?_ hA
    rw [shift_false_vc]
    refine brc_intro (fun hm => ?_) fun hm => ?_
    · have hm := of_decide_eq_true hm
      have e : AV.agg (avT (tran F.b F.a F.off y)) = AV.agg (avT (tr F false y)) := by simp [tr, fstH, sndH, hm]
      exact ⟨sh_blk h2 h1 h3 h4 h5 h6 e, sh_blk h2 h1 h3 h4 h5 h6 e⟩
    · have hm := of_decide_eq_false hm
      have e : AV.agg (avT (tran F.a F.b F.off y)) = AV.agg (avT (tr F false y)) := by simp [tr, fstH, sndH, hm]
      exact ⟨sh_blk h1 h2 h3 h4 h5 h6 e, sh_blk h1 h2 h3 h4 h5 h6 e⟩
  · refine ah_gives hT rfl (n := 6) ?_ hA
    rw [shift_true_vc]
    refine brc_intro (fun hm => ?_) fun hm => ?_
    · have hm := of_decide_eq_true hm
      have e : AV.agg (avT (tran F.a F.b F.off y)) = AV.agg (avT (tr F true y)) := by simp [tr, fstH, sndH, hm]
      exact ⟨sh_blk h1 h2 h3 h4 h5 h6 e, sh_blk h1 h2 h3 h4 h5 h6 e⟩
    · have hm := of_decide_eq_false hm
      have e : AV.agg (avT (tran F.b F.a F.off y)) = AV.agg (avT (tr F true y)) := by simp [tr, fstH, sndH, hm]
      exact ⟨sh_blk h2 h1 h3 h4 h5 h6 e, sh_blk h2 h1 h3 h4 h5 h6 e⟩
end
end Go.Proofs.Ytlpnbbonbclddaa.P

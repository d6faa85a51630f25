import Derived.BigRegion
import Derived.Carry
import Derived.MapKept
import Derived.Test.YtimgphlfaninnaaGreatQbmfdphchjn
import Derived.Test.YtimgphlfaninnaaGreatQpahojkofpm
namespace Go.Proofs.YtimgphlfaninnaaGreat.P
open Go Go.RowKit Go.Proofs.YtimgphlfaninnaaGreat.Civ Go.Proofs.YtimgphlfaninnaaGreat.Ft
set_option linter.unusedVariables false
set_option linter.unusedSimpArgs false
set_option maxHeartbeats 4000000
set_option maxRecDepth 100000
open A in
theorem hv_ck (k : Bool) (w : World) : (Instr.checkKey false 10000 4 (.bool k)).run Tryz.prog w = .ok () w :=
 checkKey_ok (P := Tryz.prog) (ρ := noNames) (W := w) (k := .bool k) (kt := 4) (by kernel_rfl) (.bool k) false 9999 w
theorem hv_find0 (k : Bool) (w : World) : (Instr.findKey 4 (.bool k) []).run Tryz.prog w = .ok none w :=
 Go.MapKept.run_findKey (d := .bool) (by kernel_rfl) rfl
theorem hv_find1 (k : Bool) (v : Value) (w : World) : (Instr.findKey 4 (.bool !k) [⟨.bool k, v, 0⟩]).run Tryz.prog w = .ok none w :=
 Go.MapKept.run_findKey (d := .bool) (by kernel_rfl) (by cases k <;> rfl)
theorem hv_up (r : Nat) (k : Bool) (u : Value) (es : Array MapEntry) (c : Nat) (w : World) (hb : w.heap[r]? = some (.map es c)) (hf : (Instr.findKey 4 (.bool k) es.toList).run Tryz.prog w = .ok none w) :
 (Instr.mapUpdate 195 (.map (some r)) (.bool k) u).run Tryz.prog w = .ok () { w with heap := w.heap.setIfInBounds r (.map (es.push ⟨.bool k, u, c⟩) (c + 1)) } := by
 have hu : Tryz.prog.underlying 195 = some (.map 4 40) := by kernel_rfl
 have hget : (getObj r).run Tryz.prog w = .ok (.map es c) w := by simp [getObj, Sem.run, hb]
 have hset : ∀ ob, (setObj r ob).run Tryz.prog w = .ok () { w with heap := w.heap.setIfInBounds r ob } := fun ob => by simp [setObj, Sem.run, hb]
 simp only [Instr.mapUpdate, Sem.run_bind, run_underlying hu, Result.andThen_ok, hget, hv_ck, hf, hset]
theorem hv_set (w : World) (ob ob' : Obj) (cs : Array Value) : { ((w.alloc (.cells cs 42)).alloc ob).drew with heap := ((w.alloc (.cells cs 42)).alloc ob).drew.heap.setIfInBounds (w.heap.size + 1) ob' } = ((w.alloc (.cells cs 42)).alloc ob').drew := by
 have e : ((w.heap.push (Obj.cells cs 42)).push ob).setIfInBounds (w.heap.size + 1) ob' = (w.heap.push (Obj.cells cs 42)).push ob' := by
  apply Array.ext'
  simp [List.set_append]
 simp only [World.alloc, World.drew, e]
theorem hv_at (w : World) (ob : Obj) (cs : Array Value) : ((w.alloc (.cells cs 42)).alloc ob).drew.heap[w.heap.size + 1]? = some ob := by
 show ((w.heap.push (Obj.cells cs 42)).push ob)[w.heap.size + 1]? = some ob
 rw [Array.getElem?_push, if_pos (by simp)]
theorem hv_first (w : World) (cs : Array Value) (k : Bool) (v : Value) :
 (Instr.mapUpdate 195 (.map (some (w.heap.size + 1))) (.bool k) v).run Tryz.prog ((w.alloc (.cells cs 42)).alloc (.map #[] 0)).drew = .ok () ((w.alloc (.cells cs 42)).alloc (.map #[⟨.bool k, v, 0⟩] 1)).drew := by
 rw [hv_up _ _ _ _ _ _ (hv_at w _ cs) (hv_find0 k _), hv_set]; rfl
theorem hv_second (w : World) (cs : Array Value) (k : Bool) (v u : Value) :
 (Instr.mapUpdate 195 (.map (some (w.heap.size + 1))) (.bool !k) u).run Tryz.prog ((w.alloc (.cells cs 42)).alloc (.map #[⟨.bool k, v, 0⟩] 1)).drew = .ok () ((w.alloc (.cells cs 42)).alloc (.map #[⟨.bool k, v, 0⟩, ⟨.bool !k, u, 1⟩] 2)).drew := by
 rw [hv_up _ _ _ _ _ _ (hv_at w _ cs) (hv_find1 k v _), hv_set]; rfl
def HvIs (k : Bool) (a b : Value) (w : World) (e : Ending) (w' : World) : Prop :=
 ∃ r, e = .returned (.map (some r)) ∧ w.heap.size ≤ r ∧ Below w.heap.size w w' ∧ (w'.heap[r]? = some (.map #[⟨.bool k, a, 0⟩, ⟨.bool !k, b, 1⟩] 2) ∨ w'.heap[r]? = some (.map #[⟨.bool !k, b, 0⟩, ⟨.bool k, a, 1⟩] 2))
theorem hv_is1 {k : Bool} {a b : Value} {w : World} {cs : Array Value} : HvIs k a b w (.returned (.map (some (w.heap.size + 1)))) ((w.alloc (.cells cs 42)).alloc (.map #[⟨.bool k, a, 0⟩, ⟨.bool !k, b, 1⟩] 2)).drew :=
 ⟨_, rfl, by omega, (((Below.refl _ w).alloc (Nat.le_refl _) _).alloc (by simp) _).drew, .inl (hv_at w _ cs)⟩
theorem hv_is2 {k : Bool} {a b : Value} {w : World} {cs : Array Value} : HvIs k a b w (.returned (.map (some (w.heap.size + 1)))) ((w.alloc (.cells cs 42)).alloc (.map #[⟨.bool !k, b, 0⟩, ⟨.bool k, a, 1⟩] 2)).drew :=
 ⟨_, rfl, by omega, (((Below.refl _ w).alloc (Nat.le_refl _) _).alloc (by simp) _).drew, .inr (hv_at w _ cs)⟩
theorem halves_calls (z : Bool) (fr off m1 k1 w1 n1 s1 c1 v1 m2 k2 w2 n2 s2 c2 v2 : Int) (b1 b2 : ByteArray) (w : World) :
 Calls Tryz.prog 175 #[.agg #[.bool z, .int .i64 fr, .int .i64 off, .int .i64 m1, .int .i64 k1, .int .i64 w1, .int .i64 n1, .int .i64 s1, .int .u8 c1, .int .i64 v1, .string b1, .int .i64 m2, .int .i64 k2, .int .i64 w2, .int .i64 n2, .int .i64 s2, .int .u8 c2, .int .i64 v2, .string b2]] w
  (HvIs (decide (m1 < m2)) (.agg #[.int .i64 m1, .int .i64 k1, .int .i64 w1, .int .i64 n1, .int .i64 s1, .int .u8 c1, .int .i64 v1, .string b1]) (.agg #[.int .i64 m2, .int .i64 k2, .int .i64 w2, .int .i64 n2, .int .i64 s2, .int .u8 c2, .int .i64 v2, .string b2]) w) := by
 have hmm := @run_makeMap Tryz.prog
 have h1 := hv_first
 have h2 := hv_second
 have h3 : ∀ (w : World) (cs : Array Value) (k : Bool) (v u : Value),
  (Instr.mapUpdate 195 (.map (some (w.heap.size + 1))) (.bool k) u).run Tryz.prog ((w.alloc (.cells cs 42)).alloc (.map #[⟨.bool !k, v, 0⟩] 1)).drew = .ok () ((w.alloc (.cells cs 42)).alloc (.map #[⟨.bool !k, v, 0⟩, ⟨.bool k, u, 1⟩] 2)).drew := fun w cs k v u => by have := hv_second w cs (!k) v u; simpa using this
 obtain ⟨c, hc⟩ : ∃ c, decide (m1 < m2) = c := ⟨_, rfl⟩
 rw [hc]
 go_enter Tryz.func175, Tryz.ntmps175
 go_wp2
 go_region
 · go_wp2
   go_ret
   exact hv_is1
 · go_wp2
   go_ret
   exact hv_is2
section
open A
def hvK (E L : List AV) (h : Heap) (K : AV → Heap → Prop) : Prop :=
 K (.mp h.length) (h ++ [some (.mapo [(.bool true, .agg E), (.bool false, .agg L)] 2)]) ∧ K (.mp h.length) (h ++ [some (.mapo [(.bool false, .agg L), (.bool true, .agg E)] 2)])
noncomputable def inlH (T : Tab) (n : Nat) : Inl Prop := fun o e h K =>
 match callOf Tryz.prog o e with
 | some (g, args) =>
  if g = 175 then
   match args with
   | [.agg [.bool z, .int .i64 fr, .int .i64 off, .int .i64 m1, .int .i64 k1, .int .i64 w1, .int .i64 n1, .int .i64 s1, .int .u8 c1, .int .i64 v1, .str b1, .int .i64 m2, .int .i64 k2, .int .i64 w2, .int .i64 n2, .int .i64 s2, .int .u8 c2, .int .i64 v2, .str b2]] =>
    brc (decide (m1 < m2)) (hvK [.int .i64 m1, .int .i64 k1, .int .i64 w1, .int .i64 n1, .int .i64 s1, .int .u8 c1, .int .i64 v1, .str b1] [.int .i64 m2, .int .i64 k2, .int .i64 w2, .int .i64 n2, .int .i64 s2, .int .u8 c2, .int .i64 v2, .str b2] h K)
     (hvK [.int .i64 m2, .int .i64 k2, .int .i64 w2, .int .i64 n2, .int .i64 s2, .int .u8 c2, .int .i64 v2, .str b2] [.int .i64 m1, .int .i64 k1, .int .i64 w1, .int .i64 n1, .int .i64 s1, .int .u8 c1, .int .i64 v1, .str b1] h K)
   | _ => False
  else ainl PA Tryz.prog T n o e h K
 | none => ainl PA Tryz.prog T n o e h K
theorem hv_named {ρ : Names} {W w w' : World} {h : Heap} (hR : Rel ρ W h w) {r : Nat} (hr : w.heap.size ≤ r) (hB : Below w.heap.size w w') {es : List (AV × AV)} {L : Array MapEntry} {c : Nat} (hL : w'.heap[r]? = some (.map L c)) (hE : RE noNames W es L.toList) :
 ∃ ρ', Ext ρ ρ' ∧ RV ρ' W (.mp h.length) (.map (some r)) ∧ Rel ρ' W (h ++ [some (.mapo es c)]) w' := by
 have h1 := hR.below hB
 have hl : r < w'.heap.size := (Array.getElem?_eq_some_iff.1 hL).1
 have hf : Fresh h h.length := .inl rfl
 have hn := h1.free_none hf
 refine ⟨ρ.with h.length r 0, Names.with_ext hn, .mp (o := 0) (by simp [Names.with]), ?_⟩
 have := h1.name (x := .mapo es c) hf hl (b := r) (o := 0) ⟨Nat.le_trans hR.bel.size hr, L.toList, by simpa using hL, hE.ext (Ext.none _)⟩ fun m p y hm hp hy => by
  have := (hR.dom m p hm).2
  omega
 simpa [effH] using this
theorem inlH_ok {T : Tab} (hT : TabOk Tryz.prog T) (n : Nat) : InlOk Tryz.prog (inlH T n) := by
 intro o e h Kx hq ρ W w a hR he K Q hK r dp
 have base : ainl PA Tryz.prog T n o e h Kx → o.wpIn (FR r) dp Tryz.prog a w K Q := fun h1 => (all_ok mixed hT n).2.1 o e h Kx h1 ρ W w a hR he K Q hK r dp
 unfold inlH at hq
 split at hq
 case h_2 => exact base hq
 rename_i g args hta
 split at hq
 case isFalse => exact base hq
 rename_i hg
 subst hg
 split at hq
 case h_2 => exact hq.elim
 rename_i z fr off m1 k1 w1 n1 s1 c1 v1 b1 m2 k2 w2 n2 s2 c2 v2 b2
 obtain ⟨c, hc, hta⟩ := callOf_ok hta
 obtain ⟨A, hA, hrun⟩ := target_ok (P := Tryz.prog) he hta o.type
 obtain rfl : A = [.agg #[.bool z, .int .i64 fr, .int .i64 off, .int .i64 m1, .int .i64 k1, .int .i64 w1, .int .i64 n1, .int .i64 s1, .int .u8 c1, .int .i64 v1, .string b1, .int .i64 m2, .int .i64 k2, .int .i64 w2, .int .i64 n2, .int .i64 s2, .int .u8 c2, .int .i64 v2, .string b2]] := by
  simpa [kF, kJ, kK, kO, kW, kV] using hA
 have hcalls := halves_calls z fr off m1 k1 w1 n1 s1 c1 v1 m2 k2 w2 n2 s2 c2 v2 b1 b2 w
 refine wpIn_of_wp (fun c' e' => by rw [hc] at e'; cases e') (wp_gives (R := fun V w' => ∃ ρ' v h', Ext ρ ρ' ∧ RV ρ' W v V ∧ Rel ρ' W h' w' ∧ Kx v h') (.inl ⟨callFunc_enter Tryz.func175 (by kernel_rfl) (by kernel_rfl) _ _, hcalls.mono fun e' w' he' => ?_⟩) (by simp only [execOp, hc]; exact hrun w) fun V w' hVw => ?_)
 · obtain ⟨r', rfl, h1, h2, h3⟩ := he'
   have e1 : ∀ (b : Bool) (x y : List AV) (X Y : List Value) (i j : Nat), RL noNames W x X → RL noNames W y Y → RE noNames W [(.bool b, .agg x), (.bool !b, .agg y)] [⟨.bool b, .agg X.toArray, i⟩, ⟨.bool !b, .agg Y.toArray, j⟩] := fun b x y X Y i j hx hy => .cons (.bool _) (.agg hx) (.cons (.bool _) (.agg hy) .nil)
   have hx : RL noNames W [.int .i64 m1, .int .i64 k1, .int .i64 w1, .int .i64 n1, .int .i64 s1, .int .u8 c1, .int .i64 v1, .str b1] [.int .i64 m1, .int .i64 k1, .int .i64 w1, .int .i64 n1, .int .i64 s1, .int .u8 c1, .int .i64 v1, .string b1] := .cons (.int _ _) (.cons (.int _ _) (.cons (.int _ _) (.cons (.int _ _) (.cons (.int _ _) (.cons (.int _ _) (.cons (.int _ _) (.cons (.str _) .nil)))))))
   have hy : RL noNames W [.int .i64 m2, .int .i64 k2, .int .i64 w2, .int .i64 n2, .int .i64 s2, .int .u8 c2, .int .i64 v2, .str b2] [.int .i64 m2, .int .i64 k2, .int .i64 w2, .int .i64 n2, .int .i64 s2, .int .u8 c2, .int .i64 v2, .string b2] := .cons (.int _ _) (.cons (.int _ _) (.cons (.int _ _) (.cons (.int _ _) (.cons (.int _ _) (.cons (.int _ _) (.cons (.int _ _) (.cons (.str _) .nil)))))))
   have key : ∀ (es : List (AV × AV)) (L : Array MapEntry), w'.heap[r']? = some (.map L 2) → RE noNames W es L.toList → Kx (.mp h.length) (h ++ [some (.mapo es 2)]) → ∃ V, Ending.returned (.map (some r')) = .returned V ∧ ∃ ρ' v h', Ext ρ ρ' ∧ RV ρ' W v V ∧ Rel ρ' W h' w' ∧ Kx v h' := fun es L hL hE hk => by
    obtain ⟨ρ', g1, g2, g3⟩ := hv_named hR h1 h2 hL hE
    exact ⟨_, rfl, ρ', _, _, g1, g2, g3, hk⟩
   by_cases hm : m1 < m2
   · obtain ⟨q1, q2⟩ := (jW.1 hq).1 (decide_eq_true hm)
     rw [decide_eq_true hm] at h3
     rcases h3 with h3 | h3
     · exact key _ _ h3 (e1 true _ _ _ _ 0 1 hx hy) q1
     · exact key _ _ h3 (e1 false _ _ _ _ 0 1 hy hx) q2
   · obtain ⟨q1, q2⟩ := (jW.1 hq).2 (decide_eq_false hm)
     rw [decide_eq_false hm] at h3
     rcases h3 with h3 | h3
     · exact key _ _ h3 (e1 false _ _ _ _ 0 1 hx hy) q2
     · exact key _ _ h3 (e1 true _ _ _ _ 0 1 hy hx) q1
 · obtain ⟨ρ', v, h', g1, g2, g3, g4⟩ := hVw
   exact hK ρ' V w' v h' g1 g2 g3 g4
@[irreducible] def AH (T : Tab) (n : Nat) (args : List AV) (K : AV → Prop) : Prop :=
 match Tryz.prog.funcs[165]? with
 | some fn => bodyA PA Tryz.prog T noLoops (alp PA Tryz.prog T (noRf PA) n) (inlH T n) (noRf PA) fn args [] fun u _ => K u
 | none => False
theorem ah_gives {T : Tab} (hT : TabOk Tryz.prog T) {args : List AV} {v : AV} (hfl : v.flat 4 = true) {n : Nat} (h2 : AH T n args fun u => u = v) {w : World} {A : List Value} (hA : RL noNames w args A) : Gives Tryz.prog 165 A.toArray w fun V w' => (RV noNames w' v V ∧ Below w.heap.size w w') ∧ Fr w.heap.size 4 v V := by
 unfold AH at h2
 rw [Tryz.func165] at h2
 have h3 := body_ok (g := 165) Tryz.func165 (fun c _ => codeA_ok0 mixed hT ((all_ok mixed hT n).1 none _ (noRf_ok Tryz.prog _)) (inlH_ok hT n) (noRf_ok Tryz.prog _) c) hA (Rel.start w) h2
 refine .inl ⟨callFunc_enter Tryz.func165 (by kernel_rfl) (by kernel_rfl) _ _, h3.mono fun e w' he => ?_⟩
 obtain ⟨V, g1, ρ', u, h', _, g2, g3, rfl⟩ := he
 exact ⟨V, g1, ⟨g2.flat_move 4 hfl, g3.bel⟩, Fr.flat 4 hfl⟩
set_option maxRecDepth 100000 in
theorem shift_true_vc (F : Ft) (y : Int) (K : AV → Prop) : AH (tab [(176, cyDay), (177, cyInst)]) 6 [.agg (avF F), .int .i64 y, .bool true] K =
 (brc (decide (Hf.m (Ft.a F) < Hf.m (Ft.b F))) (brc (decide (-4718 < y ∧ y < 294282 ∧ 1 ≤ Hf.m (Ft.a F) ∧ Hf.m (Ft.a F) ≤ 12 ∧ OnOk (Hf.k (Ft.a F)) (Hf.w (Ft.a F)) (Hf.n (Ft.a F)))) (∀ (m0 : Int), m0 = dayOn y (Hf.m (Ft.a F)) (Hf.k (Ft.a F)) (Hf.w (Ft.a F)) (Hf.n (Ft.a F)) → ∀ (m1 : Int), m1 = 0 → brc (decide (-10000000000 ≤ m0 ∧ m0 ≤ 10000000000 ∧ 0 ≤ Hf.s (Ft.a F) ∧ Hf.s (Ft.a F) ≤ 86400 ∧ -50400 ≤ Ft.off F ∧ Ft.off F ≤ 50400 ∧ 0 ≤ Hf.v (Ft.b F) ∧ Hf.v (Ft.b F) ≤ 7200)) (∀ (m2 : Int), m2 = inst m0 (Hf.s (Ft.a F)) (Hf.c (Ft.a F)) (Ft.off F) (Hf.v (Ft.b F)) → K (AV.agg [AV.int IntKind.i64 m2, AV.int IntKind.i64 (IntKind.wrap IntKind.i64 (Ft.off F + Hf.v (Ft.a F))), AV.bool (Hf.v (Ft.a F) != 0), AV.str (Hf.ab (Ft.a F))])) False) False ∧ brc (decide (-4718 < y ∧ y < 294282 ∧ 1 ≤ Hf.m (Ft.a F) ∧ Hf.m (Ft.a F) ≤ 12 ∧ OnOk (Hf.k (Ft.a F)) (Hf.w (Ft.a F)) (Hf.n (Ft.a F)))) (∀ (m0 : Int), m0 = dayOn y (Hf.m (Ft.a F)) (Hf.k (Ft.a F)) (Hf.w (Ft.a F)) (Hf.n (Ft.a F)) → ∀ (m1 : Int), m1 = 0 → brc (decide (-10000000000 ≤ m0 ∧ m0 ≤ 10000000000 ∧ 0 ≤ Hf.s (Ft.a F) ∧ Hf.s (Ft.a F) ≤ 86400 ∧ -50400 ≤ Ft.off F ∧ Ft.off F ≤ 50400 ∧ 0 ≤ Hf.v (Ft.b F) ∧ Hf.v (Ft.b F) ≤ 7200)) (∀ (m2 : Int), m2 = inst m0 (Hf.s (Ft.a F)) (Hf.c (Ft.a F)) (Ft.off F) (Hf.v (Ft.b F)) → K (AV.agg [AV.int IntKind.i64 m2, AV.int IntKind.i64 (IntKind.wrap IntKind.i64 (Ft.off F + Hf.v (Ft.a F))), AV.bool (Hf.v (Ft.a F) != 0), AV.str (Hf.ab (Ft.a F))])) False) False) (brc (decide (-4718 < y ∧ y < 294282 ∧ 1 ≤ Hf.m (Ft.b F) ∧ Hf.m (Ft.b F) ≤ 12 ∧ OnOk (Hf.k (Ft.b F)) (Hf.w (Ft.b F)) (Hf.n (Ft.b F)))) (∀ (m0 : Int), m0 = dayOn y (Hf.m (Ft.b F)) (Hf.k (Ft.b F)) (Hf.w (Ft.b F)) (Hf.n (Ft.b F)) → ∀ (m1 : Int), m1 = 0 → brc (decide (-10000000000 ≤ m0 ∧ m0 ≤ 10000000000 ∧ 0 ≤ Hf.s (Ft.b F) ∧ Hf.s (Ft.b F) ≤ 86400 ∧ -50400 ≤ Ft.off F ∧ Ft.off F ≤ 50400 ∧ 0 ≤ Hf.v (Ft.a F) ∧ Hf.v (Ft.a F) ≤ 7200)) (∀ (m2 : Int), m2 = inst m0 (Hf.s (Ft.b F)) (Hf.c (Ft.b F)) (Ft.off F) (Hf.v (Ft.a F)) → K (AV.agg [AV.int IntKind.i64 m2, AV.int IntKind.i64 (IntKind.wrap IntKind.i64 (Ft.off F + Hf.v (Ft.b F))), AV.bool (Hf.v (Ft.b F) != 0), AV.str (Hf.ab (Ft.b F))])) False) False ∧ brc (decide (-4718 < y ∧ y < 294282 ∧ 1 ≤ Hf.m (Ft.b F) ∧ Hf.m (Ft.b F) ≤ 12 ∧ OnOk (Hf.k (Ft.b F)) (Hf.w (Ft.b F)) (Hf.n (Ft.b F)))) (∀ (m0 : Int), m0 = dayOn y (Hf.m (Ft.b F)) (Hf.k (Ft.b F)) (Hf.w (Ft.b F)) (Hf.n (Ft.b F)) → ∀ (m1 : Int), m1 = 0 → brc (decide (-10000000000 ≤ m0 ∧ m0 ≤ 10000000000 ∧ 0 ≤ Hf.s (Ft.b F) ∧ Hf.s (Ft.b F) ≤ 86400 ∧ -50400 ≤ Ft.off F ∧ Ft.off F ≤ 50400 ∧ 0 ≤ Hf.v (Ft.a F) ∧ Hf.v (Ft.a F) ≤ 7200)) (∀ (m2 : Int), m2 = inst m0 (Hf.s (Ft.b F)) (Hf.c (Ft.b F)) (Ft.off F) (Hf.v (Ft.a F)) → K (AV.agg [AV.int IntKind.i64 m2, AV.int IntKind.i64 (IntKind.wrap IntKind.i64 (Ft.off F + Hf.v (Ft.b F))), AV.bool (Hf.v (Ft.b F) != 0), AV.str (Hf.ab (Ft.b F))])) False) False)) := by kernel_rfl
set_option maxRecDepth 100000 in
theorem shift_false_vc (F : Ft) (y : Int) (K : AV → Prop) : AH (tab [(176, cyDay), (177, cyInst)]) 6 [.agg (avF F), .int .i64 y, .bool false] K =
 (brc (decide (Hf.m (Ft.a F) < Hf.m (Ft.b F))) (brc (decide (-4718 < y ∧ y < 294282 ∧ 1 ≤ Hf.m (Ft.b F) ∧ Hf.m (Ft.b F) ≤ 12 ∧ OnOk (Hf.k (Ft.b F)) (Hf.w (Ft.b F)) (Hf.n (Ft.b F)))) (∀ (m0 : Int), m0 = dayOn y (Hf.m (Ft.b F)) (Hf.k (Ft.b F)) (Hf.w (Ft.b F)) (Hf.n (Ft.b F)) → ∀ (m1 : Int), m1 = 0 → brc (decide (-10000000000 ≤ m0 ∧ m0 ≤ 10000000000 ∧ 0 ≤ Hf.s (Ft.b F) ∧ Hf.s (Ft.b F) ≤ 86400 ∧ -50400 ≤ Ft.off F ∧ Ft.off F ≤ 50400 ∧ 0 ≤ Hf.v (Ft.a F) ∧ Hf.v (Ft.a F) ≤ 7200)) (∀ (m2 : Int), m2 = inst m0 (Hf.s (Ft.b F)) (Hf.c (Ft.b F)) (Ft.off F) (Hf.v (Ft.a F)) → K (AV.agg [AV.int IntKind.i64 m2, AV.int IntKind.i64 (IntKind.wrap IntKind.i64 (Ft.off F + Hf.v (Ft.b F))), AV.bool (Hf.v (Ft.b F) != 0), AV.str (Hf.ab (Ft.b F))])) False) False ∧ brc (decide (-4718 < y ∧ y < 294282 ∧ 1 ≤ Hf.m (Ft.b F) ∧ Hf.m (Ft.b F) ≤ 12 ∧ OnOk (Hf.k (Ft.b F)) (Hf.w (Ft.b F)) (Hf.n (Ft.b F)))) (∀ (m0 : Int), m0 = dayOn y (Hf.m (Ft.b F)) (Hf.k (Ft.b F)) (Hf.w (Ft.b F)) (Hf.n (Ft.b F)) → ∀ (m1 : Int), m1 = 0 → brc (decide (-10000000000 ≤ m0 ∧ m0 ≤ 10000000000 ∧ 0 ≤ Hf.s (Ft.b F) ∧ Hf.s (Ft.b F) ≤ 86400 ∧ -50400 ≤ Ft.off F ∧ Ft.off F ≤ 50400 ∧ 0 ≤ Hf.v (Ft.a F) ∧ Hf.v (Ft.a F) ≤ 7200)) (∀ (m2 : Int), m2 = inst m0 (Hf.s (Ft.b F)) (Hf.c (Ft.b F)) (Ft.off F) (Hf.v (Ft.a F)) → K (AV.agg [AV.int IntKind.i64 m2, AV.int IntKind.i64 (IntKind.wrap IntKind.i64 (Ft.off F + Hf.v (Ft.b F))), AV.bool (Hf.v (Ft.b F) != 0), AV.str (Hf.ab (Ft.b F))])) False) False) (brc (decide (-4718 < y ∧ y < 294282 ∧ 1 ≤ Hf.m (Ft.a F) ∧ Hf.m (Ft.a F) ≤ 12 ∧ OnOk (Hf.k (Ft.a F)) (Hf.w (Ft.a F)) (Hf.n (Ft.a F)))) (∀ (m0 : Int), m0 = dayOn y (Hf.m (Ft.a F)) (Hf.k (Ft.a F)) (Hf.w (Ft.a F)) (Hf.n (Ft.a F)) → ∀ (m1 : Int), m1 = 0 → brc (decide (-10000000000 ≤ m0 ∧ m0 ≤ 10000000000 ∧ 0 ≤ Hf.s (Ft.a F) ∧ Hf.s (Ft.a F) ≤ 86400 ∧ -50400 ≤ Ft.off F ∧ Ft.off F ≤ 50400 ∧ 0 ≤ Hf.v (Ft.b F) ∧ Hf.v (Ft.b F) ≤ 7200)) (∀ (m2 : Int), m2 = inst m0 (Hf.s (Ft.a F)) (Hf.c (Ft.a F)) (Ft.off F) (Hf.v (Ft.b F)) → K (AV.agg [AV.int IntKind.i64 m2, AV.int IntKind.i64 (IntKind.wrap IntKind.i64 (Ft.off F + Hf.v (Ft.a F))), AV.bool (Hf.v (Ft.a F) != 0), AV.str (Hf.ab (Ft.a F))])) False) False ∧ brc (decide (-4718 < y ∧ y < 294282 ∧ 1 ≤ Hf.m (Ft.a F) ∧ Hf.m (Ft.a F) ≤ 12 ∧ OnOk (Hf.k (Ft.a F)) (Hf.w (Ft.a F)) (Hf.n (Ft.a F)))) (∀ (m0 : Int), m0 = dayOn y (Hf.m (Ft.a F)) (Hf.k (Ft.a F)) (Hf.w (Ft.a F)) (Hf.n (Ft.a F)) → ∀ (m1 : Int), m1 = 0 → brc (decide (-10000000000 ≤ m0 ∧ m0 ≤ 10000000000 ∧ 0 ≤ Hf.s (Ft.a F) ∧ Hf.s (Ft.a F) ≤ 86400 ∧ -50400 ≤ Ft.off F ∧ Ft.off F ≤ 50400 ∧ 0 ≤ Hf.v (Ft.b F) ∧ Hf.v (Ft.b F) ≤ 7200)) (∀ (m2 : Int), m2 = inst m0 (Hf.s (Ft.a F)) (Hf.c (Ft.a F)) (Ft.off F) (Hf.v (Ft.b F)) → K (AV.agg [AV.int IntKind.i64 m2, AV.int IntKind.i64 (IntKind.wrap IntKind.i64 (Ft.off F + Hf.v (Ft.a F))), AV.bool (Hf.v (Ft.a F) != 0), AV.str (Hf.ab (Ft.a F))])) False) False)) := by kernel_rfl
theorem sh_blk {h o : Hf} {off y : Int} {v : AV} (h1 : HfOk h) (h2 : HfOk o) (h3 : -50400 ≤ off) (h4 : off ≤ 50400) (h5 : -4718 < y) (h6 : y < 294282) (hv : AV.agg (avT (tran h o off y)) = v) :
 brc (decide (-4718 < y ∧ y < 294282 ∧ 1 ≤ h.m ∧ h.m ≤ 12 ∧ OnOk h.k h.w h.n)) (∀ m0 : Int, m0 = dayOn y h.m h.k h.w h.n → ∀ m1 : Int, m1 = 0 → brc (decide (-10000000000 ≤ m0 ∧ m0 ≤ 10000000000 ∧ 0 ≤ h.s ∧ h.s ≤ 86400 ∧ -50400 ≤ off ∧ off ≤ 50400 ∧ 0 ≤ o.v ∧ o.v ≤ 7200)) (∀ m2 : Int, m2 = inst m0 h.s h.c off o.v → AV.agg [.int .i64 m2, .int .i64 (IntKind.wrap .i64 (off + h.v)), .bool (h.v != 0), .str h.ab] = v) False) False := by
 refine brcT (decide_eq_true ⟨h5, h6, h1.1, h1.2.1, h1.2.2.1⟩) ?_
 rintro _ rfl _ rfl
 refine brcT (decide_eq_true (day_in h1 h2 h3 h4 h5 h6)) ?_
 rintro _ rfl
 rw [wv (by have := h1.2.2.2.2; omega) (by have := h1.2.2.2.2; omega), bne_dec]
 exact hv
theorem cyShift_ok : COk Tryz.prog 165 cyShift := by
 intro args p v hc hp w A hA
 unfold cyShift at hc
 split at hc
 case h_2 => cases hc
 split at hc
 case h_2 => cases hc
 rename_i y b _ F hl
 simp only [Option.some.injEq, Prod.mk.injEq] at hc
 obtain ⟨rfl, rfl⟩ := hc
 obtain ⟨h0, h5, h6⟩ := of_decide_eq_true hp
 obtain ⟨_, h1, h2, h3, h4, _⟩ := h0
 rw [rdF_ok hl] at hA
 have hT : TabOk Tryz.prog (tab [(176, cyDay), (177, cyInst)]) := kB cyDay_ok (kB cyInst_ok bA)
 cases b
 · refine ah_gives hT rfl (n := 6) ?_ hA
   rw [shift_false_vc]
   refine kA (fun hm => ?_) fun hm => ?_
   · have hm := of_decide_eq_true hm
     have e : AV.agg (avT (tran F.b F.a F.off y)) = AV.agg (avT (tr F false y)) := by simp [tr, fstH, sndH, hm]
     exact ⟨sh_blk h2 h1 h3 h4 h5 h6 e, sh_blk h2 h1 h3 h4 h5 h6 e⟩
   · have hm := of_decide_eq_false hm
     have e : AV.agg (avT (tran F.a F.b F.off y)) = AV.agg (avT (tr F false y)) := by simp [tr, fstH, sndH, hm]
     exact ⟨sh_blk h1 h2 h3 h4 h5 h6 e, sh_blk h1 h2 h3 h4 h5 h6 e⟩
 · refine ah_gives hT rfl (n := 6) ?_ hA
   rw [shift_true_vc]
   refine kA (fun hm => ?_) fun hm => ?_
   · have hm := of_decide_eq_true hm
     have e : AV.agg (avT (tran F.a F.b F.off y)) = AV.agg (avT (tr F true y)) := by simp [tr, fstH, sndH, hm]
     exact ⟨sh_blk h1 h2 h3 h4 h5 h6 e, sh_blk h1 h2 h3 h4 h5 h6 e⟩
   · have hm := of_decide_eq_false hm
     have e : AV.agg (avT (tran F.b F.a F.off y)) = AV.agg (avT (tr F true y)) := by simp [tr, fstH, sndH, hm]
     exact ⟨sh_blk h2 h1 h3 h4 h5 h6 e, sh_blk h2 h1 h3 h4 h5 h6 e⟩
end
end Go.Proofs.YtimgphlfaninnaaGreat.P
namespace Go.Proofs.YtimgphlfaninnaaGreat.P
open Go Go.RowKit Go.Proofs.YtimgphlfaninnaaGreat.Civ Go.Proofs.YtimgphlfaninnaaGreat.Ft
set_option linter.unusedVariables false
set_option linter.unusedSimpArgs false
section
open A
def isTwo (n : Int) : Option (Bool × AV) → Bool
 | some (true, .str s) => decide (s.data.toList = (two n).data.toList)
 | _ => false
set_option maxRecDepth 100000 in
theorem two_all : (List.range 100).all (fun n => isTwo n (runC Tryz.prog 30 (tab []) 187 [.int .i64 (n : Int)])) = true := by kernel_rfl
theorem two_run {n : Int} (h : 0 ≤ n ∧ n ≤ 99) : runC Tryz.prog 30 (tab []) 187 [.int .i64 n] = some (true, .str (two n)) := by
 have a := List.all_eq_true.1 two_all n.toNat (by rw [List.mem_range]; omega)
 rw [show ((n.toNat : Nat) : Int) = n by omega] at a
 generalize runC Tryz.prog 30 (tab []) 187 [.int .i64 n] = r at *
 unfold isTwo at a
 split at a
 · rename_i s
   have e := of_decide_eq_true a
   have : s = two n := by
    obtain ⟨⟨l⟩⟩ := s
    simp only at e
    rw [e]
   rw [this]
 · cases a
theorem cyTwo_ok : COk Tryz.prog 187 cyTwo := by
 intro args p v hc hp w A hA
 unfold cyTwo at hc
 split at hc
 case h_2 => cases hc
 simp only [Option.some.injEq, Prod.mk.injEq] at hc
 obtain ⟨rfl, rfl⟩ := hc
 exact runC_ok mixed 30 bA _ _ true _ (two_run (of_decide_eq_true hp)) rfl w A hA
theorem bV (a : Array UInt8) : (ByteArray.mk a).size = a.size := rfl
theorem bK (n : Int) : (two n).size = 2 := rfl
set_option maxRecDepth 100000 in
theorem form_vc (k w n : Int) (K : AV → Prop) : AF (tab []) 6 184 [.agg [.int .i64 k, .int .i64 w, .int .i64 n]] K =
 (brc (k == 0) (brc (w == 0) (brc (decide (n ≥ 1)) (brc (!decide (n ≤ 31)) (K AV.nili) (K (AV.ifc 206 (AV.int IntKind.i64 n)))) (K AV.nili)) (brc (k == 1) (brc (n == 0) (brc (decide (w ≥ 0)) (brc (!decide (w ≤ 6)) (K AV.nili) (K (AV.ifc 208 (AV.int IntKind.i64 w)))) (K AV.nili)) (brc (k == 2) (brc (decide (w ≥ 0)) (brc (decide (w ≤ 6)) (brc (decide (n ≥ 1)) (brc (!decide (n ≤ 31)) (K AV.nili) (K (AV.ifc 211 (AV.agg [AV.int IntKind.i64 w, AV.int IntKind.i64 n, AV.int IntKind.i64 1])))) (K AV.nili)) (K AV.nili)) (K AV.nili)) (brc (k == 3) (brc (decide (w ≥ 0)) (brc (decide (w ≤ 6)) (brc (decide (n ≥ 1)) (brc (!decide (n ≤ 31)) (K AV.nili) (K (AV.ifc 211 (AV.agg [AV.int IntKind.i64 w, AV.int IntKind.i64 n, AV.int IntKind.i64 (-1)])))) (K AV.nili)) (K AV.nili)) (K AV.nili)) (K AV.nili)))) (brc (k == 2) (brc (decide (w ≥ 0)) (brc (decide (w ≤ 6)) (brc (decide (n ≥ 1)) (brc (!decide (n ≤ 31)) (K AV.nili) (K (AV.ifc 211 (AV.agg [AV.int IntKind.i64 w, AV.int IntKind.i64 n, AV.int IntKind.i64 1])))) (K AV.nili)) (K AV.nili)) (K AV.nili)) (brc (k == 3) (brc (decide (w ≥ 0)) (brc (decide (w ≤ 6)) (brc (decide (n ≥ 1)) (brc (!decide (n ≤ 31)) (K AV.nili) (K (AV.ifc 211 (AV.agg [AV.int IntKind.i64 w, AV.int IntKind.i64 n, AV.int IntKind.i64 (-1)])))) (K AV.nili)) (K AV.nili)) (K AV.nili)) (K AV.nili))))) (brc (k == 1) (brc (n == 0) (brc (decide (w ≥ 0)) (brc (!decide (w ≤ 6)) (K AV.nili) (K (AV.ifc 208 (AV.int IntKind.i64 w)))) (K AV.nili)) (brc (k == 2) (brc (decide (w ≥ 0)) (brc (decide (w ≤ 6)) (brc (decide (n ≥ 1)) (brc (!decide (n ≤ 31)) (K AV.nili) (K (AV.ifc 211 (AV.agg [AV.int IntKind.i64 w, AV.int IntKind.i64 n, AV.int IntKind.i64 1])))) (K AV.nili)) (K AV.nili)) (K AV.nili)) (brc (k == 3) (brc (decide (w ≥ 0)) (brc (decide (w ≤ 6)) (brc (decide (n ≥ 1)) (brc (!decide (n ≤ 31)) (K AV.nili) (K (AV.ifc 211 (AV.agg [AV.int IntKind.i64 w, AV.int IntKind.i64 n, AV.int IntKind.i64 (-1)])))) (K AV.nili)) (K AV.nili)) (K AV.nili)) (K AV.nili)))) (brc (k == 2) (brc (decide (w ≥ 0)) (brc (decide (w ≤ 6)) (brc (decide (n ≥ 1)) (brc (!decide (n ≤ 31)) (K AV.nili) (K (AV.ifc 211 (AV.agg [AV.int IntKind.i64 w, AV.int IntKind.i64 n, AV.int IntKind.i64 1])))) (K AV.nili)) (K AV.nili)) (K AV.nili)) (brc (k == 3) (brc (decide (w ≥ 0)) (brc (decide (w ≤ 6)) (brc (decide (n ≥ 1)) (brc (!decide (n ≤ 31)) (K AV.nili) (K (AV.ifc 211 (AV.agg [AV.int IntKind.i64 w, AV.int IntKind.i64 n, AV.int IntKind.i64 (-1)])))) (K AV.nili)) (K AV.nili)) (K AV.nili)) (K AV.nili))))) := by kernel_rfl
set_option maxRecDepth 100000 in
theorem cyBad_ok : COk Tryz.prog 184 cyBad := af_con bA (by kernel_rfl) fun args p v hc hp => by
 unfold cyBad at hc
 split at hc
 case h_2 => cases hc
 rename_i k w n
 simp only [Option.some.injEq, Prod.mk.injEq] at hc
 obtain ⟨rfl, rfl⟩ := hc
 have hb := of_decide_eq_true hp
 refine ⟨rfl, 6, ?_⟩
 rw [form_vc]
 repeat' (with_reducible refine kA (fun h => ?_) (fun h => ?_))
 all_goals first
  | rfl
  | (exfalso; refine hb ?_; unfold OnOk; simp only [decide_eq_true_eq, decide_eq_false_iff_not, Bool.not_eq_true', Bool.not_eq_false', beq_iff_eq, beq_eq_false_iff_ne, bne_iff_ne, ne_eq, Bool.and_eq_true, Bool.and_eq_false_iff, Bool.true_and] at *; omega)
set_option maxRecDepth 100000 in
theorem texton_vc (k w n : Int) (K : AV → Prop) : AF (tab [(184, cyBad)]) 6 182 [.agg [.int .i64 k, .int .i64 w, .int .i64 n]] K =
 (brc (decide ¬OnOk k w n) (K (AV.tup [AV.str (ByteArray.mk #[]), AV.int IntKind.i64 1])) False) := by kernel_rfl
set_option maxRecDepth 100000 in
theorem ton00_vc (n : Int) (K : AV → Prop) : AF (tab [(187, cyTwo)]) 12 182 [.agg [.int .i64 0, .int .i64 0, .int .i64 n]] K =
 (brc (decide (n ≥ 1)) (brc (!decide (n ≤ 31)) (K (AV.tup [AV.str (ByteArray.mk #[]), AV.int IntKind.i64 1])) (brc (decide (0 ≤ n ∧ n ≤ 99)) (brc (decide (((ByteArray.size (two n) : Nat) : Int) ≥ ((ByteArray.size (ByteArray.mk #[48]) : Nat) : Int))) (brc (decide (((ByteArray.size (ByteArray.mk #[48]) : Nat) : Int) ≤ ((ByteArray.size (two n) : Nat) : Int))) (brc (ByteArray.toList (ByteArray.extract (two n) (Int.toNat 0) (Int.toNat ((ByteArray.size (ByteArray.mk #[48]) : Nat) : Int))) == ByteArray.toList (ByteArray.mk #[48])) (brc (decide (((ByteArray.size (ByteArray.mk #[48]) : Nat) : Int) ≤ ((ByteArray.size (two n) : Nat) : Int)) && decide (((ByteArray.size (two n) : Nat) : Int) ≤ ((ByteArray.size (two n) : Nat) : Int))) (K (AV.tup [AV.str (ByteArray.extract (two n) 1 (Int.toNat ((ByteArray.size (two n) : Nat) : Int))), AV.int IntKind.i64 0])) False) (K (AV.tup [AV.str (two n), AV.int IntKind.i64 0]))) False) (K (AV.tup [AV.str (two n), AV.int IntKind.i64 0]))) False)) (K (AV.tup [AV.str (ByteArray.mk #[]), AV.int IntKind.i64 1]))) := by kernel_rfl
set_option maxRecDepth 100000 in
theorem ton10_vc (n : Int) (K : AV → Prop) : AF (tab [(187, cyTwo)]) 12 182 [.agg [.int .i64 1, .int .i64 0, .int .i64 n]] K =
 (brc (n == 0) (brc (decide (0 ≤ n ∧ n ≤ 99)) (brc (decide (((ByteArray.size (two n) : Nat) : Int) ≥ ((ByteArray.size (ByteArray.mk #[48]) : Nat) : Int))) (brc (decide (((ByteArray.size (ByteArray.mk #[48]) : Nat) : Int) ≤ ((ByteArray.size (two n) : Nat) : Int))) (brc (ByteArray.toList (ByteArray.extract (two n) (Int.toNat 0) (Int.toNat ((ByteArray.size (ByteArray.mk #[48]) : Nat) : Int))) == ByteArray.toList (ByteArray.mk #[48])) (brc (decide (((ByteArray.size (ByteArray.mk #[48]) : Nat) : Int) ≤ ((ByteArray.size (two n) : Nat) : Int)) && decide (((ByteArray.size (two n) : Nat) : Int) ≤ ((ByteArray.size (two n) : Nat) : Int))) (K (AV.tup [AV.str ((ByteArray.mk #[108, 97, 115, 116]) ++ (ByteArray.mk #[83, 117, 110])), AV.int IntKind.i64 0])) False) (K (AV.tup [AV.str ((ByteArray.mk #[108, 97, 115, 116]) ++ (ByteArray.mk #[83, 117, 110])), AV.int IntKind.i64 0]))) False) (K (AV.tup [AV.str ((ByteArray.mk #[108, 97, 115, 116]) ++ (ByteArray.mk #[83, 117, 110])), AV.int IntKind.i64 0]))) False) (K (AV.tup [AV.str (ByteArray.mk #[]), AV.int IntKind.i64 1]))) := by kernel_rfl
set_option maxRecDepth 100000 in
theorem ton11_vc (n : Int) (K : AV → Prop) : AF (tab [(187, cyTwo)]) 12 182 [.agg [.int .i64 1, .int .i64 1, .int .i64 n]] K =
 (brc (n == 0) (brc (decide (0 ≤ n ∧ n ≤ 99)) (brc (decide (((ByteArray.size (two n) : Nat) : Int) ≥ ((ByteArray.size (ByteArray.mk #[48]) : Nat) : Int))) (brc (decide (((ByteArray.size (ByteArray.mk #[48]) : Nat) : Int) ≤ ((ByteArray.size (two n) : Nat) : Int))) (brc (ByteArray.toList (ByteArray.extract (two n) (Int.toNat 0) (Int.toNat ((ByteArray.size (ByteArray.mk #[48]) : Nat) : Int))) == ByteArray.toList (ByteArray.mk #[48])) (brc (decide (((ByteArray.size (ByteArray.mk #[48]) : Nat) : Int) ≤ ((ByteArray.size (two n) : Nat) : Int)) && decide (((ByteArray.size (two n) : Nat) : Int) ≤ ((ByteArray.size (two n) : Nat) : Int))) (K (AV.tup [AV.str ((ByteArray.mk #[108, 97, 115, 116]) ++ (ByteArray.mk #[77, 111, 110])), AV.int IntKind.i64 0])) False) (K (AV.tup [AV.str ((ByteArray.mk #[108, 97, 115, 116]) ++ (ByteArray.mk #[77, 111, 110])), AV.int IntKind.i64 0]))) False) (K (AV.tup [AV.str ((ByteArray.mk #[108, 97, 115, 116]) ++ (ByteArray.mk #[77, 111, 110])), AV.int IntKind.i64 0]))) False) (K (AV.tup [AV.str (ByteArray.mk #[]), AV.int IntKind.i64 1]))) := by kernel_rfl
set_option maxRecDepth 100000 in
theorem ton12_vc (n : Int) (K : AV → Prop) : AF (tab [(187, cyTwo)]) 12 182 [.agg [.int .i64 1, .int .i64 2, .int .i64 n]] K =
 (brc (n == 0) (brc (decide (0 ≤ n ∧ n ≤ 99)) (brc (decide (((ByteArray.size (two n) : Nat) : Int) ≥ ((ByteArray.size (ByteArray.mk #[48]) : Nat) : Int))) (brc (decide (((ByteArray.size (ByteArray.mk #[48]) : Nat) : Int) ≤ ((ByteArray.size (two n) : Nat) : Int))) (brc (ByteArray.toList (ByteArray.extract (two n) (Int.toNat 0) (Int.toNat ((ByteArray.size (ByteArray.mk #[48]) : Nat) : Int))) == ByteArray.toList (ByteArray.mk #[48])) (brc (decide (((ByteArray.size (ByteArray.mk #[48]) : Nat) : Int) ≤ ((ByteArray.size (two n) : Nat) : Int)) && decide (((ByteArray.size (two n) : Nat) : Int) ≤ ((ByteArray.size (two n) : Nat) : Int))) (K (AV.tup [AV.str ((ByteArray.mk #[108, 97, 115, 116]) ++ (ByteArray.mk #[84, 117, 101])), AV.int IntKind.i64 0])) False) (K (AV.tup [AV.str ((ByteArray.mk #[108, 97, 115, 116]) ++ (ByteArray.mk #[84, 117, 101])), AV.int IntKind.i64 0]))) False) (K (AV.tup [AV.str ((ByteArray.mk #[108, 97, 115, 116]) ++ (ByteArray.mk #[84, 117, 101])), AV.int IntKind.i64 0]))) False) (K (AV.tup [AV.str (ByteArray.mk #[]), AV.int IntKind.i64 1]))) := by kernel_rfl
set_option maxRecDepth 100000 in
theorem ton13_vc (n : Int) (K : AV → Prop) : AF (tab [(187, cyTwo)]) 12 182 [.agg [.int .i64 1, .int .i64 3, .int .i64 n]] K =
 (brc (n == 0) (brc (decide (0 ≤ n ∧ n ≤ 99)) (brc (decide (((ByteArray.size (two n) : Nat) : Int) ≥ ((ByteArray.size (ByteArray.mk #[48]) : Nat) : Int))) (brc (decide (((ByteArray.size (ByteArray.mk #[48]) : Nat) : Int) ≤ ((ByteArray.size (two n) : Nat) : Int))) (brc (ByteArray.toList (ByteArray.extract (two n) (Int.toNat 0) (Int.toNat ((ByteArray.size (ByteArray.mk #[48]) : Nat) : Int))) == ByteArray.toList (ByteArray.mk #[48])) (brc (decide (((ByteArray.size (ByteArray.mk #[48]) : Nat) : Int) ≤ ((ByteArray.size (two n) : Nat) : Int)) && decide (((ByteArray.size (two n) : Nat) : Int) ≤ ((ByteArray.size (two n) : Nat) : Int))) (K (AV.tup [AV.str ((ByteArray.mk #[108, 97, 115, 116]) ++ (ByteArray.mk #[87, 101, 100])), AV.int IntKind.i64 0])) False) (K (AV.tup [AV.str ((ByteArray.mk #[108, 97, 115, 116]) ++ (ByteArray.mk #[87, 101, 100])), AV.int IntKind.i64 0]))) False) (K (AV.tup [AV.str ((ByteArray.mk #[108, 97, 115, 116]) ++ (ByteArray.mk #[87, 101, 100])), AV.int IntKind.i64 0]))) False) (K (AV.tup [AV.str (ByteArray.mk #[]), AV.int IntKind.i64 1]))) := by kernel_rfl
set_option maxRecDepth 100000 in
theorem ton14_vc (n : Int) (K : AV → Prop) : AF (tab [(187, cyTwo)]) 12 182 [.agg [.int .i64 1, .int .i64 4, .int .i64 n]] K =
 (brc (n == 0) (brc (decide (0 ≤ n ∧ n ≤ 99)) (brc (decide (((ByteArray.size (two n) : Nat) : Int) ≥ ((ByteArray.size (ByteArray.mk #[48]) : Nat) : Int))) (brc (decide (((ByteArray.size (ByteArray.mk #[48]) : Nat) : Int) ≤ ((ByteArray.size (two n) : Nat) : Int))) (brc (ByteArray.toList (ByteArray.extract (two n) (Int.toNat 0) (Int.toNat ((ByteArray.size (ByteArray.mk #[48]) : Nat) : Int))) == ByteArray.toList (ByteArray.mk #[48])) (brc (decide (((ByteArray.size (ByteArray.mk #[48]) : Nat) : Int) ≤ ((ByteArray.size (two n) : Nat) : Int)) && decide (((ByteArray.size (two n) : Nat) : Int) ≤ ((ByteArray.size (two n) : Nat) : Int))) (K (AV.tup [AV.str ((ByteArray.mk #[108, 97, 115, 116]) ++ (ByteArray.mk #[84, 104, 117])), AV.int IntKind.i64 0])) False) (K (AV.tup [AV.str ((ByteArray.mk #[108, 97, 115, 116]) ++ (ByteArray.mk #[84, 104, 117])), AV.int IntKind.i64 0]))) False) (K (AV.tup [AV.str ((ByteArray.mk #[108, 97, 115, 116]) ++ (ByteArray.mk #[84, 104, 117])), AV.int IntKind.i64 0]))) False) (K (AV.tup [AV.str (ByteArray.mk #[]), AV.int IntKind.i64 1]))) := by kernel_rfl
set_option maxRecDepth 100000 in
theorem ton15_vc (n : Int) (K : AV → Prop) : AF (tab [(187, cyTwo)]) 12 182 [.agg [.int .i64 1, .int .i64 5, .int .i64 n]] K =
 (brc (n == 0) (brc (decide (0 ≤ n ∧ n ≤ 99)) (brc (decide (((ByteArray.size (two n) : Nat) : Int) ≥ ((ByteArray.size (ByteArray.mk #[48]) : Nat) : Int))) (brc (decide (((ByteArray.size (ByteArray.mk #[48]) : Nat) : Int) ≤ ((ByteArray.size (two n) : Nat) : Int))) (brc (ByteArray.toList (ByteArray.extract (two n) (Int.toNat 0) (Int.toNat ((ByteArray.size (ByteArray.mk #[48]) : Nat) : Int))) == ByteArray.toList (ByteArray.mk #[48])) (brc (decide (((ByteArray.size (ByteArray.mk #[48]) : Nat) : Int) ≤ ((ByteArray.size (two n) : Nat) : Int)) && decide (((ByteArray.size (two n) : Nat) : Int) ≤ ((ByteArray.size (two n) : Nat) : Int))) (K (AV.tup [AV.str ((ByteArray.mk #[108, 97, 115, 116]) ++ (ByteArray.mk #[70, 114, 105])), AV.int IntKind.i64 0])) False) (K (AV.tup [AV.str ((ByteArray.mk #[108, 97, 115, 116]) ++ (ByteArray.mk #[70, 114, 105])), AV.int IntKind.i64 0]))) False) (K (AV.tup [AV.str ((ByteArray.mk #[108, 97, 115, 116]) ++ (ByteArray.mk #[70, 114, 105])), AV.int IntKind.i64 0]))) False) (K (AV.tup [AV.str (ByteArray.mk #[]), AV.int IntKind.i64 1]))) := by kernel_rfl
set_option maxRecDepth 100000 in
theorem ton16_vc (n : Int) (K : AV → Prop) : AF (tab [(187, cyTwo)]) 12 182 [.agg [.int .i64 1, .int .i64 6, .int .i64 n]] K =
 (brc (n == 0) (brc (decide (0 ≤ n ∧ n ≤ 99)) (brc (decide (((ByteArray.size (two n) : Nat) : Int) ≥ ((ByteArray.size (ByteArray.mk #[48]) : Nat) : Int))) (brc (decide (((ByteArray.size (ByteArray.mk #[48]) : Nat) : Int) ≤ ((ByteArray.size (two n) : Nat) : Int))) (brc (ByteArray.toList (ByteArray.extract (two n) (Int.toNat 0) (Int.toNat ((ByteArray.size (ByteArray.mk #[48]) : Nat) : Int))) == ByteArray.toList (ByteArray.mk #[48])) (brc (decide (((ByteArray.size (ByteArray.mk #[48]) : Nat) : Int) ≤ ((ByteArray.size (two n) : Nat) : Int)) && decide (((ByteArray.size (two n) : Nat) : Int) ≤ ((ByteArray.size (two n) : Nat) : Int))) (K (AV.tup [AV.str ((ByteArray.mk #[108, 97, 115, 116]) ++ (ByteArray.mk #[83, 97, 116])), AV.int IntKind.i64 0])) False) (K (AV.tup [AV.str ((ByteArray.mk #[108, 97, 115, 116]) ++ (ByteArray.mk #[83, 97, 116])), AV.int IntKind.i64 0]))) False) (K (AV.tup [AV.str ((ByteArray.mk #[108, 97, 115, 116]) ++ (ByteArray.mk #[83, 97, 116])), AV.int IntKind.i64 0]))) False) (K (AV.tup [AV.str (ByteArray.mk #[]), AV.int IntKind.i64 1]))) := by kernel_rfl
set_option maxRecDepth 100000 in
theorem ton20_vc (n : Int) (K : AV → Prop) : AF (tab [(187, cyTwo)]) 12 182 [.agg [.int .i64 2, .int .i64 0, .int .i64 n]] K =
 (brc (decide (n ≥ 1)) (brc (!decide (n ≤ 31)) (K (AV.tup [AV.str (ByteArray.mk #[]), AV.int IntKind.i64 1])) (brc (decide (0 ≤ n ∧ n ≤ 99)) (brc (decide (((ByteArray.size (two n) : Nat) : Int) ≥ ((ByteArray.size (ByteArray.mk #[48]) : Nat) : Int))) (brc (decide (((ByteArray.size (ByteArray.mk #[48]) : Nat) : Int) ≤ ((ByteArray.size (two n) : Nat) : Int))) (brc (ByteArray.toList (ByteArray.extract (two n) (Int.toNat 0) (Int.toNat ((ByteArray.size (ByteArray.mk #[48]) : Nat) : Int))) == ByteArray.toList (ByteArray.mk #[48])) (brc (decide (((ByteArray.size (ByteArray.mk #[48]) : Nat) : Int) ≤ ((ByteArray.size (two n) : Nat) : Int)) && decide (((ByteArray.size (two n) : Nat) : Int) ≤ ((ByteArray.size (two n) : Nat) : Int))) (brc (decide (((ByteArray.size ((ByteArray.mk #[83, 117, 110]) ++ (ByteArray.mk #[62, 61])) + ByteArray.size (ByteArray.extract (two n) (Int.toNat ((ByteArray.size (ByteArray.mk #[48]) : Nat) : Int)) (Int.toNat ((ByteArray.size (two n) : Nat) : Int))) : Nat) : Int) ≤ IntKind.max IntKind.i64)) (K (AV.tup [AV.str ((ByteArray.mk #[83, 117, 110]) ++ (ByteArray.mk #[62, 61]) ++ ByteArray.extract (two n) 1 (Int.toNat ((ByteArray.size (two n) : Nat) : Int))), AV.int IntKind.i64 0])) False) False) (brc (decide (((ByteArray.size ((ByteArray.mk #[83, 117, 110]) ++ (ByteArray.mk #[62, 61])) + ByteArray.size (two n) : Nat) : Int) ≤ IntKind.max IntKind.i64)) (K (AV.tup [AV.str ((ByteArray.mk #[83, 117, 110]) ++ (ByteArray.mk #[62, 61]) ++ two n), AV.int IntKind.i64 0])) False)) False) (brc (decide (((ByteArray.size ((ByteArray.mk #[83, 117, 110]) ++ (ByteArray.mk #[62, 61])) + ByteArray.size (two n) : Nat) : Int) ≤ IntKind.max IntKind.i64)) (K (AV.tup [AV.str ((ByteArray.mk #[83, 117, 110]) ++ (ByteArray.mk #[62, 61]) ++ two n), AV.int IntKind.i64 0])) False)) False)) (K (AV.tup [AV.str (ByteArray.mk #[]), AV.int IntKind.i64 1]))) := by kernel_rfl
set_option maxRecDepth 100000 in
theorem ton21_vc (n : Int) (K : AV → Prop) : AF (tab [(187, cyTwo)]) 12 182 [.agg [.int .i64 2, .int .i64 1, .int .i64 n]] K =
 (brc (decide (n ≥ 1)) (brc (!decide (n ≤ 31)) (K (AV.tup [AV.str (ByteArray.mk #[]), AV.int IntKind.i64 1])) (brc (decide (0 ≤ n ∧ n ≤ 99)) (brc (decide (((ByteArray.size (two n) : Nat) : Int) ≥ ((ByteArray.size (ByteArray.mk #[48]) : Nat) : Int))) (brc (decide (((ByteArray.size (ByteArray.mk #[48]) : Nat) : Int) ≤ ((ByteArray.size (two n) : Nat) : Int))) (brc (ByteArray.toList (ByteArray.extract (two n) (Int.toNat 0) (Int.toNat ((ByteArray.size (ByteArray.mk #[48]) : Nat) : Int))) == ByteArray.toList (ByteArray.mk #[48])) (brc (decide (((ByteArray.size (ByteArray.mk #[48]) : Nat) : Int) ≤ ((ByteArray.size (two n) : Nat) : Int)) && decide (((ByteArray.size (two n) : Nat) : Int) ≤ ((ByteArray.size (two n) : Nat) : Int))) (brc (decide (((ByteArray.size ((ByteArray.mk #[77, 111, 110]) ++ (ByteArray.mk #[62, 61])) + ByteArray.size (ByteArray.extract (two n) (Int.toNat ((ByteArray.size (ByteArray.mk #[48]) : Nat) : Int)) (Int.toNat ((ByteArray.size (two n) : Nat) : Int))) : Nat) : Int) ≤ IntKind.max IntKind.i64)) (K (AV.tup [AV.str ((ByteArray.mk #[77, 111, 110]) ++ (ByteArray.mk #[62, 61]) ++ ByteArray.extract (two n) 1 (Int.toNat ((ByteArray.size (two n) : Nat) : Int))), AV.int IntKind.i64 0])) False) False) (brc (decide (((ByteArray.size ((ByteArray.mk #[77, 111, 110]) ++ (ByteArray.mk #[62, 61])) + ByteArray.size (two n) : Nat) : Int) ≤ IntKind.max IntKind.i64)) (K (AV.tup [AV.str ((ByteArray.mk #[77, 111, 110]) ++ (ByteArray.mk #[62, 61]) ++ two n), AV.int IntKind.i64 0])) False)) False) (brc (decide (((ByteArray.size ((ByteArray.mk #[77, 111, 110]) ++ (ByteArray.mk #[62, 61])) + ByteArray.size (two n) : Nat) : Int) ≤ IntKind.max IntKind.i64)) (K (AV.tup [AV.str ((ByteArray.mk #[77, 111, 110]) ++ (ByteArray.mk #[62, 61]) ++ two n), AV.int IntKind.i64 0])) False)) False)) (K (AV.tup [AV.str (ByteArray.mk #[]), AV.int IntKind.i64 1]))) := by kernel_rfl
set_option maxRecDepth 100000 in
theorem ton22_vc (n : Int) (K : AV → Prop) : AF (tab [(187, cyTwo)]) 12 182 [.agg [.int .i64 2, .int .i64 2, .int .i64 n]] K =
 (brc (decide (n ≥ 1)) (brc (!decide (n ≤ 31)) (K (AV.tup [AV.str (ByteArray.mk #[]), AV.int IntKind.i64 1])) (brc (decide (0 ≤ n ∧ n ≤ 99)) (brc (decide (((ByteArray.size (two n) : Nat) : Int) ≥ ((ByteArray.size (ByteArray.mk #[48]) : Nat) : Int))) (brc (decide (((ByteArray.size (ByteArray.mk #[48]) : Nat) : Int) ≤ ((ByteArray.size (two n) : Nat) : Int))) (brc (ByteArray.toList (ByteArray.extract (two n) (Int.toNat 0) (Int.toNat ((ByteArray.size (ByteArray.mk #[48]) : Nat) : Int))) == ByteArray.toList (ByteArray.mk #[48])) (brc (decide (((ByteArray.size (ByteArray.mk #[48]) : Nat) : Int) ≤ ((ByteArray.size (two n) : Nat) : Int)) && decide (((ByteArray.size (two n) : Nat) : Int) ≤ ((ByteArray.size (two n) : Nat) : Int))) (brc (decide (((ByteArray.size ((ByteArray.mk #[84, 117, 101]) ++ (ByteArray.mk #[62, 61])) + ByteArray.size (ByteArray.extract (two n) (Int.toNat ((ByteArray.size (ByteArray.mk #[48]) : Nat) : Int)) (Int.toNat ((ByteArray.size (two n) : Nat) : Int))) : Nat) : Int) ≤ IntKind.max IntKind.i64)) (K (AV.tup [AV.str ((ByteArray.mk #[84, 117, 101]) ++ (ByteArray.mk #[62, 61]) ++ ByteArray.extract (two n) 1 (Int.toNat ((ByteArray.size (two n) : Nat) : Int))), AV.int IntKind.i64 0])) False) False) (brc (decide (((ByteArray.size ((ByteArray.mk #[84, 117, 101]) ++ (ByteArray.mk #[62, 61])) + ByteArray.size (two n) : Nat) : Int) ≤ IntKind.max IntKind.i64)) (K (AV.tup [AV.str ((ByteArray.mk #[84, 117, 101]) ++ (ByteArray.mk #[62, 61]) ++ two n), AV.int IntKind.i64 0])) False)) False) (brc (decide (((ByteArray.size ((ByteArray.mk #[84, 117, 101]) ++ (ByteArray.mk #[62, 61])) + ByteArray.size (two n) : Nat) : Int) ≤ IntKind.max IntKind.i64)) (K (AV.tup [AV.str ((ByteArray.mk #[84, 117, 101]) ++ (ByteArray.mk #[62, 61]) ++ two n), AV.int IntKind.i64 0])) False)) False)) (K (AV.tup [AV.str (ByteArray.mk #[]), AV.int IntKind.i64 1]))) := by kernel_rfl
set_option maxRecDepth 100000 in
theorem ton23_vc (n : Int) (K : AV → Prop) : AF (tab [(187, cyTwo)]) 12 182 [.agg [.int .i64 2, .int .i64 3, .int .i64 n]] K =
 (brc (decide (n ≥ 1)) (brc (!decide (n ≤ 31)) (K (AV.tup [AV.str (ByteArray.mk #[]), AV.int IntKind.i64 1])) (brc (decide (0 ≤ n ∧ n ≤ 99)) (brc (decide (((ByteArray.size (two n) : Nat) : Int) ≥ ((ByteArray.size (ByteArray.mk #[48]) : Nat) : Int))) (brc (decide (((ByteArray.size (ByteArray.mk #[48]) : Nat) : Int) ≤ ((ByteArray.size (two n) : Nat) : Int))) (brc (ByteArray.toList (ByteArray.extract (two n) (Int.toNat 0) (Int.toNat ((ByteArray.size (ByteArray.mk #[48]) : Nat) : Int))) == ByteArray.toList (ByteArray.mk #[48])) (brc (decide (((ByteArray.size (ByteArray.mk #[48]) : Nat) : Int) ≤ ((ByteArray.size (two n) : Nat) : Int)) && decide (((ByteArray.size (two n) : Nat) : Int) ≤ ((ByteArray.size (two n) : Nat) : Int))) (brc (decide (((ByteArray.size ((ByteArray.mk #[87, 101, 100]) ++ (ByteArray.mk #[62, 61])) + ByteArray.size (ByteArray.extract (two n) (Int.toNat ((ByteArray.size (ByteArray.mk #[48]) : Nat) : Int)) (Int.toNat ((ByteArray.size (two n) : Nat) : Int))) : Nat) : Int) ≤ IntKind.max IntKind.i64)) (K (AV.tup [AV.str ((ByteArray.mk #[87, 101, 100]) ++ (ByteArray.mk #[62, 61]) ++ ByteArray.extract (two n) 1 (Int.toNat ((ByteArray.size (two n) : Nat) : Int))), AV.int IntKind.i64 0])) False) False) (brc (decide (((ByteArray.size ((ByteArray.mk #[87, 101, 100]) ++ (ByteArray.mk #[62, 61])) + ByteArray.size (two n) : Nat) : Int) ≤ IntKind.max IntKind.i64)) (K (AV.tup [AV.str ((ByteArray.mk #[87, 101, 100]) ++ (ByteArray.mk #[62, 61]) ++ two n), AV.int IntKind.i64 0])) False)) False) (brc (decide (((ByteArray.size ((ByteArray.mk #[87, 101, 100]) ++ (ByteArray.mk #[62, 61])) + ByteArray.size (two n) : Nat) : Int) ≤ IntKind.max IntKind.i64)) (K (AV.tup [AV.str ((ByteArray.mk #[87, 101, 100]) ++ (ByteArray.mk #[62, 61]) ++ two n), AV.int IntKind.i64 0])) False)) False)) (K (AV.tup [AV.str (ByteArray.mk #[]), AV.int IntKind.i64 1]))) := by kernel_rfl
set_option maxRecDepth 100000 in
theorem ton24_vc (n : Int) (K : AV → Prop) : AF (tab [(187, cyTwo)]) 12 182 [.agg [.int .i64 2, .int .i64 4, .int .i64 n]] K =
 (brc (decide (n ≥ 1)) (brc (!decide (n ≤ 31)) (K (AV.tup [AV.str (ByteArray.mk #[]), AV.int IntKind.i64 1])) (brc (decide (0 ≤ n ∧ n ≤ 99)) (brc (decide (((ByteArray.size (two n) : Nat) : Int) ≥ ((ByteArray.size (ByteArray.mk #[48]) : Nat) : Int))) (brc (decide (((ByteArray.size (ByteArray.mk #[48]) : Nat) : Int) ≤ ((ByteArray.size (two n) : Nat) : Int))) (brc (ByteArray.toList (ByteArray.extract (two n) (Int.toNat 0) (Int.toNat ((ByteArray.size (ByteArray.mk #[48]) : Nat) : Int))) == ByteArray.toList (ByteArray.mk #[48])) (brc (decide (((ByteArray.size (ByteArray.mk #[48]) : Nat) : Int) ≤ ((ByteArray.size (two n) : Nat) : Int)) && decide (((ByteArray.size (two n) : Nat) : Int) ≤ ((ByteArray.size (two n) : Nat) : Int))) (brc (decide (((ByteArray.size ((ByteArray.mk #[84, 104, 117]) ++ (ByteArray.mk #[62, 61])) + ByteArray.size (ByteArray.extract (two n) (Int.toNat ((ByteArray.size (ByteArray.mk #[48]) : Nat) : Int)) (Int.toNat ((ByteArray.size (two n) : Nat) : Int))) : Nat) : Int) ≤ IntKind.max IntKind.i64)) (K (AV.tup [AV.str ((ByteArray.mk #[84, 104, 117]) ++ (ByteArray.mk #[62, 61]) ++ ByteArray.extract (two n) 1 (Int.toNat ((ByteArray.size (two n) : Nat) : Int))), AV.int IntKind.i64 0])) False) False) (brc (decide (((ByteArray.size ((ByteArray.mk #[84, 104, 117]) ++ (ByteArray.mk #[62, 61])) + ByteArray.size (two n) : Nat) : Int) ≤ IntKind.max IntKind.i64)) (K (AV.tup [AV.str ((ByteArray.mk #[84, 104, 117]) ++ (ByteArray.mk #[62, 61]) ++ two n), AV.int IntKind.i64 0])) False)) False) (brc (decide (((ByteArray.size ((ByteArray.mk #[84, 104, 117]) ++ (ByteArray.mk #[62, 61])) + ByteArray.size (two n) : Nat) : Int) ≤ IntKind.max IntKind.i64)) (K (AV.tup [AV.str ((ByteArray.mk #[84, 104, 117]) ++ (ByteArray.mk #[62, 61]) ++ two n), AV.int IntKind.i64 0])) False)) False)) (K (AV.tup [AV.str (ByteArray.mk #[]), AV.int IntKind.i64 1]))) := by kernel_rfl
set_option maxRecDepth 100000 in
theorem ton25_vc (n : Int) (K : AV → Prop) : AF (tab [(187, cyTwo)]) 12 182 [.agg [.int .i64 2, .int .i64 5, .int .i64 n]] K =
 (brc (decide (n ≥ 1)) (brc (!decide (n ≤ 31)) (K (AV.tup [AV.str (ByteArray.mk #[]), AV.int IntKind.i64 1])) (brc (decide (0 ≤ n ∧ n ≤ 99)) (brc (decide (((ByteArray.size (two n) : Nat) : Int) ≥ ((ByteArray.size (ByteArray.mk #[48]) : Nat) : Int))) (brc (decide (((ByteArray.size (ByteArray.mk #[48]) : Nat) : Int) ≤ ((ByteArray.size (two n) : Nat) : Int))) (brc (ByteArray.toList (ByteArray.extract (two n) (Int.toNat 0) (Int.toNat ((ByteArray.size (ByteArray.mk #[48]) : Nat) : Int))) == ByteArray.toList (ByteArray.mk #[48])) (brc (decide (((ByteArray.size (ByteArray.mk #[48]) : Nat) : Int) ≤ ((ByteArray.size (two n) : Nat) : Int)) && decide (((ByteArray.size (two n) : Nat) : Int) ≤ ((ByteArray.size (two n) : Nat) : Int))) (brc (decide (((ByteArray.size ((ByteArray.mk #[70, 114, 105]) ++ (ByteArray.mk #[62, 61])) + ByteArray.size (ByteArray.extract (two n) (Int.toNat ((ByteArray.size (ByteArray.mk #[48]) : Nat) : Int)) (Int.toNat ((ByteArray.size (two n) : Nat) : Int))) : Nat) : Int) ≤ IntKind.max IntKind.i64)) (K (AV.tup [AV.str ((ByteArray.mk #[70, 114, 105]) ++ (ByteArray.mk #[62, 61]) ++ ByteArray.extract (two n) 1 (Int.toNat ((ByteArray.size (two n) : Nat) : Int))), AV.int IntKind.i64 0])) False) False) (brc (decide (((ByteArray.size ((ByteArray.mk #[70, 114, 105]) ++ (ByteArray.mk #[62, 61])) + ByteArray.size (two n) : Nat) : Int) ≤ IntKind.max IntKind.i64)) (K (AV.tup [AV.str ((ByteArray.mk #[70, 114, 105]) ++ (ByteArray.mk #[62, 61]) ++ two n), AV.int IntKind.i64 0])) False)) False) (brc (decide (((ByteArray.size ((ByteArray.mk #[70, 114, 105]) ++ (ByteArray.mk #[62, 61])) + ByteArray.size (two n) : Nat) : Int) ≤ IntKind.max IntKind.i64)) (K (AV.tup [AV.str ((ByteArray.mk #[70, 114, 105]) ++ (ByteArray.mk #[62, 61]) ++ two n), AV.int IntKind.i64 0])) False)) False)) (K (AV.tup [AV.str (ByteArray.mk #[]), AV.int IntKind.i64 1]))) := by kernel_rfl
set_option maxRecDepth 100000 in
theorem ton26_vc (n : Int) (K : AV → Prop) : AF (tab [(187, cyTwo)]) 12 182 [.agg [.int .i64 2, .int .i64 6, .int .i64 n]] K =
 (brc (decide (n ≥ 1)) (brc (!decide (n ≤ 31)) (K (AV.tup [AV.str (ByteArray.mk #[]), AV.int IntKind.i64 1])) (brc (decide (0 ≤ n ∧ n ≤ 99)) (brc (decide (((ByteArray.size (two n) : Nat) : Int) ≥ ((ByteArray.size (ByteArray.mk #[48]) : Nat) : Int))) (brc (decide (((ByteArray.size (ByteArray.mk #[48]) : Nat) : Int) ≤ ((ByteArray.size (two n) : Nat) : Int))) (brc (ByteArray.toList (ByteArray.extract (two n) (Int.toNat 0) (Int.toNat ((ByteArray.size (ByteArray.mk #[48]) : Nat) : Int))) == ByteArray.toList (ByteArray.mk #[48])) (brc (decide (((ByteArray.size (ByteArray.mk #[48]) : Nat) : Int) ≤ ((ByteArray.size (two n) : Nat) : Int)) && decide (((ByteArray.size (two n) : Nat) : Int) ≤ ((ByteArray.size (two n) : Nat) : Int))) (brc (decide (((ByteArray.size ((ByteArray.mk #[83, 97, 116]) ++ (ByteArray.mk #[62, 61])) + ByteArray.size (ByteArray.extract (two n) (Int.toNat ((ByteArray.size (ByteArray.mk #[48]) : Nat) : Int)) (Int.toNat ((ByteArray.size (two n) : Nat) : Int))) : Nat) : Int) ≤ IntKind.max IntKind.i64)) (K (AV.tup [AV.str ((ByteArray.mk #[83, 97, 116]) ++ (ByteArray.mk #[62, 61]) ++ ByteArray.extract (two n) 1 (Int.toNat ((ByteArray.size (two n) : Nat) : Int))), AV.int IntKind.i64 0])) False) False) (brc (decide (((ByteArray.size ((ByteArray.mk #[83, 97, 116]) ++ (ByteArray.mk #[62, 61])) + ByteArray.size (two n) : Nat) : Int) ≤ IntKind.max IntKind.i64)) (K (AV.tup [AV.str ((ByteArray.mk #[83, 97, 116]) ++ (ByteArray.mk #[62, 61]) ++ two n), AV.int IntKind.i64 0])) False)) False) (brc (decide (((ByteArray.size ((ByteArray.mk #[83, 97, 116]) ++ (ByteArray.mk #[62, 61])) + ByteArray.size (two n) : Nat) : Int) ≤ IntKind.max IntKind.i64)) (K (AV.tup [AV.str ((ByteArray.mk #[83, 97, 116]) ++ (ByteArray.mk #[62, 61]) ++ two n), AV.int IntKind.i64 0])) False)) False)) (K (AV.tup [AV.str (ByteArray.mk #[]), AV.int IntKind.i64 1]))) := by kernel_rfl
set_option maxRecDepth 100000 in
theorem ton30_vc (n : Int) (K : AV → Prop) : AF (tab [(187, cyTwo)]) 12 182 [.agg [.int .i64 3, .int .i64 0, .int .i64 n]] K =
 (brc (decide (n ≥ 1)) (brc (!decide (n ≤ 31)) (K (AV.tup [AV.str (ByteArray.mk #[]), AV.int IntKind.i64 1])) (brc (decide (0 ≤ n ∧ n ≤ 99)) (brc (decide (((ByteArray.size (two n) : Nat) : Int) ≥ ((ByteArray.size (ByteArray.mk #[48]) : Nat) : Int))) (brc (decide (((ByteArray.size (ByteArray.mk #[48]) : Nat) : Int) ≤ ((ByteArray.size (two n) : Nat) : Int))) (brc (ByteArray.toList (ByteArray.extract (two n) (Int.toNat 0) (Int.toNat ((ByteArray.size (ByteArray.mk #[48]) : Nat) : Int))) == ByteArray.toList (ByteArray.mk #[48])) (brc (decide (((ByteArray.size (ByteArray.mk #[48]) : Nat) : Int) ≤ ((ByteArray.size (two n) : Nat) : Int)) && decide (((ByteArray.size (two n) : Nat) : Int) ≤ ((ByteArray.size (two n) : Nat) : Int))) (brc (decide (((ByteArray.size ((ByteArray.mk #[83, 117, 110]) ++ (ByteArray.mk #[60, 61])) + ByteArray.size (ByteArray.extract (two n) (Int.toNat ((ByteArray.size (ByteArray.mk #[48]) : Nat) : Int)) (Int.toNat ((ByteArray.size (two n) : Nat) : Int))) : Nat) : Int) ≤ IntKind.max IntKind.i64)) (K (AV.tup [AV.str ((ByteArray.mk #[83, 117, 110]) ++ (ByteArray.mk #[60, 61]) ++ ByteArray.extract (two n) 1 (Int.toNat ((ByteArray.size (two n) : Nat) : Int))), AV.int IntKind.i64 0])) False) False) (brc (decide (((ByteArray.size ((ByteArray.mk #[83, 117, 110]) ++ (ByteArray.mk #[60, 61])) + ByteArray.size (two n) : Nat) : Int) ≤ IntKind.max IntKind.i64)) (K (AV.tup [AV.str ((ByteArray.mk #[83, 117, 110]) ++ (ByteArray.mk #[60, 61]) ++ two n), AV.int IntKind.i64 0])) False)) False) (brc (decide (((ByteArray.size ((ByteArray.mk #[83, 117, 110]) ++ (ByteArray.mk #[60, 61])) + ByteArray.size (two n) : Nat) : Int) ≤ IntKind.max IntKind.i64)) (K (AV.tup [AV.str ((ByteArray.mk #[83, 117, 110]) ++ (ByteArray.mk #[60, 61]) ++ two n), AV.int IntKind.i64 0])) False)) False)) (K (AV.tup [AV.str (ByteArray.mk #[]), AV.int IntKind.i64 1]))) := by kernel_rfl
set_option maxRecDepth 100000 in
theorem ton31_vc (n : Int) (K : AV → Prop) : AF (tab [(187, cyTwo)]) 12 182 [.agg [.int .i64 3, .int .i64 1, .int .i64 n]] K =
 (brc (decide (n ≥ 1)) (brc (!decide (n ≤ 31)) (K (AV.tup [AV.str (ByteArray.mk #[]), AV.int IntKind.i64 1])) (brc (decide (0 ≤ n ∧ n ≤ 99)) (brc (decide (((ByteArray.size (two n) : Nat) : Int) ≥ ((ByteArray.size (ByteArray.mk #[48]) : Nat) : Int))) (brc (decide (((ByteArray.size (ByteArray.mk #[48]) : Nat) : Int) ≤ ((ByteArray.size (two n) : Nat) : Int))) (brc (ByteArray.toList (ByteArray.extract (two n) (Int.toNat 0) (Int.toNat ((ByteArray.size (ByteArray.mk #[48]) : Nat) : Int))) == ByteArray.toList (ByteArray.mk #[48])) (brc (decide (((ByteArray.size (ByteArray.mk #[48]) : Nat) : Int) ≤ ((ByteArray.size (two n) : Nat) : Int)) && decide (((ByteArray.size (two n) : Nat) : Int) ≤ ((ByteArray.size (two n) : Nat) : Int))) (brc (decide (((ByteArray.size ((ByteArray.mk #[77, 111, 110]) ++ (ByteArray.mk #[60, 61])) + ByteArray.size (ByteArray.extract (two n) (Int.toNat ((ByteArray.size (ByteArray.mk #[48]) : Nat) : Int)) (Int.toNat ((ByteArray.size (two n) : Nat) : Int))) : Nat) : Int) ≤ IntKind.max IntKind.i64)) (K (AV.tup [AV.str ((ByteArray.mk #[77, 111, 110]) ++ (ByteArray.mk #[60, 61]) ++ ByteArray.extract (two n) 1 (Int.toNat ((ByteArray.size (two n) : Nat) : Int))), AV.int IntKind.i64 0])) False) False) (brc (decide (((ByteArray.size ((ByteArray.mk #[77, 111, 110]) ++ (ByteArray.mk #[60, 61])) + ByteArray.size (two n) : Nat) : Int) ≤ IntKind.max IntKind.i64)) (K (AV.tup [AV.str ((ByteArray.mk #[77, 111, 110]) ++ (ByteArray.mk #[60, 61]) ++ two n), AV.int IntKind.i64 0])) False)) False) (brc (decide (((ByteArray.size ((ByteArray.mk #[77, 111, 110]) ++ (ByteArray.mk #[60, 61])) + ByteArray.size (two n) : Nat) : Int) ≤ IntKind.max IntKind.i64)) (K (AV.tup [AV.str ((ByteArray.mk #[77, 111, 110]) ++ (ByteArray.mk #[60, 61]) ++ two n), AV.int IntKind.i64 0])) False)) False)) (K (AV.tup [AV.str (ByteArray.mk #[]), AV.int IntKind.i64 1]))) := by kernel_rfl
set_option maxRecDepth 100000 in
theorem ton32_vc (n : Int) (K : AV → Prop) : AF (tab [(187, cyTwo)]) 12 182 [.agg [.int .i64 3, .int .i64 2, .int .i64 n]] K =
 (brc (decide (n ≥ 1)) (brc (!decide (n ≤ 31)) (K (AV.tup [AV.str (ByteArray.mk #[]), AV.int IntKind.i64 1])) (brc (decide (0 ≤ n ∧ n ≤ 99)) (brc (decide (((ByteArray.size (two n) : Nat) : Int) ≥ ((ByteArray.size (ByteArray.mk #[48]) : Nat) : Int))) (brc (decide (((ByteArray.size (ByteArray.mk #[48]) : Nat) : Int) ≤ ((ByteArray.size (two n) : Nat) : Int))) (brc (ByteArray.toList (ByteArray.extract (two n) (Int.toNat 0) (Int.toNat ((ByteArray.size (ByteArray.mk #[48]) : Nat) : Int))) == ByteArray.toList (ByteArray.mk #[48])) (brc (decide (((ByteArray.size (ByteArray.mk #[48]) : Nat) : Int) ≤ ((ByteArray.size (two n) : Nat) : Int)) && decide (((ByteArray.size (two n) : Nat) : Int) ≤ ((ByteArray.size (two n) : Nat) : Int))) (brc (decide (((ByteArray.size ((ByteArray.mk #[84, 117, 101]) ++ (ByteArray.mk #[60, 61])) + ByteArray.size (ByteArray.extract (two n) (Int.toNat ((ByteArray.size (ByteArray.mk #[48]) : Nat) : Int)) (Int.toNat ((ByteArray.size (two n) : Nat) : Int))) : Nat) : Int) ≤ IntKind.max IntKind.i64)) (K (AV.tup [AV.str ((ByteArray.mk #[84, 117, 101]) ++ (ByteArray.mk #[60, 61]) ++ ByteArray.extract (two n) 1 (Int.toNat ((ByteArray.size (two n) : Nat) : Int))), AV.int IntKind.i64 0])) False) False) (brc (decide (((ByteArray.size ((ByteArray.mk #[84, 117, 101]) ++ (ByteArray.mk #[60, 61])) + ByteArray.size (two n) : Nat) : Int) ≤ IntKind.max IntKind.i64)) (K (AV.tup [AV.str ((ByteArray.mk #[84, 117, 101]) ++ (ByteArray.mk #[60, 61]) ++ two n), AV.int IntKind.i64 0])) False)) False) (brc (decide (((ByteArray.size ((ByteArray.mk #[84, 117, 101]) ++ (ByteArray.mk #[60, 61])) + ByteArray.size (two n) : Nat) : Int) ≤ IntKind.max IntKind.i64)) (K (AV.tup [AV.str ((ByteArray.mk #[84, 117, 101]) ++ (ByteArray.mk #[60, 61]) ++ two n), AV.int IntKind.i64 0])) False)) False)) (K (AV.tup [AV.str (ByteArray.mk #[]), AV.int IntKind.i64 1]))) := by kernel_rfl
set_option maxRecDepth 100000 in
theorem ton33_vc (n : Int) (K : AV → Prop) : AF (tab [(187, cyTwo)]) 12 182 [.agg [.int .i64 3, .int .i64 3, .int .i64 n]] K =
 (brc (decide (n ≥ 1)) (brc (!decide (n ≤ 31)) (K (AV.tup [AV.str (ByteArray.mk #[]), AV.int IntKind.i64 1])) (brc (decide (0 ≤ n ∧ n ≤ 99)) (brc (decide (((ByteArray.size (two n) : Nat) : Int) ≥ ((ByteArray.size (ByteArray.mk #[48]) : Nat) : Int))) (brc (decide (((ByteArray.size (ByteArray.mk #[48]) : Nat) : Int) ≤ ((ByteArray.size (two n) : Nat) : Int))) (brc (ByteArray.toList (ByteArray.extract (two n) (Int.toNat 0) (Int.toNat ((ByteArray.size (ByteArray.mk #[48]) : Nat) : Int))) == ByteArray.toList (ByteArray.mk #[48])) (brc (decide (((ByteArray.size (ByteArray.mk #[48]) : Nat) : Int) ≤ ((ByteArray.size (two n) : Nat) : Int)) && decide (((ByteArray.size (two n) : Nat) : Int) ≤ ((ByteArray.size (two n) : Nat) : Int))) (brc (decide (((ByteArray.size ((ByteArray.mk #[87, 101, 100]) ++ (ByteArray.mk #[60, 61])) + ByteArray.size (ByteArray.extract (two n) (Int.toNat ((ByteArray.size (ByteArray.mk #[48]) : Nat) : Int)) (Int.toNat ((ByteArray.size (two n) : Nat) : Int))) : Nat) : Int) ≤ IntKind.max IntKind.i64)) (K (AV.tup [AV.str ((ByteArray.mk #[87, 101, 100]) ++ (ByteArray.mk #[60, 61]) ++ ByteArray.extract (two n) 1 (Int.toNat ((ByteArray.size (two n) : Nat) : Int))), AV.int IntKind.i64 0])) False) False) (brc (decide (((ByteArray.size ((ByteArray.mk #[87, 101, 100]) ++ (ByteArray.mk #[60, 61])) + ByteArray.size (two n) : Nat) : Int) ≤ IntKind.max IntKind.i64)) (K (AV.tup [AV.str ((ByteArray.mk #[87, 101, 100]) ++ (ByteArray.mk #[60, 61]) ++ two n), AV.int IntKind.i64 0])) False)) False) (brc (decide (((ByteArray.size ((ByteArray.mk #[87, 101, 100]) ++ (ByteArray.mk #[60, 61])) + ByteArray.size (two n) : Nat) : Int) ≤ IntKind.max IntKind.i64)) (K (AV.tup [AV.str ((ByteArray.mk #[87, 101, 100]) ++ (ByteArray.mk #[60, 61]) ++ two n), AV.int IntKind.i64 0])) False)) False)) (K (AV.tup [AV.str (ByteArray.mk #[]), AV.int IntKind.i64 1]))) := by kernel_rfl
set_option maxRecDepth 100000 in
theorem ton34_vc (n : Int) (K : AV → Prop) : AF (tab [(187, cyTwo)]) 12 182 [.agg [.int .i64 3, .int .i64 4, .int .i64 n]] K =
 (brc (decide (n ≥ 1)) (brc (!decide (n ≤ 31)) (K (AV.tup [AV.str (ByteArray.mk #[]), AV.int IntKind.i64 1])) (brc (decide (0 ≤ n ∧ n ≤ 99)) (brc (decide (((ByteArray.size (two n) : Nat) : Int) ≥ ((ByteArray.size (ByteArray.mk #[48]) : Nat) : Int))) (brc (decide (((ByteArray.size (ByteArray.mk #[48]) : Nat) : Int) ≤ ((ByteArray.size (two n) : Nat) : Int))) (brc (ByteArray.toList (ByteArray.extract (two n) (Int.toNat 0) (Int.toNat ((ByteArray.size (ByteArray.mk #[48]) : Nat) : Int))) == ByteArray.toList (ByteArray.mk #[48])) (brc (decide (((ByteArray.size (ByteArray.mk #[48]) : Nat) : Int) ≤ ((ByteArray.size (two n) : Nat) : Int)) && decide (((ByteArray.size (two n) : Nat) : Int) ≤ ((ByteArray.size (two n) : Nat) : Int))) (brc (decide (((ByteArray.size ((ByteArray.mk #[84, 104, 117]) ++ (ByteArray.mk #[60, 61])) + ByteArray.size (ByteArray.extract (two n) (Int.toNat ((ByteArray.size (ByteArray.mk #[48]) : Nat) : Int)) (Int.toNat ((ByteArray.size (two n) : Nat) : Int))) : Nat) : Int) ≤ IntKind.max IntKind.i64)) (K (AV.tup [AV.str ((ByteArray.mk #[84, 104, 117]) ++ (ByteArray.mk #[60, 61]) ++ ByteArray.extract (two n) 1 (Int.toNat ((ByteArray.size (two n) : Nat) : Int))), AV.int IntKind.i64 0])) False) False) (brc (decide (((ByteArray.size ((ByteArray.mk #[84, 104, 117]) ++ (ByteArray.mk #[60, 61])) + ByteArray.size (two n) : Nat) : Int) ≤ IntKind.max IntKind.i64)) (K (AV.tup [AV.str ((ByteArray.mk #[84, 104, 117]) ++ (ByteArray.mk #[60, 61]) ++ two n), AV.int IntKind.i64 0])) False)) False) (brc (decide (((ByteArray.size ((ByteArray.mk #[84, 104, 117]) ++ (ByteArray.mk #[60, 61])) + ByteArray.size (two n) : Nat) : Int) ≤ IntKind.max IntKind.i64)) (K (AV.tup [AV.str ((ByteArray.mk #[84, 104, 117]) ++ (ByteArray.mk #[60, 61]) ++ two n), AV.int IntKind.i64 0])) False)) False)) (K (AV.tup [AV.str (ByteArray.mk #[]), AV.int IntKind.i64 1]))) := by kernel_rfl
set_option maxRecDepth 100000 in
theorem ton35_vc (n : Int) (K : AV → Prop) : AF (tab [(187, cyTwo)]) 12 182 [.agg [.int .i64 3, .int .i64 5, .int .i64 n]] K =
 (brc (decide (n ≥ 1)) (brc (!decide (n ≤ 31)) (K (AV.tup [AV.str (ByteArray.mk #[]), AV.int IntKind.i64 1])) (brc (decide (0 ≤ n ∧ n ≤ 99)) (brc (decide (((ByteArray.size (two n) : Nat) : Int) ≥ ((ByteArray.size (ByteArray.mk #[48]) : Nat) : Int))) (brc (decide (((ByteArray.size (ByteArray.mk #[48]) : Nat) : Int) ≤ ((ByteArray.size (two n) : Nat) : Int))) (brc (ByteArray.toList (ByteArray.extract (two n) (Int.toNat 0) (Int.toNat ((ByteArray.size (ByteArray.mk #[48]) : Nat) : Int))) == ByteArray.toList (ByteArray.mk #[48])) (brc (decide (((ByteArray.size (ByteArray.mk #[48]) : Nat) : Int) ≤ ((ByteArray.size (two n) : Nat) : Int)) && decide (((ByteArray.size (two n) : Nat) : Int) ≤ ((ByteArray.size (two n) : Nat) : Int))) (brc (decide (((ByteArray.size ((ByteArray.mk #[70, 114, 105]) ++ (ByteArray.mk #[60, 61])) + ByteArray.size (ByteArray.extract (two n) (Int.toNat ((ByteArray.size (ByteArray.mk #[48]) : Nat) : Int)) (Int.toNat ((ByteArray.size (two n) : Nat) : Int))) : Nat) : Int) ≤ IntKind.max IntKind.i64)) (K (AV.tup [AV.str ((ByteArray.mk #[70, 114, 105]) ++ (ByteArray.mk #[60, 61]) ++ ByteArray.extract (two n) 1 (Int.toNat ((ByteArray.size (two n) : Nat) : Int))), AV.int IntKind.i64 0])) False) False) (brc (decide (((ByteArray.size ((ByteArray.mk #[70, 114, 105]) ++ (ByteArray.mk #[60, 61])) + ByteArray.size (two n) : Nat) : Int) ≤ IntKind.max IntKind.i64)) (K (AV.tup [AV.str ((ByteArray.mk #[70, 114, 105]) ++ (ByteArray.mk #[60, 61]) ++ two n), AV.int IntKind.i64 0])) False)) False) (brc (decide (((ByteArray.size ((ByteArray.mk #[70, 114, 105]) ++ (ByteArray.mk #[60, 61])) + ByteArray.size (two n) : Nat) : Int) ≤ IntKind.max IntKind.i64)) (K (AV.tup [AV.str ((ByteArray.mk #[70, 114, 105]) ++ (ByteArray.mk #[60, 61]) ++ two n), AV.int IntKind.i64 0])) False)) False)) (K (AV.tup [AV.str (ByteArray.mk #[]), AV.int IntKind.i64 1]))) := by kernel_rfl
set_option maxRecDepth 100000 in
theorem ton36_vc (n : Int) (K : AV → Prop) : AF (tab [(187, cyTwo)]) 12 182 [.agg [.int .i64 3, .int .i64 6, .int .i64 n]] K =
 (brc (decide (n ≥ 1)) (brc (!decide (n ≤ 31)) (K (AV.tup [AV.str (ByteArray.mk #[]), AV.int IntKind.i64 1])) (brc (decide (0 ≤ n ∧ n ≤ 99)) (brc (decide (((ByteArray.size (two n) : Nat) : Int) ≥ ((ByteArray.size (ByteArray.mk #[48]) : Nat) : Int))) (brc (decide (((ByteArray.size (ByteArray.mk #[48]) : Nat) : Int) ≤ ((ByteArray.size (two n) : Nat) : Int))) (brc (ByteArray.toList (ByteArray.extract (two n) (Int.toNat 0) (Int.toNat ((ByteArray.size (ByteArray.mk #[48]) : Nat) : Int))) == ByteArray.toList (ByteArray.mk #[48])) (brc (decide (((ByteArray.size (ByteArray.mk #[48]) : Nat) : Int) ≤ ((ByteArray.size (two n) : Nat) : Int)) && decide (((ByteArray.size (two n) : Nat) : Int) ≤ ((ByteArray.size (two n) : Nat) : Int))) (brc (decide (((ByteArray.size ((ByteArray.mk #[83, 97, 116]) ++ (ByteArray.mk #[60, 61])) + ByteArray.size (ByteArray.extract (two n) (Int.toNat ((ByteArray.size (ByteArray.mk #[48]) : Nat) : Int)) (Int.toNat ((ByteArray.size (two n) : Nat) : Int))) : Nat) : Int) ≤ IntKind.max IntKind.i64)) (K (AV.tup [AV.str ((ByteArray.mk #[83, 97, 116]) ++ (ByteArray.mk #[60, 61]) ++ ByteArray.extract (two n) 1 (Int.toNat ((ByteArray.size (two n) : Nat) : Int))), AV.int IntKind.i64 0])) False) False) (brc (decide (((ByteArray.size ((ByteArray.mk #[83, 97, 116]) ++ (ByteArray.mk #[60, 61])) + ByteArray.size (two n) : Nat) : Int) ≤ IntKind.max IntKind.i64)) (K (AV.tup [AV.str ((ByteArray.mk #[83, 97, 116]) ++ (ByteArray.mk #[60, 61]) ++ two n), AV.int IntKind.i64 0])) False)) False) (brc (decide (((ByteArray.size ((ByteArray.mk #[83, 97, 116]) ++ (ByteArray.mk #[60, 61])) + ByteArray.size (two n) : Nat) : Int) ≤ IntKind.max IntKind.i64)) (K (AV.tup [AV.str ((ByteArray.mk #[83, 97, 116]) ++ (ByteArray.mk #[60, 61]) ++ two n), AV.int IntKind.i64 0])) False)) False)) (K (AV.tup [AV.str (ByteArray.mk #[]), AV.int IntKind.i64 1]))) := by kernel_rfl
set_option maxRecDepth 100000 in
theorem ton00_ok {n : Int} (hn : 1 ≤ n ∧ n ≤ 31) : AF (tab [(187, cyTwo)]) 12 182 [.agg [.int .i64 0, .int .i64 0, .int .i64 n]] fun u => ∃ s, u = .tup [.str s, .int .i64 0] := by
 rw [ton00_vc]
 repeat' (with_reducible refine kA (fun h => ?_) (fun h => ?_))
 all_goals first
  | exact ⟨_, rfl⟩
  | (exfalso; simp [bK, bV, decide_eq_false_iff_not, ByteArray.size_append, ByteArray.size_extract, IntKind.max, IntKind.signed, IntKind.bits] at *; omega)
  | (exfalso; simp [bK, bV, decide_eq_false_iff_not, ByteArray.size_append, ByteArray.size_extract, IntKind.max, IntKind.signed, IntKind.bits] at *; done)
set_option maxRecDepth 100000 in
theorem ton10_ok {n : Int} (hn : n = 0) : AF (tab [(187, cyTwo)]) 12 182 [.agg [.int .i64 1, .int .i64 0, .int .i64 n]] fun u => ∃ s, u = .tup [.str s, .int .i64 0] := by
 rw [ton10_vc]
 repeat' (with_reducible refine kA (fun h => ?_) (fun h => ?_))
 all_goals first
  | exact ⟨_, rfl⟩
  | (exfalso; simp [bK, bV, decide_eq_false_iff_not, ByteArray.size_append, ByteArray.size_extract, IntKind.max, IntKind.signed, IntKind.bits] at *; omega)
  | (exfalso; simp [bK, bV, decide_eq_false_iff_not, ByteArray.size_append, ByteArray.size_extract, IntKind.max, IntKind.signed, IntKind.bits] at *; done)
set_option maxRecDepth 100000 in
theorem ton11_ok {n : Int} (hn : n = 0) : AF (tab [(187, cyTwo)]) 12 182 [.agg [.int .i64 1, .int .i64 1, .int .i64 n]] fun u => ∃ s, u = .tup [.str s, .int .i64 0] := by
 rw [ton11_vc]
 repeat' (with_reducible refine kA (fun h => ?_) (fun h => ?_))
 all_goals first
  | exact ⟨_, rfl⟩
  | (exfalso; simp [bK, bV, decide_eq_false_iff_not, ByteArray.size_append, ByteArray.size_extract, IntKind.max, IntKind.signed, IntKind.bits] at *; omega)
  | (exfalso; simp [bK, bV, decide_eq_false_iff_not, ByteArray.size_append, ByteArray.size_extract, IntKind.max, IntKind.signed, IntKind.bits] at *; done)
set_option maxRecDepth 100000 in
theorem ton12_ok {n : Int} (hn : n = 0) : AF (tab [(187, cyTwo)]) 12 182 [.agg [.int .i64 1, .int .i64 2, .int .i64 n]] fun u => ∃ s, u = .tup [.str s, .int .i64 0] := by
 rw [ton12_vc]
 repeat' (with_reducible refine kA (fun h => ?_) (fun h => ?_))
 all_goals first
  | exact ⟨_, rfl⟩
  | (exfalso; simp [bK, bV, decide_eq_false_iff_not, ByteArray.size_append, ByteArray.size_extract, IntKind.max, IntKind.signed, IntKind.bits] at *; omega)
  | (exfalso; simp [bK, bV, decide_eq_false_iff_not, ByteArray.size_append, ByteArray.size_extract, IntKind.max, IntKind.signed, IntKind.bits] at *; done)
set_option maxRecDepth 100000 in
theorem ton13_ok {n : Int} (hn : n = 0) : AF (tab [(187, cyTwo)]) 12 182 [.agg [.int .i64 1, .int .i64 3, .int .i64 n]] fun u => ∃ s, u = .tup [.str s, .int .i64 0] := by
 rw [ton13_vc]
 repeat' (with_reducible refine kA (fun h => ?_) (fun h => ?_))
 all_goals first
  | exact ⟨_, rfl⟩
  | (exfalso; simp [bK, bV, decide_eq_false_iff_not, ByteArray.size_append, ByteArray.size_extract, IntKind.max, IntKind.signed, IntKind.bits] at *; omega)
  | (exfalso; simp [bK, bV, decide_eq_false_iff_not, ByteArray.size_append, ByteArray.size_extract, IntKind.max, IntKind.signed, IntKind.bits] at *; done)
set_option maxRecDepth 100000 in
theorem ton14_ok {n : Int} (hn : n = 0) : AF (tab [(187, cyTwo)]) 12 182 [.agg [.int .i64 1, .int .i64 4, .int .i64 n]] fun u => ∃ s, u = .tup [.str s, .int .i64 0] := by
 rw [ton14_vc]
 repeat' (with_reducible refine kA (fun h => ?_) (fun h => ?_))
 all_goals first
  | exact ⟨_, rfl⟩
  | (exfalso; simp [bK, bV, decide_eq_false_iff_not, ByteArray.size_append, ByteArray.size_extract, IntKind.max, IntKind.signed, IntKind.bits] at *; omega)
  | (exfalso; simp [bK, bV, decide_eq_false_iff_not, ByteArray.size_append, ByteArray.size_extract, IntKind.max, IntKind.signed, IntKind.bits] at *; done)
set_option maxRecDepth 100000 in
theorem ton15_ok {n : Int} (hn : n = 0) : AF (tab [(187, cyTwo)]) 12 182 [.agg [.int .i64 1, .int .i64 5, .int .i64 n]] fun u => ∃ s, u = .tup [.str s, .int .i64 0] := by
 rw [ton15_vc]
 repeat' (with_reducible refine kA (fun h => ?_) (fun h => ?_))
 all_goals first
  | exact ⟨_, rfl⟩
  | (exfalso; simp [bK, bV, decide_eq_false_iff_not, ByteArray.size_append, ByteArray.size_extract, IntKind.max, IntKind.signed, IntKind.bits] at *; omega)
  | (exfalso; simp [bK, bV, decide_eq_false_iff_not, ByteArray.size_append, ByteArray.size_extract, IntKind.max, IntKind.signed, IntKind.bits] at *; done)
set_option maxRecDepth 100000 in
theorem ton16_ok {n : Int} (hn : n = 0) : AF (tab [(187, cyTwo)]) 12 182 [.agg [.int .i64 1, .int .i64 6, .int .i64 n]] fun u => ∃ s, u = .tup [.str s, .int .i64 0] := by
 rw [ton16_vc]
 repeat' (with_reducible refine kA (fun h => ?_) (fun h => ?_))
 all_goals first
  | exact ⟨_, rfl⟩
  | (exfalso; simp [bK, bV, decide_eq_false_iff_not, ByteArray.size_append, ByteArray.size_extract, IntKind.max, IntKind.signed, IntKind.bits] at *; omega)
  | (exfalso; simp [bK, bV, decide_eq_false_iff_not, ByteArray.size_append, ByteArray.size_extract, IntKind.max, IntKind.signed, IntKind.bits] at *; done)
set_option maxRecDepth 100000 in
theorem ton20_ok {n : Int} (hn : 1 ≤ n ∧ n ≤ 31) : AF (tab [(187, cyTwo)]) 12 182 [.agg [.int .i64 2, .int .i64 0, .int .i64 n]] fun u => ∃ s, u = .tup [.str s, .int .i64 0] := by
 rw [ton20_vc]
 repeat' (with_reducible refine kA (fun h => ?_) (fun h => ?_))
 all_goals first
  | exact ⟨_, rfl⟩
  | (exfalso; simp [bK, bV, decide_eq_false_iff_not, ByteArray.size_append, ByteArray.size_extract, IntKind.max, IntKind.signed, IntKind.bits] at *; omega)
  | (exfalso; simp [bK, bV, decide_eq_false_iff_not, ByteArray.size_append, ByteArray.size_extract, IntKind.max, IntKind.signed, IntKind.bits] at *; done)
set_option maxRecDepth 100000 in
theorem ton21_ok {n : Int} (hn : 1 ≤ n ∧ n ≤ 31) : AF (tab [(187, cyTwo)]) 12 182 [.agg [.int .i64 2, .int .i64 1, .int .i64 n]] fun u => ∃ s, u = .tup [.str s, .int .i64 0] := by
 rw [ton21_vc]
 repeat' (with_reducible refine kA (fun h => ?_) (fun h => ?_))
 all_goals first
  | exact ⟨_, rfl⟩
  | (exfalso; simp [bK, bV, decide_eq_false_iff_not, ByteArray.size_append, ByteArray.size_extract, IntKind.max, IntKind.signed, IntKind.bits] at *; omega)
  | (exfalso; simp [bK, bV, decide_eq_false_iff_not, ByteArray.size_append, ByteArray.size_extract, IntKind.max, IntKind.signed, IntKind.bits] at *; done)
set_option maxRecDepth 100000 in
theorem ton22_ok {n : Int} (hn : 1 ≤ n ∧ n ≤ 31) : AF (tab [(187, cyTwo)]) 12 182 [.agg [.int .i64 2, .int .i64 2, .int .i64 n]] fun u => ∃ s, u = .tup [.str s, .int .i64 0] := by
 rw [ton22_vc]
 repeat' (with_reducible refine kA (fun h => ?_) (fun h => ?_))
 all_goals first
  | exact ⟨_, rfl⟩
  | (exfalso; simp [bK, bV, decide_eq_false_iff_not, ByteArray.size_append, ByteArray.size_extract, IntKind.max, IntKind.signed, IntKind.bits] at *; omega)
  | (exfalso; simp [bK, bV, decide_eq_false_iff_not, ByteArray.size_append, ByteArray.size_extract, IntKind.max, IntKind.signed, IntKind.bits] at *; done)
set_option maxRecDepth 100000 in
theorem ton23_ok {n : Int} (hn : 1 ≤ n ∧ n ≤ 31) : AF (tab [(187, cyTwo)]) 12 182 [.agg [.int .i64 2, .int .i64 3, .int .i64 n]] fun u => ∃ s, u = .tup [.str s, .int .i64 0] := by
 rw [ton23_vc]
 repeat' (with_reducible refine kA (fun h => ?_) (fun h => ?_))
 all_goals first
  | exact ⟨_, rfl⟩
  | (exfalso; simp [bK, bV, decide_eq_false_iff_not, ByteArray.size_append, ByteArray.size_extract, IntKind.max, IntKind.signed, IntKind.bits] at *; omega)
  | (exfalso; simp [bK, bV, decide_eq_false_iff_not, ByteArray.size_append, ByteArray.size_extract, IntKind.max, IntKind.signed, IntKind.bits] at *; done)
set_option maxRecDepth 100000 in
theorem ton24_ok {n : Int} (hn : 1 ≤ n ∧ n ≤ 31) : AF (tab [(187, cyTwo)]) 12 182 [.agg [.int .i64 2, .int .i64 4, .int .i64 n]] fun u => ∃ s, u = .tup [.str s, .int .i64 0] := by
 rw [ton24_vc]
 repeat' (with_reducible refine kA (fun h => ?_) (fun h => ?_))
 all_goals first
  | exact ⟨_, rfl⟩
  | (exfalso; simp [bK, bV, decide_eq_false_iff_not, ByteArray.size_append, ByteArray.size_extract, IntKind.max, IntKind.signed, IntKind.bits] at *; omega)
  | (exfalso; simp [bK, bV, decide_eq_false_iff_not, ByteArray.size_append, ByteArray.size_extract, IntKind.max, IntKind.signed, IntKind.bits] at *; done)
set_option maxRecDepth 100000 in
theorem ton25_ok {n : Int} (hn : 1 ≤ n ∧ n ≤ 31) : AF (tab [(187, cyTwo)]) 12 182 [.agg [.int .i64 2, .int .i64 5, .int .i64 n]] fun u => ∃ s, u = .tup [.str s, .int .i64 0] := by
 rw [ton25_vc]
 repeat' (with_reducible refine kA (fun h => ?_) (fun h => ?_))
 all_goals first
  | exact ⟨_, rfl⟩
  | (exfalso; simp [bK, bV, decide_eq_false_iff_not, ByteArray.size_append, ByteArray.size_extract, IntKind.max, IntKind.signed, IntKind.bits] at *; omega)
  | (exfalso; simp [bK, bV, decide_eq_false_iff_not, ByteArray.size_append, ByteArray.size_extract, IntKind.max, IntKind.signed, IntKind.bits] at *; done)
set_option maxRecDepth 100000 in
theorem ton26_ok {n : Int} (hn : 1 ≤ n ∧ n ≤ 31) : AF (tab [(187, cyTwo)]) 12 182 [.agg [.int .i64 2, .int .i64 6, .int .i64 n]] fun u => ∃ s, u = .tup [.str s, .int .i64 0] := by
 rw [ton26_vc]
 repeat' (with_reducible refine kA (fun h => ?_) (fun h => ?_))
 all_goals first
  | exact ⟨_, rfl⟩
  | (exfalso; simp [bK, bV, decide_eq_false_iff_not, ByteArray.size_append, ByteArray.size_extract, IntKind.max, IntKind.signed, IntKind.bits] at *; omega)
  | (exfalso; simp [bK, bV, decide_eq_false_iff_not, ByteArray.size_append, ByteArray.size_extract, IntKind.max, IntKind.signed, IntKind.bits] at *; done)
set_option maxRecDepth 100000 in
theorem ton30_ok {n : Int} (hn : 1 ≤ n ∧ n ≤ 31) : AF (tab [(187, cyTwo)]) 12 182 [.agg [.int .i64 3, .int .i64 0, .int .i64 n]] fun u => ∃ s, u = .tup [.str s, .int .i64 0] := by
 rw [ton30_vc]
 repeat' (with_reducible refine kA (fun h => ?_) (fun h => ?_))
 all_goals first
  | exact ⟨_, rfl⟩
  | (exfalso; simp [bK, bV, decide_eq_false_iff_not, ByteArray.size_append, ByteArray.size_extract, IntKind.max, IntKind.signed, IntKind.bits] at *; omega)
  | (exfalso; simp [bK, bV, decide_eq_false_iff_not, ByteArray.size_append, ByteArray.size_extract, IntKind.max, IntKind.signed, IntKind.bits] at *; done)
set_option maxRecDepth 100000 in
theorem ton31_ok {n : Int} (hn : 1 ≤ n ∧ n ≤ 31) : AF (tab [(187, cyTwo)]) 12 182 [.agg [.int .i64 3, .int .i64 1, .int .i64 n]] fun u => ∃ s, u = .tup [.str s, .int .i64 0] := by
 rw [ton31_vc]
 repeat' (with_reducible refine kA (fun h => ?_) (fun h => ?_))
 all_goals first
  | exact ⟨_, rfl⟩
  | (exfalso; simp [bK, bV, decide_eq_false_iff_not, ByteArray.size_append, ByteArray.size_extract, IntKind.max, IntKind.signed, IntKind.bits] at *; omega)
  | (exfalso; simp [bK, bV, decide_eq_false_iff_not, ByteArray.size_append, ByteArray.size_extract, IntKind.max, IntKind.signed, IntKind.bits] at *; done)
set_option maxRecDepth 100000 in
theorem ton32_ok {n : Int} (hn : 1 ≤ n ∧ n ≤ 31) : AF (tab [(187, cyTwo)]) 12 182 [.agg [.int .i64 3, .int .i64 2, .int .i64 n]] fun u => ∃ s, u = .tup [.str s, .int .i64 0] := by
 rw [ton32_vc]
 repeat' (with_reducible refine kA (fun h => ?_) (fun h => ?_))
 all_goals first
  | exact ⟨_, rfl⟩
  | (exfalso; simp [bK, bV, decide_eq_false_iff_not, ByteArray.size_append, ByteArray.size_extract, IntKind.max, IntKind.signed, IntKind.bits] at *; omega)
  | (exfalso; simp [bK, bV, decide_eq_false_iff_not, ByteArray.size_append, ByteArray.size_extract, IntKind.max, IntKind.signed, IntKind.bits] at *; done)
set_option maxRecDepth 100000 in
theorem ton33_ok {n : Int} (hn : 1 ≤ n ∧ n ≤ 31) : AF (tab [(187, cyTwo)]) 12 182 [.agg [.int .i64 3, .int .i64 3, .int .i64 n]] fun u => ∃ s, u = .tup [.str s, .int .i64 0] := by
 rw [ton33_vc]
 repeat' (with_reducible refine kA (fun h => ?_) (fun h => ?_))
 all_goals first
  | exact ⟨_, rfl⟩
  | (exfalso; simp [bK, bV, decide_eq_false_iff_not, ByteArray.size_append, ByteArray.size_extract, IntKind.max, IntKind.signed, IntKind.bits] at *; omega)
  | (exfalso; simp [bK, bV, decide_eq_false_iff_not, ByteArray.size_append, ByteArray.size_extract, IntKind.max, IntKind.signed, IntKind.bits] at *; done)
set_option maxRecDepth 100000 in
theorem ton34_ok {n : Int} (hn : 1 ≤ n ∧ n ≤ 31) : AF (tab [(187, cyTwo)]) 12 182 [.agg [.int .i64 3, .int .i64 4, .int .i64 n]] fun u => ∃ s, u = .tup [.str s, .int .i64 0] := by
 rw [ton34_vc]
 repeat' (with_reducible refine kA (fun h => ?_) (fun h => ?_))
 all_goals first
  | exact ⟨_, rfl⟩
  | (exfalso; simp [bK, bV, decide_eq_false_iff_not, ByteArray.size_append, ByteArray.size_extract, IntKind.max, IntKind.signed, IntKind.bits] at *; omega)
  | (exfalso; simp [bK, bV, decide_eq_false_iff_not, ByteArray.size_append, ByteArray.size_extract, IntKind.max, IntKind.signed, IntKind.bits] at *; done)
set_option maxRecDepth 100000 in
theorem ton35_ok {n : Int} (hn : 1 ≤ n ∧ n ≤ 31) : AF (tab [(187, cyTwo)]) 12 182 [.agg [.int .i64 3, .int .i64 5, .int .i64 n]] fun u => ∃ s, u = .tup [.str s, .int .i64 0] := by
 rw [ton35_vc]
 repeat' (with_reducible refine kA (fun h => ?_) (fun h => ?_))
 all_goals first
  | exact ⟨_, rfl⟩
  | (exfalso; simp [bK, bV, decide_eq_false_iff_not, ByteArray.size_append, ByteArray.size_extract, IntKind.max, IntKind.signed, IntKind.bits] at *; omega)
  | (exfalso; simp [bK, bV, decide_eq_false_iff_not, ByteArray.size_append, ByteArray.size_extract, IntKind.max, IntKind.signed, IntKind.bits] at *; done)
set_option maxRecDepth 100000 in
theorem ton36_ok {n : Int} (hn : 1 ≤ n ∧ n ≤ 31) : AF (tab [(187, cyTwo)]) 12 182 [.agg [.int .i64 3, .int .i64 6, .int .i64 n]] fun u => ∃ s, u = .tup [.str s, .int .i64 0] := by
 rw [ton36_vc]
 repeat' (with_reducible refine kA (fun h => ?_) (fun h => ?_))
 all_goals first
  | exact ⟨_, rfl⟩
  | (exfalso; simp [bK, bV, decide_eq_false_iff_not, ByteArray.size_append, ByteArray.size_extract, IntKind.max, IntKind.signed, IntKind.bits] at *; omega)
  | (exfalso; simp [bK, bV, decide_eq_false_iff_not, ByteArray.size_append, ByteArray.size_extract, IntKind.max, IntKind.signed, IntKind.bits] at *; done)
theorem ton_ok {k w n : Int} (h : OnOk k w n) : AF (tab [(187, cyTwo)]) 12 182 [.agg [.int .i64 k, .int .i64 w, .int .i64 n]] fun u => ∃ s, u = .tup [.str s, .int .i64 0] := by
 have seven : ∀ {w : Int}, 0 ≤ w → w ≤ 6 → w = 0 ∨ w = 1 ∨ w = 2 ∨ w = 3 ∨ w = 4 ∨ w = 5 ∨ w = 6 := by omega
 rcases h with ⟨rfl, rfl, h1, h2⟩ | ⟨rfl, h0, h1, h2⟩ | ⟨h0, h1, h2, h3, h4⟩
 · exact ton00_ok ⟨h1, h2⟩
 · rcases seven h1 h2 with rfl | rfl | rfl | rfl | rfl | rfl | rfl
   · exact ton10_ok h0
   · exact ton11_ok h0
   · exact ton12_ok h0
   · exact ton13_ok h0
   · exact ton14_ok h0
   · exact ton15_ok h0
   · exact ton16_ok h0
 · rcases h0 with rfl | rfl
   · rcases seven h1 h2 with rfl | rfl | rfl | rfl | rfl | rfl | rfl
     · exact ton20_ok ⟨h3, h4⟩
     · exact ton21_ok ⟨h3, h4⟩
     · exact ton22_ok ⟨h3, h4⟩
     · exact ton23_ok ⟨h3, h4⟩
     · exact ton24_ok ⟨h3, h4⟩
     · exact ton25_ok ⟨h3, h4⟩
     · exact ton26_ok ⟨h3, h4⟩
   · rcases seven h1 h2 with rfl | rfl | rfl | rfl | rfl | rfl | rfl
     · exact ton30_ok ⟨h3, h4⟩
     · exact ton31_ok ⟨h3, h4⟩
     · exact ton32_ok ⟨h3, h4⟩
     · exact ton33_ok ⟨h3, h4⟩
     · exact ton34_ok ⟨h3, h4⟩
     · exact ton35_ok ⟨h3, h4⟩
     · exact ton36_ok ⟨h3, h4⟩
theorem cyOn_ok : COk Tryz.prog 182 cyOn := by
 intro args p v hc hp w A hA
 unfold cyOn at hc
 split at hc
 case h_2 => cases hc
 rename_i k wd n
 simp only [Option.some.injEq, Prod.mk.injEq] at hc
 obtain ⟨_, rfl⟩ := hc
 by_cases h : OnOk k wd n
 · rw [if_pos h]
   exact af_text (kB cyTwo_ok bA) (by kernel_rfl) (ton_ok h) hA
 · rw [if_neg h]
   refine af_text (n := 6) (kB cyBad_ok bA) (by kernel_rfl) ?_ hA
   rw [texton_vc]
   exact brcT (decide_eq_true h) ⟨_, rfl⟩
set_option maxRecDepth 100000 in
theorem textat_vc (n c : Int) (K : AV → Prop) : AF (tab [(187, cyTwo)]) 6 183 [.agg [.int .i64 n, .int .u8 c]] K =
 (brc (decide (n ≥ 0)) (brc (decide (n ≤ 86400)) (brc (c == 119) (brc (decide (0 ≤ IntKind.wrap IntKind.i64 (Int.tdiv n 3600) ∧ IntKind.wrap IntKind.i64 (Int.tdiv n 3600) ≤ 99)) (brc (decide (((ByteArray.size (two (IntKind.wrap IntKind.i64 (Int.tdiv n 3600))) + ByteArray.size (ByteArray.mk #[58]) : Nat) : Int) ≤ IntKind.max IntKind.i64)) (brc (decide (0 ≤ Int.tmod (IntKind.wrap IntKind.i64 (Int.tdiv n 60)) 60 ∧ Int.tmod (IntKind.wrap IntKind.i64 (Int.tdiv n 60)) 60 ≤ 99)) (brc (decide (((ByteArray.size (two (IntKind.wrap IntKind.i64 (Int.tdiv n 3600)) ++ (ByteArray.mk #[58])) + ByteArray.size (two (Int.tmod (IntKind.wrap IntKind.i64 (Int.tdiv n 60)) 60)) : Nat) : Int) ≤ IntKind.max IntKind.i64)) (brc (decide (0 < ((ByteArray.size (two (IntKind.wrap IntKind.i64 (Int.tdiv n 3600)) ++ (ByteArray.mk #[58]) ++ two (Int.tmod (IntKind.wrap IntKind.i64 (Int.tdiv n 60)) 60)) : Nat) : Int))) (brc (((UInt8.toNat (Array.getD (ByteArray.data (two (IntKind.wrap IntKind.i64 (Int.tdiv n 3600)) ++ (ByteArray.mk #[58]) ++ two (Int.tmod (IntKind.wrap IntKind.i64 (Int.tdiv n 60)) 60))) (Int.toNat 0) 0) : Nat) : Int) == 48) (brc (decide (1 ≤ ((ByteArray.size (two (IntKind.wrap IntKind.i64 (Int.tdiv n 3600)) ++ (ByteArray.mk #[58]) ++ two (Int.tmod (IntKind.wrap IntKind.i64 (Int.tdiv n 60)) 60)) : Nat) : Int)) && decide (((ByteArray.size (two (IntKind.wrap IntKind.i64 (Int.tdiv n 3600)) ++ (ByteArray.mk #[58]) ++ two (Int.tmod (IntKind.wrap IntKind.i64 (Int.tdiv n 60)) 60)) : Nat) : Int) ≤ ((ByteArray.size (two (IntKind.wrap IntKind.i64 (Int.tdiv n 3600)) ++ (ByteArray.mk #[58]) ++ two (Int.tmod (IntKind.wrap IntKind.i64 (Int.tdiv n 60)) 60)) : Nat) : Int))) (brc (Int.tmod n 60 != 0) (brc (decide (0 ≤ Int.tmod n 60 ∧ Int.tmod n 60 ≤ 99)) (brc (decide (((ByteArray.size (ByteArray.mk #[58]) + ByteArray.size (two (Int.tmod n 60)) : Nat) : Int) ≤ IntKind.max IntKind.i64)) (brc (decide (((ByteArray.size (ByteArray.extract (two (IntKind.wrap IntKind.i64 (Int.tdiv n 3600)) ++ (ByteArray.mk #[58]) ++ two (Int.tmod (IntKind.wrap IntKind.i64 (Int.tdiv n 60)) 60)) (Int.toNat 1) (Int.toNat ((ByteArray.size (two (IntKind.wrap IntKind.i64 (Int.tdiv n 3600)) ++ (ByteArray.mk #[58]) ++ two (Int.tmod (IntKind.wrap IntKind.i64 (Int.tdiv n 60)) 60)) : Nat) : Int))) + ByteArray.size ((ByteArray.mk #[58]) ++ two (Int.tmod n 60)) : Nat) : Int) ≤ IntKind.max IntKind.i64)) (brc (c != 119) (brc (decide (((ByteArray.size (ByteArray.extract (two (IntKind.wrap IntKind.i64 (Int.tdiv n 3600)) ++ (ByteArray.mk #[58]) ++ two (Int.tmod (IntKind.wrap IntKind.i64 (Int.tdiv n 60)) 60)) (Int.toNat 1) (Int.toNat ((ByteArray.size (two (IntKind.wrap IntKind.i64 (Int.tdiv n 3600)) ++ (ByteArray.mk #[58]) ++ two (Int.tmod (IntKind.wrap IntKind.i64 (Int.tdiv n 60)) 60)) : Nat) : Int)) ++ ((ByteArray.mk #[58]) ++ two (Int.tmod n 60))) + ByteArray.size (Utf8.encode (IntKind.wrap IntKind.i32 c)) : Nat) : Int) ≤ IntKind.max IntKind.i64)) (K (AV.tup [AV.str (ByteArray.extract (two (IntKind.wrap IntKind.i64 (Int.tdiv n 3600)) ++ (ByteArray.mk #[58]) ++ two (Int.tmod (IntKind.wrap IntKind.i64 (Int.tdiv n 60)) 60)) 1 (Int.toNat ((ByteArray.size (two (IntKind.wrap IntKind.i64 (Int.tdiv n 3600)) ++ (ByteArray.mk #[58]) ++ two (Int.tmod (IntKind.wrap IntKind.i64 (Int.tdiv n 60)) 60)) : Nat) : Int)) ++ ((ByteArray.mk #[58]) ++ two (Int.tmod n 60)) ++ Utf8.encode (IntKind.wrap IntKind.i32 c)), AV.int IntKind.i64 0])) False) (K (AV.tup [AV.str (ByteArray.extract (two (IntKind.wrap IntKind.i64 (Int.tdiv n 3600)) ++ (ByteArray.mk #[58]) ++ two (Int.tmod (IntKind.wrap IntKind.i64 (Int.tdiv n 60)) 60)) 1 (Int.toNat ((ByteArray.size (two (IntKind.wrap IntKind.i64 (Int.tdiv n 3600)) ++ (ByteArray.mk #[58]) ++ two (Int.tmod (IntKind.wrap IntKind.i64 (Int.tdiv n 60)) 60)) : Nat) : Int)) ++ ((ByteArray.mk #[58]) ++ two (Int.tmod n 60))), AV.int IntKind.i64 0]))) False) False) False) (brc (c != 119) (brc (decide (((ByteArray.size (ByteArray.extract (two (IntKind.wrap IntKind.i64 (Int.tdiv n 3600)) ++ (ByteArray.mk #[58]) ++ two (Int.tmod (IntKind.wrap IntKind.i64 (Int.tdiv n 60)) 60)) (Int.toNat 1) (Int.toNat ((ByteArray.size (two (IntKind.wrap IntKind.i64 (Int.tdiv n 3600)) ++ (ByteArray.mk #[58]) ++ two (Int.tmod (IntKind.wrap IntKind.i64 (Int.tdiv n 60)) 60)) : Nat) : Int))) + ByteArray.size (Utf8.encode (IntKind.wrap IntKind.i32 c)) : Nat) : Int) ≤ IntKind.max IntKind.i64)) (K (AV.tup [AV.str (ByteArray.extract (two (IntKind.wrap IntKind.i64 (Int.tdiv n 3600)) ++ (ByteArray.mk #[58]) ++ two (Int.tmod (IntKind.wrap IntKind.i64 (Int.tdiv n 60)) 60)) 1 (Int.toNat ((ByteArray.size (two (IntKind.wrap IntKind.i64 (Int.tdiv n 3600)) ++ (ByteArray.mk #[58]) ++ two (Int.tmod (IntKind.wrap IntKind.i64 (Int.tdiv n 60)) 60)) : Nat) : Int)) ++ Utf8.encode (IntKind.wrap IntKind.i32 c)), AV.int IntKind.i64 0])) False) (K (AV.tup [AV.str (ByteArray.extract (two (IntKind.wrap IntKind.i64 (Int.tdiv n 3600)) ++ (ByteArray.mk #[58]) ++ two (Int.tmod (IntKind.wrap IntKind.i64 (Int.tdiv n 60)) 60)) 1 (Int.toNat ((ByteArray.size (two (IntKind.wrap IntKind.i64 (Int.tdiv n 3600)) ++ (ByteArray.mk #[58]) ++ two (Int.tmod (IntKind.wrap IntKind.i64 (Int.tdiv n 60)) 60)) : Nat) : Int))), AV.int IntKind.i64 0])))) False) (brc (Int.tmod n 60 != 0) (brc (decide (0 ≤ Int.tmod n 60 ∧ Int.tmod n 60 ≤ 99)) (brc (decide (((ByteArray.size (ByteArray.mk #[58]) + ByteArray.size (two (Int.tmod n 60)) : Nat) : Int) ≤ IntKind.max IntKind.i64)) (brc (decide (((ByteArray.size (two (IntKind.wrap IntKind.i64 (Int.tdiv n 3600)) ++ (ByteArray.mk #[58]) ++ two (Int.tmod (IntKind.wrap IntKind.i64 (Int.tdiv n 60)) 60)) + ByteArray.size ((ByteArray.mk #[58]) ++ two (Int.tmod n 60)) : Nat) : Int) ≤ IntKind.max IntKind.i64)) (brc (c != 119) (brc (decide (((ByteArray.size (two (IntKind.wrap IntKind.i64 (Int.tdiv n 3600)) ++ (ByteArray.mk #[58]) ++ two (Int.tmod (IntKind.wrap IntKind.i64 (Int.tdiv n 60)) 60) ++ ((ByteArray.mk #[58]) ++ two (Int.tmod n 60))) + ByteArray.size (Utf8.encode (IntKind.wrap IntKind.i32 c)) : Nat) : Int) ≤ IntKind.max IntKind.i64)) (K (AV.tup [AV.str (two (IntKind.wrap IntKind.i64 (Int.tdiv n 3600)) ++ (ByteArray.mk #[58]) ++ two (Int.tmod (IntKind.wrap IntKind.i64 (Int.tdiv n 60)) 60) ++ ((ByteArray.mk #[58]) ++ two (Int.tmod n 60)) ++ Utf8.encode (IntKind.wrap IntKind.i32 c)), AV.int IntKind.i64 0])) False) (K (AV.tup [AV.str (two (IntKind.wrap IntKind.i64 (Int.tdiv n 3600)) ++ (ByteArray.mk #[58]) ++ two (Int.tmod (IntKind.wrap IntKind.i64 (Int.tdiv n 60)) 60) ++ ((ByteArray.mk #[58]) ++ two (Int.tmod n 60))), AV.int IntKind.i64 0]))) False) False) False) (brc (c != 119) (brc (decide (((ByteArray.size (two (IntKind.wrap IntKind.i64 (Int.tdiv n 3600)) ++ (ByteArray.mk #[58]) ++ two (Int.tmod (IntKind.wrap IntKind.i64 (Int.tdiv n 60)) 60)) + ByteArray.size (Utf8.encode (IntKind.wrap IntKind.i32 c)) : Nat) : Int) ≤ IntKind.max IntKind.i64)) (K (AV.tup [AV.str (two (IntKind.wrap IntKind.i64 (Int.tdiv n 3600)) ++ (ByteArray.mk #[58]) ++ two (Int.tmod (IntKind.wrap IntKind.i64 (Int.tdiv n 60)) 60) ++ Utf8.encode (IntKind.wrap IntKind.i32 c)), AV.int IntKind.i64 0])) False) (K (AV.tup [AV.str (two (IntKind.wrap IntKind.i64 (Int.tdiv n 3600)) ++ (ByteArray.mk #[58]) ++ two (Int.tmod (IntKind.wrap IntKind.i64 (Int.tdiv n 60)) 60)), AV.int IntKind.i64 0]))))) False) False) False) False) False) (brc (c == 115) (brc (decide (0 ≤ IntKind.wrap IntKind.i64 (Int.tdiv n 3600) ∧ IntKind.wrap IntKind.i64 (Int.tdiv n 3600) ≤ 99)) (brc (decide (((ByteArray.size (two (IntKind.wrap IntKind.i64 (Int.tdiv n 3600))) + ByteArray.size (ByteArray.mk #[58]) : Nat) : Int) ≤ IntKind.max IntKind.i64)) (brc (decide (0 ≤ Int.tmod (IntKind.wrap IntKind.i64 (Int.tdiv n 60)) 60 ∧ Int.tmod (IntKind.wrap IntKind.i64 (Int.tdiv n 60)) 60 ≤ 99)) (brc (decide (((ByteArray.size (two (IntKind.wrap IntKind.i64 (Int.tdiv n 3600)) ++ (ByteArray.mk #[58])) + ByteArray.size (two (Int.tmod (IntKind.wrap IntKind.i64 (Int.tdiv n 60)) 60)) : Nat) : Int) ≤ IntKind.max IntKind.i64)) (brc (decide (0 < ((ByteArray.size (two (IntKind.wrap IntKind.i64 (Int.tdiv n 3600)) ++ (ByteArray.mk #[58]) ++ two (Int.tmod (IntKind.wrap IntKind.i64 (Int.tdiv n 60)) 60)) : Nat) : Int))) (brc (((UInt8.toNat (Array.getD (ByteArray.data (two (IntKind.wrap IntKind.i64 (Int.tdiv n 3600)) ++ (ByteArray.mk #[58]) ++ two (Int.tmod (IntKind.wrap IntKind.i64 (Int.tdiv n 60)) 60))) (Int.toNat 0) 0) : Nat) : Int) == 48) (brc (decide (1 ≤ ((ByteArray.size (two (IntKind.wrap IntKind.i64 (Int.tdiv n 3600)) ++ (ByteArray.mk #[58]) ++ two (Int.tmod (IntKind.wrap IntKind.i64 (Int.tdiv n 60)) 60)) : Nat) : Int)) && decide (((ByteArray.size (two (IntKind.wrap IntKind.i64 (Int.tdiv n 3600)) ++ (ByteArray.mk #[58]) ++ two (Int.tmod (IntKind.wrap IntKind.i64 (Int.tdiv n 60)) 60)) : Nat) : Int) ≤ ((ByteArray.size (two (IntKind.wrap IntKind.i64 (Int.tdiv n 3600)) ++ (ByteArray.mk #[58]) ++ two (Int.tmod (IntKind.wrap IntKind.i64 (Int.tdiv n 60)) 60)) : Nat) : Int))) (brc (Int.tmod n 60 != 0) (brc (decide (0 ≤ Int.tmod n 60 ∧ Int.tmod n 60 ≤ 99)) (brc (decide (((ByteArray.size (ByteArray.mk #[58]) + ByteArray.size (two (Int.tmod n 60)) : Nat) : Int) ≤ IntKind.max IntKind.i64)) (brc (decide (((ByteArray.size (ByteArray.extract (two (IntKind.wrap IntKind.i64 (Int.tdiv n 3600)) ++ (ByteArray.mk #[58]) ++ two (Int.tmod (IntKind.wrap IntKind.i64 (Int.tdiv n 60)) 60)) (Int.toNat 1) (Int.toNat ((ByteArray.size (two (IntKind.wrap IntKind.i64 (Int.tdiv n 3600)) ++ (ByteArray.mk #[58]) ++ two (Int.tmod (IntKind.wrap IntKind.i64 (Int.tdiv n 60)) 60)) : Nat) : Int))) + ByteArray.size ((ByteArray.mk #[58]) ++ two (Int.tmod n 60)) : Nat) : Int) ≤ IntKind.max IntKind.i64)) (brc (c != 119) (brc (decide (((ByteArray.size (ByteArray.extract (two (IntKind.wrap IntKind.i64 (Int.tdiv n 3600)) ++ (ByteArray.mk #[58]) ++ two (Int.tmod (IntKind.wrap IntKind.i64 (Int.tdiv n 60)) 60)) (Int.toNat 1) (Int.toNat ((ByteArray.size (two (IntKind.wrap IntKind.i64 (Int.tdiv n 3600)) ++ (ByteArray.mk #[58]) ++ two (Int.tmod (IntKind.wrap IntKind.i64 (Int.tdiv n 60)) 60)) : Nat) : Int)) ++ ((ByteArray.mk #[58]) ++ two (Int.tmod n 60))) + ByteArray.size (Utf8.encode (IntKind.wrap IntKind.i32 c)) : Nat) : Int) ≤ IntKind.max IntKind.i64)) (K (AV.tup [AV.str (ByteArray.extract (two (IntKind.wrap IntKind.i64 (Int.tdiv n 3600)) ++ (ByteArray.mk #[58]) ++ two (Int.tmod (IntKind.wrap IntKind.i64 (Int.tdiv n 60)) 60)) 1 (Int.toNat ((ByteArray.size (two (IntKind.wrap IntKind.i64 (Int.tdiv n 3600)) ++ (ByteArray.mk #[58]) ++ two (Int.tmod (IntKind.wrap IntKind.i64 (Int.tdiv n 60)) 60)) : Nat) : Int)) ++ ((ByteArray.mk #[58]) ++ two (Int.tmod n 60)) ++ Utf8.encode (IntKind.wrap IntKind.i32 c)), AV.int IntKind.i64 0])) False) (K (AV.tup [AV.str (ByteArray.extract (two (IntKind.wrap IntKind.i64 (Int.tdiv n 3600)) ++ (ByteArray.mk #[58]) ++ two (Int.tmod (IntKind.wrap IntKind.i64 (Int.tdiv n 60)) 60)) 1 (Int.toNat ((ByteArray.size (two (IntKind.wrap IntKind.i64 (Int.tdiv n 3600)) ++ (ByteArray.mk #[58]) ++ two (Int.tmod (IntKind.wrap IntKind.i64 (Int.tdiv n 60)) 60)) : Nat) : Int)) ++ ((ByteArray.mk #[58]) ++ two (Int.tmod n 60))), AV.int IntKind.i64 0]))) False) False) False) (brc (c != 119) (brc (decide (((ByteArray.size (ByteArray.extract (two (IntKind.wrap IntKind.i64 (Int.tdiv n 3600)) ++ (ByteArray.mk #[58]) ++ two (Int.tmod (IntKind.wrap IntKind.i64 (Int.tdiv n 60)) 60)) (Int.toNat 1) (Int.toNat ((ByteArray.size (two (IntKind.wrap IntKind.i64 (Int.tdiv n 3600)) ++ (ByteArray.mk #[58]) ++ two (Int.tmod (IntKind.wrap IntKind.i64 (Int.tdiv n 60)) 60)) : Nat) : Int))) + ByteArray.size (Utf8.encode (IntKind.wrap IntKind.i32 c)) : Nat) : Int) ≤ IntKind.max IntKind.i64)) (K (AV.tup [AV.str (ByteArray.extract (two (IntKind.wrap IntKind.i64 (Int.tdiv n 3600)) ++ (ByteArray.mk #[58]) ++ two (Int.tmod (IntKind.wrap IntKind.i64 (Int.tdiv n 60)) 60)) 1 (Int.toNat ((ByteArray.size (two (IntKind.wrap IntKind.i64 (Int.tdiv n 3600)) ++ (ByteArray.mk #[58]) ++ two (Int.tmod (IntKind.wrap IntKind.i64 (Int.tdiv n 60)) 60)) : Nat) : Int)) ++ Utf8.encode (IntKind.wrap IntKind.i32 c)), AV.int IntKind.i64 0])) False) (K (AV.tup [AV.str (ByteArray.extract (two (IntKind.wrap IntKind.i64 (Int.tdiv n 3600)) ++ (ByteArray.mk #[58]) ++ two (Int.tmod (IntKind.wrap IntKind.i64 (Int.tdiv n 60)) 60)) 1 (Int.toNat ((ByteArray.size (two (IntKind.wrap IntKind.i64 (Int.tdiv n 3600)) ++ (ByteArray.mk #[58]) ++ two (Int.tmod (IntKind.wrap IntKind.i64 (Int.tdiv n 60)) 60)) : Nat) : Int))), AV.int IntKind.i64 0])))) False) (brc (Int.tmod n 60 != 0) (brc (decide (0 ≤ Int.tmod n 60 ∧ Int.tmod n 60 ≤ 99)) (brc (decide (((ByteArray.size (ByteArray.mk #[58]) + ByteArray.size (two (Int.tmod n 60)) : Nat) : Int) ≤ IntKind.max IntKind.i64)) (brc (decide (((ByteArray.size (two (IntKind.wrap IntKind.i64 (Int.tdiv n 3600)) ++ (ByteArray.mk #[58]) ++ two (Int.tmod (IntKind.wrap IntKind.i64 (Int.tdiv n 60)) 60)) + ByteArray.size ((ByteArray.mk #[58]) ++ two (Int.tmod n 60)) : Nat) : Int) ≤ IntKind.max IntKind.i64)) (brc (c != 119) (brc (decide (((ByteArray.size (two (IntKind.wrap IntKind.i64 (Int.tdiv n 3600)) ++ (ByteArray.mk #[58]) ++ two (Int.tmod (IntKind.wrap IntKind.i64 (Int.tdiv n 60)) 60) ++ ((ByteArray.mk #[58]) ++ two (Int.tmod n 60))) + ByteArray.size (Utf8.encode (IntKind.wrap IntKind.i32 c)) : Nat) : Int) ≤ IntKind.max IntKind.i64)) (K (AV.tup [AV.str (two (IntKind.wrap IntKind.i64 (Int.tdiv n 3600)) ++ (ByteArray.mk #[58]) ++ two (Int.tmod (IntKind.wrap IntKind.i64 (Int.tdiv n 60)) 60) ++ ((ByteArray.mk #[58]) ++ two (Int.tmod n 60)) ++ Utf8.encode (IntKind.wrap IntKind.i32 c)), AV.int IntKind.i64 0])) False) (K (AV.tup [AV.str (two (IntKind.wrap IntKind.i64 (Int.tdiv n 3600)) ++ (ByteArray.mk #[58]) ++ two (Int.tmod (IntKind.wrap IntKind.i64 (Int.tdiv n 60)) 60) ++ ((ByteArray.mk #[58]) ++ two (Int.tmod n 60))), AV.int IntKind.i64 0]))) False) False) False) (brc (c != 119) (brc (decide (((ByteArray.size (two (IntKind.wrap IntKind.i64 (Int.tdiv n 3600)) ++ (ByteArray.mk #[58]) ++ two (Int.tmod (IntKind.wrap IntKind.i64 (Int.tdiv n 60)) 60)) + ByteArray.size (Utf8.encode (IntKind.wrap IntKind.i32 c)) : Nat) : Int) ≤ IntKind.max IntKind.i64)) (K (AV.tup [AV.str (two (IntKind.wrap IntKind.i64 (Int.tdiv n 3600)) ++ (ByteArray.mk #[58]) ++ two (Int.tmod (IntKind.wrap IntKind.i64 (Int.tdiv n 60)) 60) ++ Utf8.encode (IntKind.wrap IntKind.i32 c)), AV.int IntKind.i64 0])) False) (K (AV.tup [AV.str (two (IntKind.wrap IntKind.i64 (Int.tdiv n 3600)) ++ (ByteArray.mk #[58]) ++ two (Int.tmod (IntKind.wrap IntKind.i64 (Int.tdiv n 60)) 60)), AV.int IntKind.i64 0]))))) False) False) False) False) False) (brc (!c == 117) (K (AV.tup [AV.str (ByteArray.mk #[]), AV.int IntKind.i64 1])) (brc (decide (0 ≤ IntKind.wrap IntKind.i64 (Int.tdiv n 3600) ∧ IntKind.wrap IntKind.i64 (Int.tdiv n 3600) ≤ 99)) (brc (decide (((ByteArray.size (two (IntKind.wrap IntKind.i64 (Int.tdiv n 3600))) + ByteArray.size (ByteArray.mk #[58]) : Nat) : Int) ≤ IntKind.max IntKind.i64)) (brc (decide (0 ≤ Int.tmod (IntKind.wrap IntKind.i64 (Int.tdiv n 60)) 60 ∧ Int.tmod (IntKind.wrap IntKind.i64 (Int.tdiv n 60)) 60 ≤ 99)) (brc (decide (((ByteArray.size (two (IntKind.wrap IntKind.i64 (Int.tdiv n 3600)) ++ (ByteArray.mk #[58])) + ByteArray.size (two (Int.tmod (IntKind.wrap IntKind.i64 (Int.tdiv n 60)) 60)) : Nat) : Int) ≤ IntKind.max IntKind.i64)) (brc (decide (0 < ((ByteArray.size (two (IntKind.wrap IntKind.i64 (Int.tdiv n 3600)) ++ (ByteArray.mk #[58]) ++ two (Int.tmod (IntKind.wrap IntKind.i64 (Int.tdiv n 60)) 60)) : Nat) : Int))) (brc (((UInt8.toNat (Array.getD (ByteArray.data (two (IntKind.wrap IntKind.i64 (Int.tdiv n 3600)) ++ (ByteArray.mk #[58]) ++ two (Int.tmod (IntKind.wrap IntKind.i64 (Int.tdiv n 60)) 60))) (Int.toNat 0) 0) : Nat) : Int) == 48) (brc (decide (1 ≤ ((ByteArray.size (two (IntKind.wrap IntKind.i64 (Int.tdiv n 3600)) ++ (ByteArray.mk #[58]) ++ two (Int.tmod (IntKind.wrap IntKind.i64 (Int.tdiv n 60)) 60)) : Nat) : Int)) && decide (((ByteArray.size (two (IntKind.wrap IntKind.i64 (Int.tdiv n 3600)) ++ (ByteArray.mk #[58]) ++ two (Int.tmod (IntKind.wrap IntKind.i64 (Int.tdiv n 60)) 60)) : Nat) : Int) ≤ ((ByteArray.size (two (IntKind.wrap IntKind.i64 (Int.tdiv n 3600)) ++ (ByteArray.mk #[58]) ++ two (Int.tmod (IntKind.wrap IntKind.i64 (Int.tdiv n 60)) 60)) : Nat) : Int))) (brc (Int.tmod n 60 != 0) (brc (decide (0 ≤ Int.tmod n 60 ∧ Int.tmod n 60 ≤ 99)) (brc (decide (((ByteArray.size (ByteArray.mk #[58]) + ByteArray.size (two (Int.tmod n 60)) : Nat) : Int) ≤ IntKind.max IntKind.i64)) (brc (decide (((ByteArray.size (ByteArray.extract (two (IntKind.wrap IntKind.i64 (Int.tdiv n 3600)) ++ (ByteArray.mk #[58]) ++ two (Int.tmod (IntKind.wrap IntKind.i64 (Int.tdiv n 60)) 60)) (Int.toNat 1) (Int.toNat ((ByteArray.size (two (IntKind.wrap IntKind.i64 (Int.tdiv n 3600)) ++ (ByteArray.mk #[58]) ++ two (Int.tmod (IntKind.wrap IntKind.i64 (Int.tdiv n 60)) 60)) : Nat) : Int))) + ByteArray.size ((ByteArray.mk #[58]) ++ two (Int.tmod n 60)) : Nat) : Int) ≤ IntKind.max IntKind.i64)) (brc (c != 119) (brc (decide (((ByteArray.size (ByteArray.extract (two (IntKind.wrap IntKind.i64 (Int.tdiv n 3600)) ++ (ByteArray.mk #[58]) ++ two (Int.tmod (IntKind.wrap IntKind.i64 (Int.tdiv n 60)) 60)) (Int.toNat 1) (Int.toNat ((ByteArray.size (two (IntKind.wrap IntKind.i64 (Int.tdiv n 3600)) ++ (ByteArray.mk #[58]) ++ two (Int.tmod (IntKind.wrap IntKind.i64 (Int.tdiv n 60)) 60)) : Nat) : Int)) ++ ((ByteArray.mk #[58]) ++ two (Int.tmod n 60))) + ByteArray.size (Utf8.encode (IntKind.wrap IntKind.i32 c)) : Nat) : Int) ≤ IntKind.max IntKind.i64)) (K (AV.tup [AV.str (ByteArray.extract (two (IntKind.wrap IntKind.i64 (Int.tdiv n 3600)) ++ (ByteArray.mk #[58]) ++ two (Int.tmod (IntKind.wrap IntKind.i64 (Int.tdiv n 60)) 60)) 1 (Int.toNat ((ByteArray.size (two (IntKind.wrap IntKind.i64 (Int.tdiv n 3600)) ++ (ByteArray.mk #[58]) ++ two (Int.tmod (IntKind.wrap IntKind.i64 (Int.tdiv n 60)) 60)) : Nat) : Int)) ++ ((ByteArray.mk #[58]) ++ two (Int.tmod n 60)) ++ Utf8.encode (IntKind.wrap IntKind.i32 c)), AV.int IntKind.i64 0])) False) (K (AV.tup [AV.str (ByteArray.extract (two (IntKind.wrap IntKind.i64 (Int.tdiv n 3600)) ++ (ByteArray.mk #[58]) ++ two (Int.tmod (IntKind.wrap IntKind.i64 (Int.tdiv n 60)) 60)) 1 (Int.toNat ((ByteArray.size (two (IntKind.wrap IntKind.i64 (Int.tdiv n 3600)) ++ (ByteArray.mk #[58]) ++ two (Int.tmod (IntKind.wrap IntKind.i64 (Int.tdiv n 60)) 60)) : Nat) : Int)) ++ ((ByteArray.mk #[58]) ++ two (Int.tmod n 60))), AV.int IntKind.i64 0]))) False) False) False) (brc (c != 119) (brc (decide (((ByteArray.size (ByteArray.extract (two (IntKind.wrap IntKind.i64 (Int.tdiv n 3600)) ++ (ByteArray.mk #[58]) ++ two (Int.tmod (IntKind.wrap IntKind.i64 (Int.tdiv n 60)) 60)) (Int.toNat 1) (Int.toNat ((ByteArray.size (two (IntKind.wrap IntKind.i64 (Int.tdiv n 3600)) ++ (ByteArray.mk #[58]) ++ two (Int.tmod (IntKind.wrap IntKind.i64 (Int.tdiv n 60)) 60)) : Nat) : Int))) + ByteArray.size (Utf8.encode (IntKind.wrap IntKind.i32 c)) : Nat) : Int) ≤ IntKind.max IntKind.i64)) (K (AV.tup [AV.str (ByteArray.extract (two (IntKind.wrap IntKind.i64 (Int.tdiv n 3600)) ++ (ByteArray.mk #[58]) ++ two (Int.tmod (IntKind.wrap IntKind.i64 (Int.tdiv n 60)) 60)) 1 (Int.toNat ((ByteArray.size (two (IntKind.wrap IntKind.i64 (Int.tdiv n 3600)) ++ (ByteArray.mk #[58]) ++ two (Int.tmod (IntKind.wrap IntKind.i64 (Int.tdiv n 60)) 60)) : Nat) : Int)) ++ Utf8.encode (IntKind.wrap IntKind.i32 c)), AV.int IntKind.i64 0])) False) (K (AV.tup [AV.str (ByteArray.extract (two (IntKind.wrap IntKind.i64 (Int.tdiv n 3600)) ++ (ByteArray.mk #[58]) ++ two (Int.tmod (IntKind.wrap IntKind.i64 (Int.tdiv n 60)) 60)) 1 (Int.toNat ((ByteArray.size (two (IntKind.wrap IntKind.i64 (Int.tdiv n 3600)) ++ (ByteArray.mk #[58]) ++ two (Int.tmod (IntKind.wrap IntKind.i64 (Int.tdiv n 60)) 60)) : Nat) : Int))), AV.int IntKind.i64 0])))) False) (brc (Int.tmod n 60 != 0) (brc (decide (0 ≤ Int.tmod n 60 ∧ Int.tmod n 60 ≤ 99)) (brc (decide (((ByteArray.size (ByteArray.mk #[58]) + ByteArray.size (two (Int.tmod n 60)) : Nat) : Int) ≤ IntKind.max IntKind.i64)) (brc (decide (((ByteArray.size (two (IntKind.wrap IntKind.i64 (Int.tdiv n 3600)) ++ (ByteArray.mk #[58]) ++ two (Int.tmod (IntKind.wrap IntKind.i64 (Int.tdiv n 60)) 60)) + ByteArray.size ((ByteArray.mk #[58]) ++ two (Int.tmod n 60)) : Nat) : Int) ≤ IntKind.max IntKind.i64)) (brc (c != 119) (brc (decide (((ByteArray.size (two (IntKind.wrap IntKind.i64 (Int.tdiv n 3600)) ++ (ByteArray.mk #[58]) ++ two (Int.tmod (IntKind.wrap IntKind.i64 (Int.tdiv n 60)) 60) ++ ((ByteArray.mk #[58]) ++ two (Int.tmod n 60))) + ByteArray.size (Utf8.encode (IntKind.wrap IntKind.i32 c)) : Nat) : Int) ≤ IntKind.max IntKind.i64)) (K (AV.tup [AV.str (two (IntKind.wrap IntKind.i64 (Int.tdiv n 3600)) ++ (ByteArray.mk #[58]) ++ two (Int.tmod (IntKind.wrap IntKind.i64 (Int.tdiv n 60)) 60) ++ ((ByteArray.mk #[58]) ++ two (Int.tmod n 60)) ++ Utf8.encode (IntKind.wrap IntKind.i32 c)), AV.int IntKind.i64 0])) False) (K (AV.tup [AV.str (two (IntKind.wrap IntKind.i64 (Int.tdiv n 3600)) ++ (ByteArray.mk #[58]) ++ two (Int.tmod (IntKind.wrap IntKind.i64 (Int.tdiv n 60)) 60) ++ ((ByteArray.mk #[58]) ++ two (Int.tmod n 60))), AV.int IntKind.i64 0]))) False) False) False) (brc (c != 119) (brc (decide (((ByteArray.size (two (IntKind.wrap IntKind.i64 (Int.tdiv n 3600)) ++ (ByteArray.mk #[58]) ++ two (Int.tmod (IntKind.wrap IntKind.i64 (Int.tdiv n 60)) 60)) + ByteArray.size (Utf8.encode (IntKind.wrap IntKind.i32 c)) : Nat) : Int) ≤ IntKind.max IntKind.i64)) (K (AV.tup [AV.str (two (IntKind.wrap IntKind.i64 (Int.tdiv n 3600)) ++ (ByteArray.mk #[58]) ++ two (Int.tmod (IntKind.wrap IntKind.i64 (Int.tdiv n 60)) 60) ++ Utf8.encode (IntKind.wrap IntKind.i32 c)), AV.int IntKind.i64 0])) False) (K (AV.tup [AV.str (two (IntKind.wrap IntKind.i64 (Int.tdiv n 3600)) ++ (ByteArray.mk #[58]) ++ two (Int.tmod (IntKind.wrap IntKind.i64 (Int.tdiv n 60)) 60)), AV.int IntKind.i64 0]))))) False) False) False) False) False)))) (K (AV.tup [AV.str (ByteArray.mk #[]), AV.int IntKind.i64 1]))) (K (AV.tup [AV.str (ByteArray.mk #[]), AV.int IntKind.i64 1]))) := by kernel_rfl
set_option maxRecDepth 100000 in
theorem tat_no {n c : Int} (hb : ¬ AtOk n c) : AF (tab [(187, cyTwo)]) 6 183 [.agg [.int .i64 n, .int .u8 c]] fun u => ∃ s, u = .tup [.str s, .int .i64 1] := by
 rw [textat_vc]
 repeat' (with_reducible refine kA (fun h => ?_) (fun h => ?_))
 all_goals first
  | exact ⟨_, rfl⟩
  | (exfalso; refine hb ?_; clear hb; unfold AtOk; simp only [decide_eq_true_eq, decide_eq_false_iff_not, Bool.not_eq_true', Bool.not_eq_false', beq_iff_eq, beq_eq_false_iff_ne, bne_iff_ne, ne_eq, Bool.and_eq_true, Bool.and_eq_false_iff, Bool.true_and] at *; omega)
set_option maxRecDepth 100000 in
theorem tat_yes {n c : Int} (h : AtOk n c) : AF (tab [(187, cyTwo)]) 6 183 [.agg [.int .i64 n, .int .u8 c]] fun u => ∃ s, u = .tup [.str s, .int .i64 0] := by
 rw [textat_vc]
 have e1 : Int.tdiv n 3600 = n / 3600 := td_pos h.1
 have e2 : Int.tdiv n 60 = n / 60 := td_pos h.1
 have e3 : Int.tmod n 60 = n % 60 := tm_pos h.1
 have e4 : Int.tmod (n / 60) 60 = n / 60 % 60 := tm_pos (by have := h.1; omega)
 obtain ⟨h1, h2, h3⟩ := h
 rw [e1, e2, e3, wv (x := n / 3600) (by omega) (by omega), wv (x := n / 60) (by omega) (by omega), e4]
 clear e1 e2 e3 e4
 have u1 : (Utf8.encode (IntKind.wrap .i32 115)).size = 1 := by decide
 have u2 : (Utf8.encode (IntKind.wrap .i32 117)).size = 1 := by decide
 rcases h3 with rfl | rfl | rfl
 all_goals
  repeat' (with_reducible refine kA (fun h => ?_) (fun h => ?_))
  all_goals first
   | exact ⟨_, rfl⟩
   | (exfalso; simp [bK, bV, u1, u2, decide_eq_false_iff_not, ByteArray.size_append, ByteArray.size_extract, IntKind.max, IntKind.signed, IntKind.bits] at *; omega)
   | (exfalso; simp [bK, bV, u1, u2, decide_eq_false_iff_not, ByteArray.size_append, ByteArray.size_extract, IntKind.max, IntKind.signed, IntKind.bits] at *; done)
theorem cyAt_ok : COk Tryz.prog 183 cyAt := by
 intro args p v hc hp w A hA
 unfold cyAt at hc
 split at hc
 case h_2 => cases hc
 rename_i n c
 simp only [Option.some.injEq, Prod.mk.injEq] at hc
 obtain ⟨_, rfl⟩ := hc
 by_cases h : AtOk n c
 · rw [if_pos h]
   exact af_text (kB cyTwo_ok bA) (by kernel_rfl) (tat_yes h) hA
 · rw [if_neg h]
   exact af_text (kB cyTwo_ok bA) (by kernel_rfl) (tat_no h) hA
end
end Go.Proofs.YtimgphlfaninnaaGreat.P

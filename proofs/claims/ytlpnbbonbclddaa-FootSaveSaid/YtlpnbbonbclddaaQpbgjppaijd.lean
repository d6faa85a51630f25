/- The abstract machine: arithmetic, comparisons, structs, slices and strings come to the same in the model. -/
import Derived.WideLaws
import Derived.Test.YtlpnbbonbclddaaQflhhdjjccn
import Derived.ChangeKeysEq
namespace Go.Proofs.Ytlpnbbonbclddaa.A
open Go Go.RowKit
set_option linter.unusedVariables false
set_option linter.unusedSimpArgs false
variable {P : Program} {ρ : Names} {W w : World} {h : Heap}
theorem aite_ok {q : Bool} {x y : AV} {X Y : Value} (hx : RV ρ W x X) (hy : RV ρ W y Y) : RV ρ W (aite q x y) (if q then X else Y) := by
  cases q
  · unfold aite
    cases hx <;> cases hy <;> simp <;> (try split) <;> first | (constructor <;> assumption) | (subst_vars; constructor; done) | skip
  · unfold aite
    cases hx <;> cases hy <;> simp <;> (try split) <;> first | (constructor <;> assumption) | (subst_vars; constructor; done) | skip
theorem part_ok {t : TypeId} {l : List AV} {L : List Value} {off : Nat} {v : AV} (hl : RL ρ W l L) (hq : partA P t l off = some v) (w : World) : ∃ V, (part t L.toArray off).run P w = .ok V w ∧ RV ρ W v V := by
  unfold partA at hq
  split at hq
  · rename_i n h1 h2
    split at hq
    · simp at hq; subst hq
      refine ⟨.agg ((L.take (off + n)).drop off).toArray, ?_, .agg ((hl.take _).drop _)⟩
      simp [part, run_isAgg_row h1, run_size h2, List.extract_eq_take_drop]
      rw [List.drop_take, Nat.add_sub_cancel_left]
    · cases hq
  · rename_i n h1 h2
    obtain ⟨V, g1, g2⟩ := hl.get _ _ hq
    exact ⟨V, by simp [part, run_isAgg_flat h1, g1], g2⟩
  · cases hq
theorem eqFs_ok {f : TypeId → AV → AV → Option Bool} {d : Nat}
    (hf : ∀ t x y b X Y, f t x y = some b → RV ρ W x X → RV ρ W y Y → ∀ w, (Op.equalIn d t X Y).run P w = .ok b w) {xs ys : List AV} {Xs Ys : List Value} (hx : RL ρ W xs Xs) (hy : RL ρ W ys Ys) :
    ∀ (fs : List Field) (b : Bool), eqFs f P xs ys fs = some b → ∀ w, (Op.eqFields d Xs.toArray Ys.toArray fs).run P w = .ok b w
  | [], b, hq, w => by simp [eqFs] at hq; subst hq; simp [Op.eqFields]
  | fd :: fs, b, hq, w => by
    simp only [eqFs] at hq
    simp only [Op.eqFields]
    split at hq
    case isFalse hn => rw [if_neg hn]; exact eqFs_ok hf hx hy fs b hq w
    case isTrue hn =>
      rw [if_pos hn]
      have key : ∀ x y, partA P fd.type xs fd.offset = some x → partA P fd.type ys fd.offset = some y → ∀ b1 r, f fd.type x y = some b1 → eqFs f P xs ys fs = some r → b = (b1 && r) →
          ((do let a ← part fd.type Xs.toArray fd.offset; let b ← part fd.type Ys.toArray fd.offset; let r ← Op.equalIn d fd.type a b; if (!r) = true then pure false else Op.eqFields d Xs.toArray Ys.toArray fs) : Sem Bool).run P w = .ok b w := by
        intro x y h1 h2 b1 r h3 h4 h5
        obtain ⟨X, g1, g2⟩ := part_ok hx h1 w
        obtain ⟨Y, g3, g4⟩ := part_ok hy h2 w
        simp only [Sem.run_bind, g1, g3, Result.andThen_ok, hf _ _ _ _ _ _ h3 g2 g4 w]
        cases b1
        · simp [h5]
        · simpa [h5] using eqFs_ok hf hx hy fs r h4 w
      split at hq
      · rename_i n h1 h2
        split at hq
        · rename_i b1 r h3 h4
          simp at hq
          by_cases hlx : fd.offset + n ≤ xs.length ∧ fd.offset + n ≤ ys.length
          · exact key _ _ (by simp only [partA, h1, h2]; rw [if_pos hlx.1]) (by simp only [partA, h1, h2]; rw [if_pos hlx.2]) b1 r h3 h4 hq.symm
          · -- the parts of too short lists: the model takes what is there, as here
            have hp : ∀ {zs : List AV} {Zs : List Value}, RL ρ W zs Zs → (part fd.type Zs.toArray fd.offset).run P w = .ok (.agg ((Zs.take (fd.offset + n)).drop fd.offset).toArray) w := fun _ => by
              simp [part, run_isAgg_row h1, run_size h2, List.extract_eq_take_drop]
              rw [List.drop_take, Nat.add_sub_cancel_left]
            simp only [Sem.run_bind, hp hx, hp hy, Result.andThen_ok, hf _ _ _ _ _ _ h3 (.agg ((hx.take _).drop _)) (.agg ((hy.take _).drop _)) w]
            cases b1
            · simp [← hq]
            · simpa [← hq] using eqFs_ok hf hx hy fs r h4 w
        · cases hq
      · rename_i n h1 h2
        split at hq
        · rename_i x y h3 h4
          split at hq
          · rename_i b1 r h5 h6
            simp at hq
            exact key x y (by simp only [partA, h1, h2]; exact h3) (by simp only [partA, h1, h2]; exact h4) b1 r h5 h6 hq.symm
          · cases hq
        · cases hq
      · cases hq
theorem eqEs_ok {f : TypeId → AV → AV → Option Bool} {d : Nat}
    (hf : ∀ t x y b X Y, f t x y = some b → RV ρ W x X → RV ρ W y Y → ∀ w, (Op.equalIn d t X Y).run P w = .ok b w) {xs ys : List AV} {Xs Ys : List Value} (hx : RL ρ W xs Xs) (hy : RL ρ W ys Ys) {e : TypeId} {c : Nat} :
    ∀ (is : List Nat) (b : Bool), eqEs f P e c xs ys is = some b → ∀ w, (Op.eqItems d e c Xs.toArray Ys.toArray is).run P w = .ok b w
  | [], b, hq, w => by simp [eqEs] at hq; subst hq; simp [Op.eqItems]
  | i :: is, b, hq, w => by
    simp only [eqEs] at hq
    split at hq
    · rename_i x y h1 h2
      split at hq
      · rename_i b1 r h3 h4
        simp at hq
        obtain ⟨X, g1, g2⟩ := part_ok hx h1 w
        obtain ⟨Y, g3, g4⟩ := part_ok hy h2 w
        simp only [Op.eqItems, Sem.run_bind, g1, g3, Result.andThen_ok, hf _ _ _ _ _ _ h3 g2 g4 w]
        cases b1
        · simp [← hq]
        · simpa [← hq] using eqEs_ok hf hx hy is r h4 w
      · cases hq
    · cases hq
theorem fieldsOf_eq {t : TypeId} {fs : Array Field} (hu : P.underlying t = some (.struct fs)) : P.fieldsOf t = fs := by simp [Program.fieldsOf, hu]
theorem eqT_ok : ∀ (m d : Nat) (t : TypeId) (x y : AV) (b : Bool) (X Y : Value), eqT P m t x y = some b → RV ρ W x X → RV ρ W y Y → ∀ w, (Op.equalIn (d + m) t X Y).run P w = .ok b w := by
  intro m
  induction m with
  | zero => intro d t x y b X Y hq; simp [eqT] at hq
  | succ m ih =>
    intro d t x y b X Y hq hx hy w
    simp only [eqT] at hq
    rw [← Nat.add_assoc]
    split at hq
    · rename_i hu; cases hx; cases hy; simp at hq; subst hq; exact run_equalIn_bool' w _ t _ _ hu
    · rename_i hu; cases hx; cases hy
      split at hq
      · rename_i hk; subst hk; simp at hq; subst hq; exact run_equalIn_int w _ t _ _ _ _ hu
      · cases hq
    · rename_i hu; cases hx; cases hy; simp at hq; subst hq; exact run_equalIn_string w _ t _ _ hu
    · rename_i fs xs ys hu
      split at hq
      · cases hq
      · rename_i hst
        cases hx with | agg hx =>
        cases hy with | agg hy =>
        rw [run_equalIn_struct w (d + m) t _ _ (by rw [fieldsOf_eq hu]; exact hu) (by simpa using hst), fieldsOf_eq hu]
        exact eqFs_ok (fun t x y b X Y hq hx hy w => ih d t x y b X Y hq hx hy w) hx hy _ _ hq w
    · rename_i n e xs ys hu
      split at hq
      · rename_i c hc
        cases hx with | agg hx =>
        cases hy with | agg hy =>
        unfold sizeT at hc
        cases hi : P.info? e with
        | none => simp [hi] at hc
        | some i =>
          simp [hi] at hc
          rw [run_equalIn_array w (d + m) _ _ hu hi, show P.cellsOf e = c by simp [Program.cellsOf, hi, hc]]
          exact eqEs_ok (fun t x y b X Y hq hx hy w => ih d t x y b X Y hq hx hy w) hx hy _ _ hq w
      · cases hq
    · cases hq
theorem eqGuard_flat (op : BinOp) (t : TypeId) (x y : Operand) {X Y : Value} (hX : X ≠ .nilIface) (hX2 : ∀ c, X ≠ .agg c) (w : World) : (eqGuard op t x y X Y).run P w = .ok () w := by
  unfold eqGuard
  cases op <;> simp <;> cases X <;> simp_all
theorem binA_ok {op : BinOp} {t : TypeId} {ox oy : Operand} {x y : AV} {X Y : Value} {v : AV} (hx : RV ρ W x X) (hy : RV ρ W y Y) (hq : binA P op t x y = some (true, v)) (w : World) :
    ∃ V, ((do eqGuard op t ox oy X Y; binOp op t X Y) : Sem Value).run P w = .ok V w ∧ RV ρ W v V := by
  unfold binA at hq
  split at hq
  · rename_i k a k' b
    cases hx; cases hy
    have hg := eqGuard_flat (P := P) op t ox oy (X := .int k a) (Y := .int k' b) (by simp) (by simp) w
    simp only [Sem.run_bind, hg, Result.andThen_ok]
    split at hq
    · simp [intShift] at hq
      obtain ⟨h0, rfl⟩ := hq
      exact ⟨_, by simp only [binOp, Op.shift]; rw [if_neg (by omega)]; rfl, by constructor⟩
    · simp [intShift] at hq
      obtain ⟨h0, rfl⟩ := hq
      exact ⟨_, by simp only [binOp, Op.shift]; rw [if_neg (by omega)]; rfl, by constructor⟩
    · rename_i n1 n2
      split at hq
      · rename_i hk
        subst hk
        have hb : binOp op t (.int k a) (.int k b) = (match op with
            | .add | .sub | .mul => Op.intArith op k a b
            | .quo | .rem => Op.intDiv op k a b
            | .and | .or | .xor | .andNot => Op.intBits op k a b
            | _ => Op.intCmp op a b) := by
          cases op <;> first | exact (n1 rfl).elim | exact (n2 rfl).elim | simp [binOp]
        rw [hb]
        cases op <;> simp [intBin] at hq <;> first
          | (subst hq; exact ⟨_, rfl, by constructor⟩)
          | (obtain ⟨h0, rfl⟩ := hq; exact ⟨_, by simp only [Op.intDiv]; rw [if_neg h0]; rfl, by constructor⟩)
      · cases hq
  · rename_i a b
    cases hx; cases hy
    have hg := eqGuard_flat (P := P) op t ox oy (X := .string a) (Y := .string b) (by simp) (by simp) w
    simp only [Sem.run_bind, hg, Result.andThen_ok]
    cases op <;> simp [strBin] at hq <;> first
      | (subst hq; exact ⟨_, rfl, by constructor⟩)
      | (obtain ⟨h0, rfl⟩ := hq
         refine ⟨.string (a ++ b), ?_, by constructor⟩
         simp only [binOp, Op.stringOp]
         rw [if_neg (by have : ((a.size + b.size : Nat) : Int) ≤ IntKind.i64.max := by simpa using h0
                        omega)]
         rfl)
  · rename_i a b
    have h2 := hq
    cases hx; cases hy
    have hg := eqGuard_flat (P := P) op t ox oy (X := .bool a) (Y := .bool b) (by simp) (by simp) w
    simp only [Sem.run_bind, hg, Result.andThen_ok]
    cases op <;> simp only [reduceCtorEq] at hq <;> simp only [Option.map_eq_some_iff, Prod.mk.injEq, true_and] at hq
    · obtain ⟨r, hr, rfl⟩ := hq
      have := eqT_ok (ρ := ρ) (W := W) 1 9999 t _ _ r _ _ hr (.bool a) (.bool b) w
      exact ⟨.bool r, by simp [binOp, Op.equal, Op.maxDepth, this], by constructor⟩
    · obtain ⟨r, hr, rfl⟩ := hq
      have := eqT_ok (ρ := ρ) (W := W) 1 9999 t _ _ r _ _ hr (.bool a) (.bool b) w
      exact ⟨.bool (!r), by simp [binOp, Op.equal, Op.maxDepth, this], by constructor⟩
  · rename_i a b
    split at hq
    · cases hq
    · rename_i hgt
      have hgt' : P.eqGuardType P.depth t = false := by simpa using hgt
      cases hx with | agg hx =>
      cases hy with | agg hy =>
      rename_i A B
      have hg := run_eqGuard_agg (P := P) w op t ox oy A.toArray B.toArray hgt'
      simp only [Sem.run_bind, hg, Result.andThen_ok]
      cases op <;> simp only [reduceCtorEq] at hq <;> simp only [Option.map_eq_some_iff, Prod.mk.injEq, true_and] at hq
      · obtain ⟨r, hr, rfl⟩ := hq
        have := eqT_ok 4 9996 t _ _ r _ _ hr (.agg hx) (.agg hy) w
        exact ⟨.bool r, by simp only [run_eql_struct]; rw [show (10000 : Nat) = 9996 + 4 from rfl, this]; rfl, by constructor⟩
      · obtain ⟨r, hr, rfl⟩ := hq
        have := eqT_ok 4 9996 t _ _ r _ _ hr (.agg hx) (.agg hy) w
        exact ⟨.bool (!r), by simp only [run_neq_struct]; rw [show (10000 : Nat) = 9996 + 4 from rfl, this]; rfl, by constructor⟩
  · rename_i u v'
    cases hx with | ifc _ hx' =>
    cases hy
    rename_i X'
    have hg := eqGuard_flat (P := P) op t ox oy (X := .iface u X') (Y := .nilIface) (by simp) (by simp) w
    split at hq
    · rename_i ms hu
      simp at hq; subst hq
      have hm : P.underlying t = some (.interface (P.methodsAt t)) := by rw [hu]; simp [Program.methodsAt, hu]
      exact ⟨.bool false, by simp only [Sem.run_bind, hg, Result.andThen_ok, run_eql_held_nil w t u X' hm], by constructor⟩
    · rename_i ms hu
      simp at hq; subst hq
      have hm : P.underlying t = some (.interface (P.methodsAt t)) := by rw [hu]; simp [Program.methodsAt, hu]
      exact ⟨.bool true, by simp only [Sem.run_bind, hg, Result.andThen_ok, run_neq_held_nil w t u X' hm], by constructor⟩
    · cases hq
  · cases hq
theorem binX_ok {op : BinOp} {t : TypeId} {ox oy : Operand} {x y : AV} {X Y : Value} {v : AV} (hx : RV ρ W x X) (hy : RV ρ W y Y) (hq : binX P op t ox oy x y = some (true, v)) (w : World) :
    ∃ V, ((do eqGuard op t ox oy X Y; binOp op t X Y) : Sem Value).run P w = .ok V w ∧ RV ρ W v V := by
  unfold binX at hq
  split at hq
  · cases hx; cases hy
    have hg : (constO ox || constO oy) = true → (eqGuard op t ox oy .nilIface .nilIface).run P w = .ok () w := fun h => by
      unfold eqGuard
      cases op <;> simp <;> (cases ox <;> cases oy <;> simp_all [constO])
    split at hq
    · rename_i hc hu
      simp at hq; subst hq
      have hm := hu
      rename_i ms
      have hm : P.underlying t = some (.interface (P.methodsAt t)) := by rw [hu]; simp [Program.methodsAt, hu]
      exact ⟨.bool true, by simp only [Sem.run_bind, hg hc, Result.andThen_ok, run_eql_nil_nil w t hm], by constructor⟩
    · rename_i hc hu
      simp at hq; subst hq
      have hm : P.underlying t = some (.interface (P.methodsAt t)) := by rw [hu]; simp [Program.methodsAt, hu]
      exact ⟨.bool false, by simp only [Sem.run_bind, hg hc, Result.andThen_ok, run_neq_nil_nil w t hm], by constructor⟩
    · cases hq
  · exact binA_ok hx hy hq w
theorem unA_ok {op : UnOp} {x v : AV} {X : Value} (hx : RV ρ W x X) (hq : unA op x = some v) (w : World) : ∃ V, (Op.unary op X).run P w = .ok V w ∧ RV ρ W v V := by
  unfold unA at hq
  split at hq <;> simp only [Option.some.injEq, reduceCtorEq] at hq
  all_goals (subst hq; cases hx; first | exact ⟨_, rfl, .int _ _⟩ | exact ⟨_, rfl, .bool _⟩)
theorem convA_ok {s d : TypeId} {x v : AV} {X : Value} (hx : RV ρ W x X) (hq : convA P s d x = some v) (w : World) : ∃ V, (convert s d X).run P w = .ok V w ∧ RV ρ W v V := by
  unfold convA at hq
  split at hq <;> simp at hq
  · rename_i h1 h2
    subst hq; cases hx
    exact ⟨_, by simp [convert, run_underlying h1, run_underlying h2, Conv.intToInt]; rfl, by constructor⟩
  · rename_i h1 h2
    subst hq; cases hx
    exact ⟨_, by simp [convert, run_underlying h1, run_underlying h2]; rfl, by constructor⟩
  · rename_i h1 h2
    subst hq; cases hx
    exact ⟨_, by simp [convert, run_underlying h1, run_underlying h2, Conv.intToString]; rfl, by constructor⟩
theorem assertA_ok {xt t : TypeId} {ok : Bool} {x v : AV} {X : Value} (hx : RV ρ W x X) (hq : assertA P t ok x = some v) (w : World) : ∃ V, (Instr.typeAssert X xt t ok).run P w = .ok V w ∧ RV ρ W v V := by
  unfold assertA at hq
  split at hq
  · cases hq
  · rename_i d u y hni hd
    cases hx with | ifc _ hy =>
    rename_i Y
    have hrun : (Instr.typeAssert (.iface u Y) xt t ok).run P w = (if u = t then (pure (if ok then .tuple #[Y, .bool true] else Y) : Sem Value) else (if ok then (do pure (.tuple #[← zeroValue t, .bool false])) else runtimePanic (.typeAssertion (some xt) (some u) t ""))).run P w := by
      cases d <;> first | exact (hni _ rfl).elim | (simp only [Instr.typeAssert, Sem.run_bind, run_underlying hd, Result.andThen_ok] <;> (split <;> rfl))
    rw [hrun]
    split at hq
    · rename_i hu
      rw [if_pos hu]
      cases ok with
      | true => simp at hq; subst hq; exact ⟨_, rfl, .tup (.cons hy (.cons (.bool true) .nil))⟩
      | false => simp at hq; subst hq; exact ⟨_, rfl, hy⟩
    · rename_i hu
      rw [if_neg hu]
      cases ok with
      | true =>
        simp only [if_true, Option.map_eq_some_iff] at hq
        obtain ⟨z, hz, rfl⟩ := hq
        obtain ⟨Z, g1, g2⟩ := run_zero hz ρ W w
        exact ⟨_, by simp only [if_true, Sem.run_bind, g1, Result.andThen_ok, Sem.run_pure], .tup (.cons g2 (.cons (.bool false) .nil))⟩
      | false => simp at hq
  · rename_i d hni hd
    cases hx
    split at hq
    case isFalse => cases hq
    rename_i hok
    subst hok
    simp only [Option.map_eq_some_iff] at hq
    obtain ⟨z, hz, rfl⟩ := hq
    obtain ⟨Z, g1, g2⟩ := run_zero hz ρ W w
    refine ⟨.tuple #[Z, .bool false], ?_, .tup (.cons g2 (.cons (.bool false) .nil))⟩
    cases d <;> first | exact (hni _ rfl).elim | simp only [Instr.typeAssert, Sem.run_bind, run_underlying hd, Result.andThen_ok, if_true, g1, Sem.run_pure]
  · cases hq
theorem fieldOf_ok {t : TypeId} {f : Nat} {fd : Field} (hq : fieldOf P t f = some fd) : ∃ fs, P.underlying t = some (.struct fs) ∧ fs[f]? = some fd := by
  unfold fieldOf at hq
  split at hq
  · exact ⟨_, by assumption, hq⟩
  · cases hq
theorem fieldAddrA_ok {t : TypeId} {f : Nat} {x v : AV} {X : Value} (hx : RV ρ W x X) (hq : fieldAddrA P t x f = some v) (w : World) : ∃ V, (Instr.fieldAt t X f).run P w = .ok V w ∧ RV ρ W v V := by
  unfold fieldAddrA at hq
  split at hq
  case h_2 => cases hq
  rename_i fd hfd
  obtain ⟨fs, h1, h2⟩ := fieldOf_ok hfd
  split at hq
  case h_1 => cases hq
  case h_3 => cases hq
  rename_i n hne hsz
  have hn0 : n ≠ 0 := fun e => hne (by rw [e])
  split at hq <;> simp at hq
  · subst hq
    cases hx with | ptr i s j hp =>
    rename_i b o
    refine ⟨_, ?_, .ptr _ _ _ hp⟩
    simp [Instr.fieldAt, run_underlying h1, h2, Instr.sureAddr, fieldPlace, run_size hsz, hn0, Addr.add_mid]
  · subst hq
    cases hx with | cp j hb hl hc =>
    rename_i b o L
    refine ⟨_, ?_, .cp _ hb hl hc⟩
    simp [Instr.fieldAt, run_underlying h1, h2, Instr.sureAddr, fieldPlace, run_size hsz, hn0, Addr.add_mid]
  · subst hq
    cases hx with | gp i s j hp =>
    refine ⟨_, ?_, .gp _ _ _ hp⟩
    simp [Instr.fieldAt, run_underlying h1, h2, Instr.sureAddr, fieldPlace, run_size hsz, hn0, Addr.add_mid, Nat.add_assoc]
theorem field_ok {t : TypeId} {f : Nat} {fd : Field} {l : List AV} {L : List Value} {v : AV} (hl : RL ρ W l L) (h1 : fieldOf P t f = some fd) (hq : partA P fd.type l fd.offset = some v) (w : World) :
    ∃ V, (Instr.field t (.agg L.toArray) f).run P w = .ok V w ∧ RV ρ W v V := by
  obtain ⟨fs, g1, g2⟩ := fieldOf_ok h1
  obtain ⟨V, g3, g4⟩ := part_ok hl hq w
  exact ⟨V, by simp [Instr.field, run_underlying g1, g2, asAgg, g3], g4⟩
theorem indexAddrA_ok (hR : Rel ρ W h w) {t : TypeId} {x ix v : AV} {X I : Value} (hx : RV ρ W x X) (hi : RV ρ W ix I) (hq : indexAddrA P t x ix = some (true, v)) : ∃ V, (Instr.indexAt t X I).run P w = .ok V w ∧ RV ρ W v V := by
  unfold indexAddrA at hq
  split at hq
  · rename_i len e n j kk k hu
    cases hi
    split at hq
    case h_2 => cases hq
    rename_i s hsz
    simp at hq
    obtain ⟨⟨h1, h2⟩, rfl⟩ := hq
    cases hx with | ptr i s' j hp =>
    rename_i b o
    refine ⟨.pointer (some ⟨b, o + (k.toNat * s + j), none⟩), ?_, .ptr _ _ _ hp⟩
    simp [Instr.indexAt, run_underlying hu, asIntOf, Instr.sureAddr, h1, h2, run_size hsz, Addr.add_mid]
  · rename_i e n i s len kk k hu
    cases hi
    split at hq
    case h_2 => cases hq
    rename_i s' hsz
    split at hq
    case isFalse => cases hq
    rename_i hs; subst hs
    simp at hq
    obtain ⟨⟨h1, h2⟩, rfl⟩ := hq
    cases hx with | sl i s len cap off hp hl ho =>
    rename_i b o
    have hoff : off = o + i * s := by rcases ho with ho | ho; omega; exact ho
    subst hoff
    refine ⟨.pointer (some ⟨b, o + ((i + k.toNat) * s + 0), none⟩), ?_, .ptr _ _ _ hp⟩
    simp [Instr.indexAt, run_underlying hu, asIntOf, h1, h2, run_size hsz, Addr.add_mid, Nat.add_mul]
  · rename_i e s len c kk k hu
    cases hi
    split at hq
    case h_2 => cases hq
    rename_i s' hsz
    split at hq
    case isFalse => cases hq
    rename_i hs; subst hs
    simp at hq
    obtain ⟨⟨h1, h2⟩, rfl⟩ := hq
    cases hx with | csl s len cap c V hb hl hc hr =>
    rename_i b o
    have hk : k.toNat < len := by omega
    have := RV.cp (ρ := ρ) (W := W) (b := b) (o := o + k.toNat * s) (l := (upTo 0 s).map (c k.toNat)) (L := (upTo 0 s).map (V k.toNat)) 0 hb
      (RL.map _ _ _ fun j hj => hr _ _ hk (by rw [upTo_mem] at hj; omega))
      (fun x u hx => by
        rw [List.getElem?_map, upTo_get] at hx
        split at hx
        · rename_i hlt
          simp at hx; subst hx
          rw [Nat.add_assoc]; exact hc _ _ hk hlt
        · simp at hx)
    refine ⟨_, ?_, this⟩
    simp [Instr.indexAt, run_underlying hu, asIntOf, h1, h2, run_size hsz, Addr.add_mid]
  · rename_i e n s len kk k hu
    cases hi
    split at hq
    case h_2 => cases hq
    rename_i s' hsz
    split at hq
    case isFalse => cases hq
    rename_i hs; subst hs
    simp at hq
    obtain ⟨⟨h1, h2⟩, rfl⟩ := hq
    cases hx with | gs s len hp hl =>
    rename_i b cap
    refine ⟨.pointer (some ⟨b, k.toNat * s + 0, none⟩), ?_, .gp _ _ _ hp⟩
    simp [Instr.indexAt, run_underlying hu, asIntOf, h1, h2, run_size hsz, Addr.add_mid]
  · cases hq
theorem indexA_ok {t : TypeId} {x ix v : AV} {X I : Value} (hx : RV ρ W x X) (hi : RV ρ W ix I) (hq : indexA P t x ix = some (true, v)) (w : World) : ∃ V, (Instr.index t X I).run P w = .ok V w ∧ RV ρ W v V := by
  unfold indexA at hq
  split at hq
  · rename_i len e l kk k hu
    cases hi
    split at hq
    case h_2 => cases hq
    rename_i s hsz
    split at hq
    case h_2 => cases hq
    rename_i u hp
    simp at hq
    obtain ⟨⟨h1, h2⟩, rfl⟩ := hq
    cases hx with | agg hx =>
    obtain ⟨V, g1, g2⟩ := part_ok hx hp w
    exact ⟨V, by simp [Instr.index, run_underlying hu, asIntOf, h1, h2, run_size hsz, g1], g2⟩
  · rename_i s kk k hu
    cases hi; cases hx
    simp at hq
    obtain ⟨⟨h1, h2⟩, rfl⟩ := hq
    have hlt : k.toNat < s.size := by omega
    have hlt' : k.toNat < s.data.size := hlt
    refine ⟨_, ?_, .int _ _⟩
    simp only [Instr.index, Sem.run_bind, run_underlying hu, asIntOf, Sem.run_pure, Result.andThen_ok]
    rw [if_pos h1]
    have e1 : s[k.toNat]? = some (s.data[k.toNat]'hlt') := getElem?_pos s _ hlt
    have e2 : s.data[k.toNat]?.getD 0 = s.data[k.toNat]'hlt' := by rw [getElem?_pos s.data k.toNat hlt']; rfl
    rw [e1, e2]
    rfl
  · cases hq
theorem extract_ok {l : List AV} {L : List Value} {i : Nat} {v : AV} (hl : RL ρ W l L) (hq : l[i]? = some v) (w : World) : ∃ V, (Instr.extract (.tuple L.toArray) i).run P w = .ok V w ∧ RV ρ W v V := by
  obtain ⟨V, g1, g2⟩ := hl.get _ _ hq
  exact ⟨V, by simp [Instr.extract, g1], g2⟩
theorem lenA_ok {ts : Array TypeId} {ty t : TypeId} {x v : AV} {X : Value} (ht : ts[0]? = some t) (hx : RV ρ W x X) (hq : lenA P t x = some v) (w : World) : ∃ V, (Builtin.len_ ts ty #[X]).run P w = .ok V w ∧ RV ρ W v V := by
  unfold lenA at hq
  split at hq <;> simp at hq <;> rename_i hu <;> subst hq
  · cases hx; exact ⟨_, by simp [Builtin.len_, ht, run_underlying hu]; rfl, .int _ _⟩
  · exact ⟨_, by simp [Builtin.len_, ht, run_underlying hu]; rfl, .int _ _⟩
  · cases hx; exact ⟨_, by simp [Builtin.len_, ht, run_underlying hu]; rfl, .int _ _⟩
  · cases hx; exact ⟨_, by simp [Builtin.len_, ht, run_underlying hu]; rfl, .int _ _⟩
  · cases hx; exact ⟨_, by simp [Builtin.len_, ht, run_underlying hu]; rfl, .int _ _⟩
  · cases hx; exact ⟨_, by simp [Builtin.len_, ht, run_underlying hu]; rfl, .int _ _⟩
theorem foldA_ok {f : AV → AV → Option AV} {g : Value → Value → Sem Value} (hf : ∀ x y v X Y, f x y = some v → RV ρ W x X → RV ρ W y Y → ∀ w, ∃ V, (g X Y).run P w = .ok V w ∧ RV ρ W v V) :
    ∀ (l : List AV) (L : List Value) (x v : AV) (X : Value), RL ρ W l L → RV ρ W x X → foldA f x l = some v → ∀ w, ∃ V, (L.foldlM g X).run P w = .ok V w ∧ RV ρ W v V
  | _, _, x, v, X, .nil, hx, hq, w => by simp [foldA] at hq; subst hq; exact ⟨X, by simp, hx⟩
  | _, _, x, v, X, .cons hy t, hx, hq, w => by
    simp only [foldA] at hq
    split at hq
    · rename_i z hz
      obtain ⟨Z, g1, g2⟩ := hf _ _ _ _ _ hz hx hy w
      obtain ⟨V, g3, g4⟩ := foldA_ok hf _ _ _ _ _ t g2 hq w
      exact ⟨V, by simp [List.foldlM, g1, g3], g4⟩
    · cases hq
theorem max2A_ok (x y v : AV) (X Y : Value) (hq : max2A x y = some v) (hx : RV ρ W x X) (hy : RV ρ W y Y) (w : World) : ∃ V, (Builtin.max2 X Y).run P w = .ok V w ∧ RV ρ W v V := by
  unfold max2A at hq
  split at hq <;> simp at hq
  subst hq; cases hx; cases hy; exact ⟨_, rfl, .int _ _⟩
theorem min2A_ok (x y v : AV) (X Y : Value) (hq : min2A x y = some v) (hx : RV ρ W x X) (hy : RV ρ W y Y) (w : World) : ∃ V, (Builtin.min2 X Y).run P w = .ok V w ∧ RV ρ W v V := by
  unfold min2A at hq
  split at hq <;> simp at hq
  subst hq; cases hx; cases hy; exact ⟨_, rfl, .int _ _⟩
theorem boundA_ok {x : Option AV} {X : Option Value} (hx : match x, X with | none, none => True | some v, some V => RV ρ W v V | _, _ => False) {d k : Int} (hq : boundA x d = some k) :
    (X = none ∧ k = d) ∨ ∃ kk, X = some (.int kk k) := by
  unfold boundA at hq
  split at hq <;> simp at hq
  · cases X with
    | none => exact .inl ⟨rfl, hq.symm⟩
    | some V => exact hx.elim
  · cases X with
    | none => exact hx.elim
    | some V => cases hx; subst hq; exact .inr ⟨_, rfl⟩
theorem sliceA_ok {t : TypeId} {x v : AV} {X : Value} {lo hi : Option AV} {Lo Hi : Option Value} (hx : RV ρ W x X)
    (hlo : match lo, Lo with | none, none => True | some v, some V => RV ρ W v V | _, _ => False) (hhi : match hi, Hi with | none, none => True | some v, some V => RV ρ W v V | _, _ => False)
    (hq : sliceA P t x lo hi = some (true, v)) (w : World) : ∃ V, (Instr.sliceAt t X Lo Hi none).run P w = .ok V w ∧ RV ρ W v V := by
  unfold sliceA at hq
  split at hq
  · rename_i s hu
    split at hq
    case h_2 => cases hq
    rename_i l k h1 h2
    simp at hq
    obtain ⟨⟨⟨a1, a2⟩, a3⟩, rfl⟩ := hq
    cases hx
    refine ⟨.string (s.extract l.toNat k.toNat), ?_, .str _⟩
    have g1 := boundA_ok hlo h1
    have g2 := boundA_ok hhi h2
    rcases g1 with ⟨rfl, rfl⟩ | ⟨kk, rfl⟩ <;> rcases g2 with ⟨rfl, rfl⟩ | ⟨kk2, rfl⟩ <;>
      simp only [Instr.sliceAt, Instr.slice, run_underlying hu, Instr.sliceBounds, Instr.sliceBound, asIntOf, Sem.run_bind, Sem.run_pure, Result.andThen_ok, Option.isSome_none, Bool.false_eq_true, if_false] <;>
      (try rw [if_pos (by omega)]) <;> (try simp only [Sem.run_pure, Result.andThen_ok]) <;> (try rw [if_pos (by omega)]) <;> (try simp only [Sem.run_pure, Result.andThen_ok]) <;> rfl
  · rename_i e s len c hu
    split at hq
    case h_2 => cases hq
    rename_i l k s' h1 h2 hsz
    split at hq
    case isFalse => cases hq
    rename_i hs; subst hs
    simp at hq
    obtain ⟨⟨⟨a1, a2⟩, a3⟩, rfl⟩ := hq
    cases hx with | csl s len cap c V hb hl hc hr =>
    rename_i b o
    have hnew : RV ρ W (.csl s (k.toNat - l.toNat) (fun i j => c (l.toNat + i) j)) (.slice (some ⟨b, if cap = l.toNat then o else o + l.toNat * s, none⟩) (k.toNat - l.toNat) (cap - l.toNat)) := by
      refine .csl s _ _ _ (fun i j => V (l.toNat + i) j) hb (by omega) (fun i j hi hj => ?_) (fun i j hi hj => hr _ _ (by omega) hj)
      rw [if_neg (by omega)]
      have := hc (l.toNat + i) j (by omega) hj
      rw [show o + l.toNat * s + (i * s + j) = o + ((l.toNat + i) * s + j) by rw [Nat.add_mul]; omega]
      exact this
    refine ⟨_, ?_, hnew⟩
    have hfin : ∀ w, ((do let size ← sizeOf e; pure (.slice (if cap = l.toNat then some ⟨b, o, none⟩ else (some (⟨b, o, none⟩ : Addr)).map (·.add (l.toNat * size))) (k.toNat - l.toNat) (cap - l.toNat))) : Sem Value).run P w = .ok (.slice (some ⟨b, if cap = l.toNat then o else o + l.toNat * s, none⟩) (k.toNat - l.toNat) (cap - l.toNat)) w := fun w => by
      simp only [Sem.run_bind, run_size hsz, Result.andThen_ok, Sem.run_pure]
      split
      · rfl
      · simp only [Option.map_some, Addr.add_mid]
    have g1 := boundA_ok hlo h1
    have g2 := boundA_ok hhi h2
    simp only [Option.map_some] at hfin
    rcases g1 with ⟨rfl, rfl⟩ | ⟨kk, rfl⟩ <;> rcases g2 with ⟨rfl, rfl⟩ | ⟨kk2, rfl⟩ <;>
      simp only [Instr.sliceAt, Instr.slice, run_underlying hu, Instr.sliceBounds, Instr.sliceBound, asIntOf, Sem.run_bind, Sem.run_pure, Result.andThen_ok, Option.map_some] <;>
      (try rw [if_pos (by omega)]) <;> (try simp only [Sem.run_pure, Result.andThen_ok]) <;> (try rw [if_pos (by omega)]) <;> (try simp only [Sem.run_pure, Result.andThen_ok]) <;>
      first | exact hfin w | (simpa using hfin w)
  · cases hq
end Go.Proofs.Ytlpnbbonbclddaa.A

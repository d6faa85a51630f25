/- The abstract machine: arithmetic, comparisons, structs, slices and strings come to the same in the model. -/
import Derived.WideLaws
import Derived.Test.YthkmckmfgglafaaGreatQghdjbfomfn
import Derived.ChangeKeysEq
import Derived.Great.BuildSlice
import Derived.Laws.MakeOwn
import Derived.Laws.OwnMore
import Derived.MapKept
import Derived.OrdersIn
import Derived.RangeFuncRecord
namespace Go.Proofs.YthkmckmfgglafaaGreat.A
open Go Go.RowKit
set_option linter.unusedVariables false
set_option linter.unusedSimpArgs false
variable {P : Program} {ρ : Names} {W w : World} {h : Heap}
theorem aite_ok {q : Bool} {x y : AV} {X Y : Value} (hx : RV ρ W x X) (hy : RV ρ W y Y) : RV ρ W (aite q x y) (if q then X else Y) := by
  cases q
  · unfold aite
    cases hx <;> cases hy <;> simp <;> (try split) <;> first | (constructor <;> assumption) | (subst_vars; constructor; done) | skip
  · unfold aite
    cases hx <;> cases hy <;> simp <;> (try split) <;> first | (constructor <;> assumption) | (subst_vars; constructor; done) | skip
theorem part_ok {t : TypeId} {l : List AV} {L : List Value} {off : Nat} {v : AV} (hl : RL ρ W l L) (hq : partA P t l off = some v) (w : World) : ∃ V, (part t L.toArray off).run P w = .ok V w ∧ RV ρ W v V := by
  unfold partA at hq
  split at hq
  · rename_i n h1 h2
    split at hq
    · simp at hq; subst hq
      refine ⟨.agg ((L.take (off + n)).drop off).toArray, ?_, .agg ((hl.take _).drop _)⟩
      simp [part, run_isAgg_row h1, run_size h2, List.extract_eq_take_drop]
      rw [List.drop_take, Nat.add_sub_cancel_left]
    · cases hq
  · rename_i n h1 h2
    obtain ⟨V, g1, g2⟩ := hl.get _ _ hq
    exact ⟨V, by simp [part, run_isAgg_flat h1, g1], g2⟩
  · cases hq
theorem eqFs_ok {f : TypeId → AV → AV → Option Bool} {d : Nat}
    (hf : ∀ t x y b X Y, f t x y = some b → RV ρ W x X → RV ρ W y Y → ∀ w, (Op.equalIn d t X Y).run P w = .ok b w) {xs ys : List AV} {Xs Ys : List Value} (hx : RL ρ W xs Xs) (hy : RL ρ W ys Ys) :
    ∀ (fs : List Field) (b : Bool), eqFs f P xs ys fs = some b → ∀ w, (Op.eqFields d Xs.toArray Ys.toArray fs).run P w = .ok b w
  | [], b, hq, w => by simp [eqFs] at hq; subst hq; simp [Op.eqFields]
  | fd :: fs, b, hq, w => by
    simp only [eqFs] at hq
    simp only [Op.eqFields]
    split at hq
    case isFalse hn => rw [if_neg hn]; exact eqFs_ok hf hx hy fs b hq w
    case isTrue hn =>
      rw [if_pos hn]
      have key : ∀ x y, partA P fd.type xs fd.offset = some x → partA P fd.type ys fd.offset = some y → ∀ b1 r, f fd.type x y = some b1 → eqFs f P xs ys fs = some r → b = (b1 && r) →
          ((do let a ← part fd.type Xs.toArray fd.offset; let b ← part fd.type Ys.toArray fd.offset; let r ← Op.equalIn d fd.type a b; if (!r) = true then pure false else Op.eqFields d Xs.toArray Ys.toArray fs) : Sem Bool).run P w = .ok b w := by
        intro x y h1 h2 b1 r h3 h4 h5
        obtain ⟨X, g1, g2⟩ := part_ok hx h1 w
        obtain ⟨Y, g3, g4⟩ := part_ok hy h2 w
        simp only [Sem.run_bind, g1, g3, Result.andThen_ok, hf _ _ _ _ _ _ h3 g2 g4 w]
        cases b1
        · simp [h5]
        · simpa [h5] using eqFs_ok hf hx hy fs r h4 w
      split at hq
      · rename_i n h1 h2
        split at hq
        · rename_i b1 r h3 h4
          simp at hq
          by_cases hlx : fd.offset + n ≤ xs.length ∧ fd.offset + n ≤ ys.length
          · exact key _ _ (by simp only [partA, h1, h2]; rw [if_pos hlx.1]) (by simp only [partA, h1, h2]; rw [if_pos hlx.2]) b1 r h3 h4 hq.symm
          · -- the parts of too short lists: the model takes what is there, as here
            have hp : ∀ {zs : List AV} {Zs : List Value}, RL ρ W zs Zs → (part fd.type Zs.toArray fd.offset).run P w = .ok (.agg ((Zs.take (fd.offset + n)).drop fd.offset).toArray) w := fun _ => by
              simp [part, run_isAgg_row h1, run_size h2, List.extract_eq_take_drop]
              rw [List.drop_take, Nat.add_sub_cancel_left]
            simp only [Sem.run_bind, hp hx, hp hy, Result.andThen_ok, hf _ _ _ _ _ _ h3 (.agg ((hx.take _).drop _)) (.agg ((hy.take _).drop _)) w]
            cases b1
            · simp [← hq]
            · simpa [← hq] using eqFs_ok hf hx hy fs r h4 w
        · cases hq
      · rename_i n h1 h2
        split at hq
        · rename_i x y h3 h4
          split at hq
          · rename_i b1 r h5 h6
            simp at hq
            exact key x y (by simp only [partA, h1, h2]; exact h3) (by simp only [partA, h1, h2]; exact h4) b1 r h5 h6 hq.symm
          · cases hq
        · cases hq
      · cases hq
theorem eqEs_ok {f : TypeId → AV → AV → Option Bool} {d : Nat}
    (hf : ∀ t x y b X Y, f t x y = some b → RV ρ W x X → RV ρ W y Y → ∀ w, (Op.equalIn d t X Y).run P w = .ok b w) {xs ys : List AV} {Xs Ys : List Value} (hx : RL ρ W xs Xs) (hy : RL ρ W ys Ys) {e : TypeId} {c : Nat} :
    ∀ (is : List Nat) (b : Bool), eqEs f P e c xs ys is = some b → ∀ w, (Op.eqItems d e c Xs.toArray Ys.toArray is).run P w = .ok b w
  | [], b, hq, w => by simp [eqEs] at hq; subst hq; simp [Op.eqItems]
  | i :: is, b, hq, w => by
    simp only [eqEs] at hq
    split at hq
    · rename_i x y h1 h2
      split at hq
      · rename_i b1 r h3 h4
        simp at hq
        obtain ⟨X, g1, g2⟩ := part_ok hx h1 w
        obtain ⟨Y, g3, g4⟩ := part_ok hy h2 w
        simp only [Op.eqItems, Sem.run_bind, g1, g3, Result.andThen_ok, hf _ _ _ _ _ _ h3 g2 g4 w]
        cases b1
        · simp [← hq]
        · simpa [← hq] using eqEs_ok hf hx hy is r h4 w
      · cases hq
    · cases hq
theorem fieldsOf_eq {t : TypeId} {fs : Array Field} (hu : P.underlying t = some (.struct fs)) : P.fieldsOf t = fs := by simp [Program.fieldsOf, hu]
theorem eqT_ok : ∀ (m d : Nat) (t : TypeId) (x y : AV) (b : Bool) (X Y : Value), eqT P m t x y = some b → RV ρ W x X → RV ρ W y Y → ∀ w, (Op.equalIn (d + m) t X Y).run P w = .ok b w := by
  intro m
  induction m with
  | zero => intro d t x y b X Y hq; simp [eqT] at hq
  | succ m ih =>
    intro d t x y b X Y hq hx hy w
    simp only [eqT] at hq
    rw [← Nat.add_assoc]
    split at hq
    · rename_i hu; cases hx; cases hy; simp at hq; subst hq; exact run_equalIn_bool' w _ t _ _ hu
    · rename_i hu; cases hx; cases hy
      split at hq
      · rename_i hk; subst hk; simp at hq; subst hq; exact run_equalIn_int w _ t _ _ _ _ hu
      · cases hq
    · rename_i hu; cases hx; cases hy; simp at hq; subst hq; exact run_equalIn_string w _ t _ _ hu
    · rename_i fs xs ys hu
      split at hq
      · cases hq
      · rename_i hst
        cases hx with | agg hx =>
        cases hy with | agg hy =>
        rw [run_equalIn_struct w (d + m) t _ _ (by rw [fieldsOf_eq hu]; exact hu) (by simpa using hst), fieldsOf_eq hu]
        exact eqFs_ok (fun t x y b X Y hq hx hy w => ih d t x y b X Y hq hx hy w) hx hy _ _ hq w
    · rename_i n e xs ys hu
      split at hq
      · rename_i c hc
        cases hx with | agg hx =>
        cases hy with | agg hy =>
        unfold sizeT at hc
        cases hi : P.info? e with
        | none => simp [hi] at hc
        | some i =>
          simp [hi] at hc
          rw [run_equalIn_array w (d + m) _ _ hu hi, show P.cellsOf e = c by simp [Program.cellsOf, hi, hc]]
          exact eqEs_ok (fun t x y b X Y hq hx hy w => ih d t x y b X Y hq hx hy w) hx hy _ _ hq w
      · cases hq
    · cases hq
theorem eqGuard_flat (op : BinOp) (t : TypeId) (x y : Operand) {X Y : Value} (hX : X ≠ .nilIface) (hX2 : ∀ c, X ≠ .agg c) (w : World) : (eqGuard op t x y X Y).run P w = .ok () w := by
  unfold eqGuard
  cases op <;> simp <;> cases X <;> simp_all
theorem binA_ok {op : BinOp} {t : TypeId} {ox oy : Operand} {x y : AV} {X Y : Value} {v : AV} (hx : RV ρ W x X) (hy : RV ρ W y Y) (hq : binA P op t x y = some (true, v)) (w : World) :
    ∃ V, ((do eqGuard op t ox oy X Y; binOp op t X Y) : Sem Value).run P w = .ok V w ∧ RV ρ W v V := by
  unfold binA at hq
  split at hq
  · rename_i k a k' b
    cases hx; cases hy
    have hg := eqGuard_flat (P := P) op t ox oy (X := .int k a) (Y := .int k' b) (by simp) (by simp) w
    simp only [Sem.run_bind, hg, Result.andThen_ok]
    split at hq
    · simp [intShift] at hq
      obtain ⟨h0, rfl⟩ := hq
      exact ⟨_, by simp only [binOp, Op.shift]; rw [if_neg (by omega)]; rfl, by constructor⟩
    · simp [intShift] at hq
      obtain ⟨h0, rfl⟩ := hq
      exact ⟨_, by simp only [binOp, Op.shift]; rw [if_neg (by omega)]; rfl, by constructor⟩
    · rename_i n1 n2
      split at hq
      · rename_i hk
        subst hk
        have hb : binOp op t (.int k a) (.int k b) = (match op with
            | .add | .sub | .mul => Op.intArith op k a b
            | .quo | .rem => Op.intDiv op k a b
            | .and | .or | .xor | .andNot => Op.intBits op k a b
            | _ => Op.intCmp op a b) := by
          cases op <;> first | exact (n1 rfl).elim | exact (n2 rfl).elim | simp [binOp]
        rw [hb]
        cases op <;> simp [intBin] at hq <;> first
          | (subst hq; exact ⟨_, rfl, by constructor⟩)
          | (obtain ⟨h0, rfl⟩ := hq; exact ⟨_, by simp only [Op.intDiv]; rw [if_neg h0]; rfl, by constructor⟩)
      · cases hq
  · rename_i a b
    cases hx; cases hy
    have hg := eqGuard_flat (P := P) op t ox oy (X := .string a) (Y := .string b) (by simp) (by simp) w
    simp only [Sem.run_bind, hg, Result.andThen_ok]
    cases op <;> simp [strBin] at hq <;> first
      | (subst hq; exact ⟨_, rfl, by constructor⟩)
      | (obtain ⟨h0, rfl⟩ := hq
         refine ⟨.string (a ++ b), ?_, by constructor⟩
         simp only [binOp, Op.stringOp]
         rw [if_neg (by have : ((a.size + b.size : Nat) : Int) ≤ IntKind.i64.max := by simpa using h0
                        omega)]
         rfl)
  · rename_i a b
    have h2 := hq
    cases hx; cases hy
    have hg := eqGuard_flat (P := P) op t ox oy (X := .bool a) (Y := .bool b) (by simp) (by simp) w
    simp only [Sem.run_bind, hg, Result.andThen_ok]
    cases op <;> simp only [reduceCtorEq] at hq <;> simp only [Option.map_eq_some_iff, Prod.mk.injEq, true_and] at hq
    · obtain ⟨r, hr, rfl⟩ := hq
      have := eqT_ok (ρ := ρ) (W := W) 1 9999 t _ _ r _ _ hr (.bool a) (.bool b) w
      exact ⟨.bool r, by simp [binOp, Op.equal, Op.maxDepth, this], by constructor⟩
    · obtain ⟨r, hr, rfl⟩ := hq
      have := eqT_ok (ρ := ρ) (W := W) 1 9999 t _ _ r _ _ hr (.bool a) (.bool b) w
      exact ⟨.bool (!r), by simp [binOp, Op.equal, Op.maxDepth, this], by constructor⟩
  · rename_i a b
    split at hq
    · cases hq
    · rename_i hgt
      have hgt' : P.eqGuardType P.depth t = false := by simpa using hgt
      cases hx with | agg hx =>
      cases hy with | agg hy =>
      rename_i A B
      have hg := run_eqGuard_agg (P := P) w op t ox oy A.toArray B.toArray hgt'
      simp only [Sem.run_bind, hg, Result.andThen_ok]
      cases op <;> simp only [reduceCtorEq] at hq <;> simp only [Option.map_eq_some_iff, Prod.mk.injEq, true_and] at hq
      · obtain ⟨r, hr, rfl⟩ := hq
        have := eqT_ok 4 9996 t _ _ r _ _ hr (.agg hx) (.agg hy) w
        exact ⟨.bool r, by simp only [run_eql_struct]; rw [show (10000 : Nat) = 9996 + 4 from rfl, this]; rfl, by constructor⟩
      · obtain ⟨r, hr, rfl⟩ := hq
        have := eqT_ok 4 9996 t _ _ r _ _ hr (.agg hx) (.agg hy) w
        exact ⟨.bool (!r), by simp only [run_neq_struct]; rw [show (10000 : Nat) = 9996 + 4 from rfl, this]; rfl, by constructor⟩
  · rename_i u v'
    cases hx with | ifc _ hx' =>
    cases hy
    rename_i X'
    have hg := eqGuard_flat (P := P) op t ox oy (X := .iface u X') (Y := .nilIface) (by simp) (by simp) w
    split at hq
    · rename_i ms hu
      simp at hq; subst hq
      have hm : P.underlying t = some (.interface (P.methodsAt t)) := by rw [hu]; simp [Program.methodsAt, hu]
      exact ⟨.bool false, by simp only [Sem.run_bind, hg, Result.andThen_ok, run_eql_held_nil w t u X' hm], by constructor⟩
    · rename_i ms hu
      simp at hq; subst hq
      have hm : P.underlying t = some (.interface (P.methodsAt t)) := by rw [hu]; simp [Program.methodsAt, hu]
      exact ⟨.bool true, by simp only [Sem.run_bind, hg, Result.andThen_ok, run_neq_held_nil w t u X' hm], by constructor⟩
    · cases hq
  · cases hq
theorem unA_ok {op : UnOp} {x v : AV} {X : Value} (hx : RV ρ W x X) (hq : unA op x = some v) (w : World) : ∃ V, (Op.unary op X).run P w = .ok V w ∧ RV ρ W v V := by
  unfold unA at hq
  split at hq <;> simp only [Option.some.injEq, reduceCtorEq] at hq
  all_goals (subst hq; cases hx; first | exact ⟨_, rfl, .int _ _⟩ | exact ⟨_, rfl, .bool _⟩)
theorem convA_ok {s d : TypeId} {x v : AV} {X : Value} (hx : RV ρ W x X) (hq : convA P s d x = some v) (w : World) : ∃ V, (convert s d X).run P w = .ok V w ∧ RV ρ W v V := by
  unfold convA at hq
  split at hq <;> simp at hq
  · rename_i h1 h2
    subst hq; cases hx
    exact ⟨_, by simp [convert, run_underlying h1, run_underlying h2, Conv.intToInt]; rfl, by constructor⟩
  · rename_i h1 h2
    subst hq; cases hx
    exact ⟨_, by simp [convert, run_underlying h1, run_underlying h2]; rfl, by constructor⟩
  · rename_i h1 h2
    subst hq; cases hx
    exact ⟨_, by simp [convert, run_underlying h1, run_underlying h2, Conv.intToString]; rfl, by constructor⟩
theorem assertA_ok {xt t : TypeId} {ok : Bool} {x v : AV} {X : Value} (hx : RV ρ W x X) (hq : assertA P t ok x = some v) (w : World) : ∃ V, (Instr.typeAssert X xt t ok).run P w = .ok V w ∧ RV ρ W v V := by
  unfold assertA at hq
  split at hq
  · cases hq
  · rename_i d u y hni hd
    cases hx with | ifc _ hy =>
    rename_i Y
    have hrun : (Instr.typeAssert (.iface u Y) xt t ok).run P w = (if u = t then (pure (if ok then .tuple #[Y, .bool true] else Y) : Sem Value) else (if ok then (do pure (.tuple #[← zeroValue t, .bool false])) else runtimePanic (.typeAssertion (some xt) (some u) t ""))).run P w := by
      cases d <;> first | exact (hni _ rfl).elim | (simp only [Instr.typeAssert, Sem.run_bind, run_underlying hd, Result.andThen_ok] <;> (split <;> rfl))
    rw [hrun]
    split at hq
    · rename_i hu
      rw [if_pos hu]
      cases ok with
      | true => simp at hq; subst hq; exact ⟨_, rfl, .tup (.cons hy (.cons (.bool true) .nil))⟩
      | false => simp at hq; subst hq; exact ⟨_, rfl, hy⟩
    · rename_i hu
      rw [if_neg hu]
      cases ok with
      | true =>
        simp only [if_true, Option.map_eq_some_iff] at hq
        obtain ⟨z, hz, rfl⟩ := hq
        obtain ⟨Z, g1, g2⟩ := run_zero hz ρ W w
        exact ⟨_, by simp only [if_true, Sem.run_bind, g1, Result.andThen_ok, Sem.run_pure], .tup (.cons g2 (.cons (.bool false) .nil))⟩
      | false => simp at hq
  · rename_i d hni hd
    cases hx
    split at hq
    case isFalse => cases hq
    rename_i hok
    subst hok
    simp only [Option.map_eq_some_iff] at hq
    obtain ⟨z, hz, rfl⟩ := hq
    obtain ⟨Z, g1, g2⟩ := run_zero hz ρ W w
    refine ⟨.tuple #[Z, .bool false], ?_, .tup (.cons g2 (.cons (.bool false) .nil))⟩
    cases d <;> first | exact (hni _ rfl).elim | simp only [Instr.typeAssert, Sem.run_bind, run_underlying hd, Result.andThen_ok, if_true, g1, Sem.run_pure]
  · cases hq
theorem fieldOf_ok {t : TypeId} {f : Nat} {fd : Field} (hq : fieldOf P t f = some fd) : ∃ fs, P.underlying t = some (.struct fs) ∧ fs[f]? = some fd := by
  unfold fieldOf at hq
  split at hq
  · exact ⟨_, by assumption, hq⟩
  · cases hq
theorem fieldAddrA_ok {t : TypeId} {f : Nat} {x v : AV} {X : Value} (hx : RV ρ W x X) (hq : fieldAddrA P t x f = some v) (w : World) : ∃ V, (Instr.fieldAt t X f).run P w = .ok V w ∧ RV ρ W v V := by
  unfold fieldAddrA at hq
  split at hq
  case h_2 => cases hq
  rename_i fd hfd
  obtain ⟨fs, h1, h2⟩ := fieldOf_ok hfd
  split at hq
  case h_1 => cases hq
  case h_3 => cases hq
  rename_i n hne hsz
  have hn0 : n ≠ 0 := fun e => hne (by rw [e])
  split at hq <;> simp at hq
  · subst hq
    cases hx with | ptr i s j hp =>
    rename_i b o
    refine ⟨_, ?_, .ptr _ _ _ hp⟩
    simp [Instr.fieldAt, run_underlying h1, h2, Instr.sureAddr, fieldPlace, run_size hsz, hn0, Addr.add_mid]
  · subst hq
    cases hx with | cp j hb hl hc =>
    rename_i b o L
    refine ⟨_, ?_, .cp _ hb hl hc⟩
    simp [Instr.fieldAt, run_underlying h1, h2, Instr.sureAddr, fieldPlace, run_size hsz, hn0, Addr.add_mid]
  · subst hq
    cases hx with | gp i s j hp =>
    refine ⟨_, ?_, .gp _ _ _ hp⟩
    simp [Instr.fieldAt, run_underlying h1, h2, Instr.sureAddr, fieldPlace, run_size hsz, hn0, Addr.add_mid, Nat.add_assoc]
theorem field_ok {t : TypeId} {f : Nat} {fd : Field} {l : List AV} {L : List Value} {v : AV} (hl : RL ρ W l L) (h1 : fieldOf P t f = some fd) (hq : partA P fd.type l fd.offset = some v) (w : World) :
    ∃ V, (Instr.field t (.agg L.toArray) f).run P w = .ok V w ∧ RV ρ W v V := by
  obtain ⟨fs, g1, g2⟩ := fieldOf_ok h1
  obtain ⟨V, g3, g4⟩ := part_ok hl hq w
  exact ⟨V, by simp [Instr.field, run_underlying g1, g2, asAgg, g3], g4⟩
theorem indexAddrA_ok (hR : Rel ρ W h w) {t : TypeId} {x ix v : AV} {X I : Value} (hx : RV ρ W x X) (hi : RV ρ W ix I) (hq : indexAddrA P t x ix = some (true, v)) : ∃ V, (Instr.indexAt t X I).run P w = .ok V w ∧ RV ρ W v V := by
  unfold indexAddrA at hq
  split at hq
  · rename_i len e n j kk k hu
    cases hi
    split at hq
    case h_2 => cases hq
    rename_i s hsz
    simp at hq
    obtain ⟨⟨h1, h2⟩, rfl⟩ := hq
    cases hx with | ptr i s' j hp =>
    rename_i b o
    refine ⟨.pointer (some ⟨b, o + (k.toNat * s + j), none⟩), ?_, .ptr _ _ _ hp⟩
    simp [Instr.indexAt, run_underlying hu, asIntOf, Instr.sureAddr, h1, h2, run_size hsz, Addr.add_mid]
  · rename_i e n i s len kk k hu
    cases hi
    split at hq
    case h_2 => cases hq
    rename_i s' hsz
    split at hq
    case isFalse => cases hq
    rename_i hs; subst hs
    simp at hq
    obtain ⟨⟨h1, h2⟩, rfl⟩ := hq
    cases hx with | sl i s len cap off hp hl ho =>
    rename_i b o
    have hoff : off = o + i * s := by rcases ho with ho | ho; omega; exact ho
    subst hoff
    refine ⟨.pointer (some ⟨b, o + ((i + k.toNat) * s + 0), none⟩), ?_, .ptr _ _ _ hp⟩
    simp [Instr.indexAt, run_underlying hu, asIntOf, h1, h2, run_size hsz, Addr.add_mid, Nat.add_mul]
  · rename_i e s len c kk k hu
    cases hi
    split at hq
    case h_2 => cases hq
    rename_i s' hsz
    split at hq
    case isFalse => cases hq
    rename_i hs; subst hs
    simp at hq
    obtain ⟨⟨h1, h2⟩, rfl⟩ := hq
    cases hx with | csl s len cap c V hb hl hc hr =>
    rename_i b o
    have hk : k.toNat < len := by omega
    have := RV.cp (ρ := ρ) (W := W) (b := b) (o := o + k.toNat * s) (l := (upTo 0 s).map (c k.toNat)) (L := (upTo 0 s).map (V k.toNat)) 0 hb
      (RL.map _ _ _ fun j hj => hr _ _ hk (by rw [upTo_mem] at hj; omega))
      (fun x u hx => by
        rw [List.getElem?_map, upTo_get] at hx
        split at hx
        · rename_i hlt
          simp at hx; subst hx
          rw [Nat.add_assoc]; exact hc _ _ hk hlt
        · simp at hx)
    refine ⟨_, ?_, this⟩
    simp [Instr.indexAt, run_underlying hu, asIntOf, h1, h2, run_size hsz, Addr.add_mid]
  · rename_i e n s len kk k hu
    cases hi
    split at hq
    case h_2 => cases hq
    rename_i s' hsz
    split at hq
    case isFalse => cases hq
    rename_i hs; subst hs
    simp at hq
    obtain ⟨⟨h1, h2⟩, rfl⟩ := hq
    cases hx with | gs s len hp hl =>
    rename_i b cap
    refine ⟨.pointer (some ⟨b, k.toNat * s + 0, none⟩), ?_, .gp _ _ _ hp⟩
    simp [Instr.indexAt, run_underlying hu, asIntOf, h1, h2, run_size hsz, Addr.add_mid]
  · cases hq
theorem indexA_ok {t : TypeId} {x ix v : AV} {X I : Value} (hx : RV ρ W x X) (hi : RV ρ W ix I) (hq : indexA P t x ix = some (true, v)) (w : World) : ∃ V, (Instr.index t X I).run P w = .ok V w ∧ RV ρ W v V := by
  unfold indexA at hq
  split at hq
  · rename_i len e l kk k hu
    cases hi
    split at hq
    case h_2 => cases hq
    rename_i s hsz
    split at hq
    case h_2 => cases hq
    rename_i u hp
    simp at hq
    obtain ⟨⟨h1, h2⟩, rfl⟩ := hq
    cases hx with | agg hx =>
    obtain ⟨V, g1, g2⟩ := part_ok hx hp w
    exact ⟨V, by simp [Instr.index, run_underlying hu, asIntOf, h1, h2, run_size hsz, g1], g2⟩
  · rename_i s kk k hu
    cases hi; cases hx
    simp at hq
    obtain ⟨⟨h1, h2⟩, rfl⟩ := hq
    have hlt : k.toNat < s.size := by omega
    have hlt' : k.toNat < s.data.size := hlt
    refine ⟨_, ?_, .int _ _⟩
    simp only [Instr.index, Sem.run_bind, run_underlying hu, asIntOf, Sem.run_pure, Result.andThen_ok]
    rw [if_pos h1]
    have e1 : s[k.toNat]? = some (s.data[k.toNat]'hlt') := getElem?_pos s _ hlt
    have e2 : s.data[k.toNat]?.getD 0 = s.data[k.toNat]'hlt' := by rw [getElem?_pos s.data k.toNat hlt']; rfl
    rw [e1, e2]
    rfl
  · cases hq
theorem extract_ok {l : List AV} {L : List Value} {i : Nat} {v : AV} (hl : RL ρ W l L) (hq : l[i]? = some v) (w : World) : ∃ V, (Instr.extract (.tuple L.toArray) i).run P w = .ok V w ∧ RV ρ W v V := by
  obtain ⟨V, g1, g2⟩ := hl.get _ _ hq
  exact ⟨V, by simp [Instr.extract, g1], g2⟩
theorem lenA_ok {ts : Array TypeId} {ty t : TypeId} {x v : AV} {X : Value} (ht : ts[0]? = some t) (hx : RV ρ W x X) (hq : lenA P t x = some v) (w : World) : ∃ V, (Builtin.len_ ts ty #[X]).run P w = .ok V w ∧ RV ρ W v V := by
  unfold lenA at hq
  split at hq <;> simp at hq <;> rename_i hu <;> subst hq
  · cases hx; exact ⟨_, by simp [Builtin.len_, ht, run_underlying hu]; rfl, .int _ _⟩
  · exact ⟨_, by simp [Builtin.len_, ht, run_underlying hu]; rfl, .int _ _⟩
  · cases hx; exact ⟨_, by simp [Builtin.len_, ht, run_underlying hu]; rfl, .int _ _⟩
  · cases hx; exact ⟨_, by simp [Builtin.len_, ht, run_underlying hu]; rfl, .int _ _⟩
  · cases hx; exact ⟨_, by simp [Builtin.len_, ht, run_underlying hu]; rfl, .int _ _⟩
  · cases hx; exact ⟨_, by simp [Builtin.len_, ht, run_underlying hu]; rfl, .int _ _⟩
theorem foldA_ok {f : AV → AV → Option AV} {g : Value → Value → Sem Value} (hf : ∀ x y v X Y, f x y = some v → RV ρ W x X → RV ρ W y Y → ∀ w, ∃ V, (g X Y).run P w = .ok V w ∧ RV ρ W v V) :
    ∀ (l : List AV) (L : List Value) (x v : AV) (X : Value), RL ρ W l L → RV ρ W x X → foldA f x l = some v → ∀ w, ∃ V, (L.foldlM g X).run P w = .ok V w ∧ RV ρ W v V
  | _, _, x, v, X, .nil, hx, hq, w => by simp [foldA] at hq; subst hq; exact ⟨X, by simp, hx⟩
  | _, _, x, v, X, .cons hy t, hx, hq, w => by
    simp only [foldA] at hq
    split at hq
    · rename_i z hz
      obtain ⟨Z, g1, g2⟩ := hf _ _ _ _ _ hz hx hy w
      obtain ⟨V, g3, g4⟩ := foldA_ok hf _ _ _ _ _ t g2 hq w
      exact ⟨V, by simp [List.foldlM, g1, g3], g4⟩
    · cases hq
theorem max2A_ok (x y v : AV) (X Y : Value) (hq : max2A x y = some v) (hx : RV ρ W x X) (hy : RV ρ W y Y) (w : World) : ∃ V, (Builtin.max2 X Y).run P w = .ok V w ∧ RV ρ W v V := by
  unfold max2A at hq
  split at hq <;> simp at hq
  subst hq; cases hx; cases hy; exact ⟨_, rfl, .int _ _⟩
theorem min2A_ok (x y v : AV) (X Y : Value) (hq : min2A x y = some v) (hx : RV ρ W x X) (hy : RV ρ W y Y) (w : World) : ∃ V, (Builtin.min2 X Y).run P w = .ok V w ∧ RV ρ W v V := by
  unfold min2A at hq
  split at hq <;> simp at hq
  subst hq; cases hx; cases hy; exact ⟨_, rfl, .int _ _⟩
theorem boundA_ok {x : Option AV} {X : Option Value} (hx : match x, X with | none, none => True | some v, some V => RV ρ W v V | _, _ => False) {d k : Int} (hq : boundA x d = some k) :
    (X = none ∧ k = d) ∨ ∃ kk, X = some (.int kk k) := by
  unfold boundA at hq
  split at hq <;> simp at hq
  · cases X with
    | none => exact .inl ⟨rfl, hq.symm⟩
    | some V => exact hx.elim
  · cases X with
    | none => exact hx.elim
    | some V => cases hx; subst hq; exact .inr ⟨_, rfl⟩
theorem sliceA_ok {t : TypeId} {x v : AV} {X : Value} {lo hi : Option AV} {Lo Hi : Option Value} (hx : RV ρ W x X)
    (hlo : match lo, Lo with | none, none => True | some v, some V => RV ρ W v V | _, _ => False) (hhi : match hi, Hi with | none, none => True | some v, some V => RV ρ W v V | _, _ => False)
    (hq : sliceA P t x lo hi = some (true, v)) (w : World) : ∃ V, (Instr.sliceAt t X Lo Hi none).run P w = .ok V w ∧ RV ρ W v V := by
  unfold sliceA at hq
  split at hq
  · rename_i s hu
    split at hq
    case h_2 => cases hq
    rename_i l k h1 h2
    simp at hq
    obtain ⟨⟨⟨a1, a2⟩, a3⟩, rfl⟩ := hq
    cases hx
    refine ⟨.string (s.extract l.toNat k.toNat), ?_, .str _⟩
    have g1 := boundA_ok hlo h1
    have g2 := boundA_ok hhi h2
    rcases g1 with ⟨rfl, rfl⟩ | ⟨kk, rfl⟩ <;> rcases g2 with ⟨rfl, rfl⟩ | ⟨kk2, rfl⟩ <;>
      simp only [Instr.sliceAt, Instr.slice, run_underlying hu, Instr.sliceBounds, Instr.sliceBound, asIntOf, Sem.run_bind, Sem.run_pure, Result.andThen_ok, Option.isSome_none, Bool.false_eq_true, if_false] <;>
      (try rw [if_pos (by omega)]) <;> (try simp only [Sem.run_pure, Result.andThen_ok]) <;> (try rw [if_pos (by omega)]) <;> (try simp only [Sem.run_pure, Result.andThen_ok]) <;> rfl
  · rename_i e s len c hu
    split at hq
    case h_2 => cases hq
    rename_i l k s' h1 h2 hsz
    split at hq
    case isFalse => cases hq
    rename_i hs; subst hs
    simp at hq
    obtain ⟨⟨⟨a1, a2⟩, a3⟩, rfl⟩ := hq
    cases hx with | csl s len cap c V hb hl hc hr =>
    rename_i b o
    have hnew : RV ρ W (.csl s (k.toNat - l.toNat) (fun i j => c (l.toNat + i) j)) (.slice (some ⟨b, if cap = l.toNat then o else o + l.toNat * s, none⟩) (k.toNat - l.toNat) (cap - l.toNat)) := by
      refine .csl s _ _ _ (fun i j => V (l.toNat + i) j) hb (by omega) (fun i j hi hj => ?_) (fun i j hi hj => hr _ _ (by omega) hj)
      rw [if_neg (by omega)]
      have := hc (l.toNat + i) j (by omega) hj
      rw [show o + l.toNat * s + (i * s + j) = o + ((l.toNat + i) * s + j) by rw [Nat.add_mul]; omega]
      exact this
    refine ⟨_, ?_, hnew⟩
    have hfin : ∀ w, ((do let size ← sizeOf e; pure (.slice (if cap = l.toNat then some ⟨b, o, none⟩ else (some (⟨b, o, none⟩ : Addr)).map (·.add (l.toNat * size))) (k.toNat - l.toNat) (cap - l.toNat))) : Sem Value).run P w = .ok (.slice (some ⟨b, if cap = l.toNat then o else o + l.toNat * s, none⟩) (k.toNat - l.toNat) (cap - l.toNat)) w := fun w => by
      simp only [Sem.run_bind, run_size hsz, Result.andThen_ok, Sem.run_pure]
      split
      · rfl
      · simp only [Option.map_some, Addr.add_mid]
    have g1 := boundA_ok hlo h1
    have g2 := boundA_ok hhi h2
    simp only [Option.map_some] at hfin
    rcases g1 with ⟨rfl, rfl⟩ | ⟨kk, rfl⟩ <;> rcases g2 with ⟨rfl, rfl⟩ | ⟨kk2, rfl⟩ <;>
      simp only [Instr.sliceAt, Instr.slice, run_underlying hu, Instr.sliceBounds, Instr.sliceBound, asIntOf, Sem.run_bind, Sem.run_pure, Result.andThen_ok, Option.map_some] <;>
      (try rw [if_pos (by omega)]) <;> (try simp only [Sem.run_pure, Result.andThen_ok]) <;> (try rw [if_pos (by omega)]) <;> (try simp only [Sem.run_pure, Result.andThen_ok]) <;>
      first | exact hfin w | (simpa using hfin w)
  · cases hq
end Go.Proofs.YthkmckmfgglafaaGreat.A
namespace Go.Proofs.YthkmckmfgglafaaGreat.A
open Go Go.RowKit
set_option linter.unusedVariables false
set_option linter.unusedSimpArgs false
variable {P : Program} {ρ : Names} {W w : World} {h : Heap}
theorem foldl_set (off : Nat) : ∀ (l : List Value) (k : Nat) (cs : Array Value), ((l.zipIdx k).foldl (fun cs (c, j) => cs.setIfInBounds (off + j) c) cs).toList = setAtV cs.toList (off + k) l
  | [], k, cs => by simp [setAtV_nil]
  | v :: l, k, cs => by
    simp only [List.zipIdx_cons, List.foldl_cons]
    rw [foldl_set off l (k + 1), setAtV_cons]
    simp [Nat.add_assoc]
theorem fill_ok (place : Nat → Option (Nat × Nat)) : ∀ {l : List (Nat × AV)} {L : List (Nat × Value)}, RP ρ W l L → ∀ {cs : List AV} {Cs : List Value}, RL ρ W cs Cs → ∀ (r : List AV), fillA place cs l = some r → ∃ R, Instr.fill place Cs.toArray L = some (List.toArray R) ∧ RL ρ W r R
  | _, _, .nil, cs, Cs, hc, r, hq => by simp [fillA] at hq; subst hq; exact ⟨Cs, by simp [Instr.fill], hc⟩
  | _, _, .cons (i := i) (v := v) (V := V) hv t, cs, Cs, hc, r, hq => by
    simp only [fillA] at hq
    simp only [Instr.fill]
    split at hq
    · cases hq
    · rename_i off size hp
      split at hq
      · rename_i hcond
        have e1 := hv.cells.length
        have e2 := hc.length
        have e3 : V.cells.toList.length = V.cells.size := by simp
        simp only [hp]
        rw [if_neg (by simp; omega)]
        have hset := RL.setAt hv.cells off hc
        have hfold : (V.cells.zipIdx.foldl (fun cs (c, j) => cs.setIfInBounds (off + j) c) Cs.toArray) = (setAtV Cs off V.cells.toList).toArray := by
          apply Array.ext'
          have := foldl_set off V.cells.toList 0 Cs.toArray
          simp only [Nat.add_zero] at this
          rw [← this]
          rw [← Array.foldl_toList, Array.toList_zipIdx]
        rw [hfold]
        exact fill_ok place t hset r hq
      · cases hq
theorem run_mapM_list {α β : Type} (f : α → Sem β) (g : α → Option β) (hf : ∀ a b, g a = some b → ∀ w, (f a).run P w = .ok b w) : ∀ (l : List α) (r : List β), l.mapM g = some r → ∀ w, (l.mapM f).run P w = .ok r w
  | [], r, hq, w => by simp at hq; subst hq; simp
  | a :: l, r, hq, w => by
    obtain ⟨b, bs, h1, h2, rfl⟩ := mapM_cons_some hq
    simp [List.mapM_cons, hf a b h1 w, run_mapM_list f g hf l bs h2 w]
theorem placesOf_mapM : ∀ (fs : List Field) (r : List (Nat × Nat)), placesOf P fs = some r → fs.mapM (fun f => (sizeT P f.type).map fun n => (f.offset, n)) = some r
  | [], r, hq => by simp [placesOf] at hq; subst hq; simp
  | f :: fs, r, hq => by
    simp only [placesOf] at hq
    split at hq
    · rename_i n rs h1 h2
      simp at hq; subst hq
      simp [List.mapM_cons, h1, placesOf_mapM fs rs h2]
    · cases hq
theorem build_ok {t : TypeId} {l : List (Nat × AV)} {L : List (Nat × Value)} {v : AV} (hl : RP ρ W l L) (hq : buildA P t l = some v) (w : World) : ∃ V, (Instr.build t L.toArray).run P w = .ok V w ∧ RV ρ W v V := by
  unfold buildA at hq
  split at hq
  · rename_i z fs hz hu
    obtain ⟨Z, g1, g2⟩ := run_zero hz ρ W w
    split at hq
    · rename_i pl hpl
      simp only [Option.map_eq_some_iff] at hq
      obtain ⟨r, hr, rfl⟩ := hq
      obtain ⟨R, f1, f2⟩ := fill_ok _ hl g2.cells r hr
      refine ⟨.agg R.toArray, ?_, .agg f2⟩
      have hm : ((fs.mapM fun f => do pure (f.offset, ← sizeOf f.type)) : Sem (Array (Nat × Nat))).run P w = .ok pl.toArray w := by
        rw [Array.mapM_eq_mapM_toList]
        have := run_mapM_list (P := P) (fun f : Field => (do pure (f.offset, ← sizeOf f.type) : Sem (Nat × Nat))) (fun f => (sizeT P f.type).map fun n => (f.offset, n))
          (fun f b hb w => by
            simp only [Option.map_eq_some_iff] at hb
            obtain ⟨n, hn, rfl⟩ := hb
            simp [run_size hn]) fs.toList pl (placesOf_mapM _ _ hpl) w
        rw [Sem.run_map, this]
        rfl
      simp only [Instr.build, Sem.run_bind, g1, Result.andThen_ok, run_underlying hu, hm]
      have e1 : (fun (x : Nat) => (pl.toArray)[x]?) = fun (i : Nat) => pl[i]? := by funext i; simp
      have e2 : Z.cells = Z.cells.toList.toArray := by simp
      rw [e1, e2, f1]
      rfl
    · cases hq
  · rename_i z n e hz hu
    obtain ⟨Z, g1, g2⟩ := run_zero hz ρ W w
    split at hq
    · rename_i k hk
      simp only [Option.map_eq_some_iff] at hq
      obtain ⟨r, hr, rfl⟩ := hq
      obtain ⟨R, f1, f2⟩ := fill_ok _ hl g2.cells r hr
      refine ⟨.agg R.toArray, ?_, .agg f2⟩
      simp only [Instr.build, Sem.run_bind, g1, Result.andThen_ok, run_underlying hu, run_size hk]
      have e2 : Z.cells = Z.cells.toList.toArray := by simp
      rw [e2, f1]
      rfl
    · cases hq
  · cases hq
/-- A call comes to an end, with a value and a world. -/
def Gives (P : Program) (g : FuncId) (A : Array Value) (w : World) (R : Value → World → Prop) : Prop :=
  ((callFunc g A).run P w = .ok (.enter g A) w ∧ Calls P g A w fun e w' => ∃ V, e = .returned V ∧ R V w') ∨ ∃ V, (callFunc g A).run P w = .ok (.value V) w ∧ R V w
/-- The slices that a call has made lie beyond what was there. -/
def Fr (n0 : Nat) : Nat → AV → Value → Prop
  | _, .nu .., .slice (some a) _ _ => n0 ≤ a.block
  | n + 1, .agg l, .agg L => ∀ (i : Nat) (v : AV) (V : Value), l[i]? = some v → L[i]? = some V → Fr n0 n v V
  | n + 1, .tup l, .tuple L => ∀ (i : Nat) (v : AV) (V : Value), l[i]? = some v → L[i]? = some V → Fr n0 n v V
  | _, _, _ => True
theorem Fr.flat {n0 : Nat} : ∀ (n : Nat) {v : AV} {V : Value}, v.flat n = true → Fr n0 n v V := by
  intro n
  induction n with
  | zero => intro v V h; cases v <;> simp [AV.flat] at h <;> simp [Fr]
  | succ n ih =>
    intro v V h
    cases v <;> simp only [AV.flat, Bool.false_eq_true] at h <;> try (simp only [Fr]; done)
    case agg l =>
      cases V <;> simp only [Fr]
      intro i v V hv hV
      exact ih (List.all_eq_true.1 h v (List.mem_of_getElem? hv))
    case tup l =>
      cases V <;> simp only [Fr]
      intro i v V hv hV
      exact ih (List.all_eq_true.1 h v (List.mem_of_getElem? hv))
def COk (P : Program) (g : FuncId) (con : Con) : Prop :=
  ∀ args p v, con args = some (p, v) → p = true → ∀ (w : World) (A : List Value), RL noNames w args A → Gives P g A.toArray w fun V w' => (RV noNames w' v V ∧ Below w.heap.size w w') ∧ Fr w.heap.size 4 v V
def TabOk (P : Program) (T : Tab) : Prop := ∀ g con, T g = some con → COk P g con
theorem RV.flat_move {W' : World} {ρ' : Names} : ∀ (n : Nat) {v : AV} {V : Value}, RV ρ W v V → v.flat n = true → RV ρ' W' v V := by
  intro n
  induction n with
  | zero =>
    intro v V hv hf
    cases hv <;> simp [AV.flat] at hf <;> constructor
  | succ n ih =>
    have hL : ∀ {l : List AV} {L : List Value}, RL ρ W l L → l.all (AV.flat n) = true → RL ρ' W' l L := by
      intro l
      induction l with
      | nil => intro L hl _; cases hl; exact .nil
      | cons a l ih2 =>
        intro L hl hf
        cases hl with | cons h1 h2 =>
        simp only [List.all_cons, Bool.and_eq_true] at hf
        exact .cons (ih h1 hf.1) (ih2 h2 hf.2)
    intro v V hv hf
    cases hv <;> simp only [AV.flat, Bool.false_eq_true] at hf
    case agg h => exact .agg (hL h hf)
    case tup h => exact .tup (hL h hf)
    case ifc h => exact .ifc _ (ih h hf)
    all_goals constructor
theorem frz_ok (hR : Rel ρ W h w) {rd : Nat → Option Ob} (hrd : ∀ n x, rd n = some x → h[n]? = some (some x)) : ∀ (n : Nat) {v v' : AV} {V : Value}, RV ρ W v V → frz rd n v = some v' → RV noNames w v' V := by
  have hk := Keeps.of_below hR.bel
  intro n
  induction n with
  | zero =>
    intro v v' V hv hq
    cases hv <;> simp [frz] at hq
    case cp b o l L j hb hl hc => subst hq; exact (RV.cp (ρ := noNames) j hb hl hc).move (Ext.refl _) hk
    case csl b o s len cap c V hl hb hc hr => subst hq; exact (RV.csl (ρ := noNames) s len cap c V hb hl hc hr).move (Ext.refl _) hk
    all_goals (subst hq; constructor)
  | succ n ih =>
    have hL : ∀ {l l' : List AV} {L : List Value}, RL ρ W l L → l.mapM (frz rd n) = some l' → RL noNames w l' L := by
      intro l
      induction l with
      | nil => intro l' L hl hq; cases hl; simp at hq; subst hq; exact .nil
      | cons a l ih2 =>
        intro l' L hl hq
        cases hl with | cons h1 h2 =>
        obtain ⟨b, bs, g1, g2, rfl⟩ := mapM_cons_some hq
        exact .cons (ih h1 g1) (ih2 h2 g2)
    intro v v' V hv hq
    cases hv <;> simp only [frz] at hq
    case ptr m b o i s j hp =>
      split at hq
      · rename_i l hl
        simp only [Option.map_eq_some_iff] at hq
        obtain ⟨l', g1, rfl⟩ := hq
        obtain ⟨b', o', e1, e2⟩ := hR.ob m _ (hrd _ _ hl)
        rw [hp] at e1; cases e1
        obtain ⟨_, h3, L, tt, h4, h5⟩ := e2
        subst h3
        refine .cp _ (hR.dom m _ hp).2 (hL h5 g1) fun x v hv => ?_
        simp [World.cell?, h4, hv]
      · cases hq
    case sl m b o i s len cap off hl ho hp =>
      split at hq
      · rename_i s' len' c hr
        split at hq
        · rename_i hcond
          obtain ⟨rfl, hlen⟩ := hcond
          simp at hq; subst hq
          obtain ⟨b', o', e1, e2⟩ := hR.ob m _ (hrd _ _ hr)
          rw [hp] at e1; cases e1
          obtain ⟨Vf, h3, h4⟩ := e2
          by_cases h0 : len = 0
          · subst h0
            exact .csl s 0 cap _ Vf (hR.dom m _ hp).2 hl (fun i j hi => by omega) (fun i j hi => by omega)
          · have hoff : off = o + i * s := by rcases ho with ho | ho; omega; exact ho
            subst hoff
            refine .csl s len cap _ (fun a b => Vf (i + a) b) (hR.dom m _ hp).2 hl (fun a j ha hj => ?_) (fun a j ha hj => ?_)
            · have := h3 (i + a) j (by omega) hj
              rw [show o + i * s + (a * s + j) = o + ((i + a) * s + j) by rw [Nat.add_mul]; omega]; exact this
            · exact (h4 (i + a) j (by omega) hj).move (Ext.refl _) hk
        · cases hq
      · cases hq
    case gs m b cap s len hle hp =>
      split at hq
      · rename_i z e s' l hl
        split at hq
        · rename_i hcond
          obtain ⟨rfl, hlen⟩ := hcond
          simp only [Option.map_eq_some_iff] at hq
          obtain ⟨l', g1, rfl⟩ := hq
          obtain ⟨b', o', e1, e2⟩ := hR.ob m _ (hrd _ _ hl)
          rw [hp] at e1; cases e1
          obtain ⟨_, _, L, fz, h4, h5, _, _, h6, h7⟩ := e2
          have hLL := hL h7 g1
          have hll := hLL.length
          have htl : (L.take l.length).length = l.length := by rw [List.length_take]; omega
          have inn : ∀ i j, i < len → j < s → i * s + j < len * s := fun i j hi hj => by
            have : (i + 1) * s ≤ len * s := Nat.mul_le_mul_right s hi
            rw [Nat.add_mul] at this
            omega
          refine .csl s len cap _ (fun a b => (L.take l.length).getD (a * s + b) undef) (hR.dom m _ hp).2 hle (fun i j hi hj => ?_) (fun i j hi hj => ?_)
          · have hlt := inn i j hi hj
            have hlt2 : i * s + j < L.length := by omega
            have : (L.take l.length)[i * s + j]? = some L[i * s + j] := by rw [List.getElem?_take, if_pos (by omega)]; simp [hlt2]
            simp only [Nat.zero_add, List.getD, this, Option.getD_some]
            simp [World.cell?, h4, hlt2]
          · have hlt := inn i j hi hj
            obtain ⟨x, hx⟩ : ∃ x, l'[i * s + j]? = some x := ⟨l'[i * s + j]'(by omega), by simp⟩
            obtain ⟨V, g2, g3⟩ := hLL.get _ _ hx
            simp only [List.getD, hx, g2, Option.getD_some]
            exact g3
        · cases hq
      · cases hq
    case gp m b cap i s j hp =>
      split at hq
      · rename_i z e s' l hl
        simp only [Option.map_eq_some_iff] at hq
        obtain ⟨l', g1, rfl⟩ := hq
        obtain ⟨b', o', e1, e2⟩ := hR.ob m _ (hrd _ _ hl)
        rw [hp] at e1; cases e1
        obtain ⟨_, _, L, fz, h4, h5, _, _, h6, h7⟩ := e2
        have := RV.cp (ρ := noNames) (W := w) (b := b) (o := 0) (i * s + j) (hR.dom m _ hp).2 (hL h7 g1) fun x v hv => by
          rw [List.getElem?_take] at hv
          split at hv
          · simp [World.cell?, h4, hv]
          · cases hv
        rwa [Nat.zero_add] at this
      · cases hq
    case mp => cases hq
    case nu => cases hq
    case yl => cases hq
    case cp b o l L j hb hl hc => simp at hq; subst hq; exact (RV.cp (ρ := noNames) j hb hl hc).move (Ext.refl _) hk
    case csl b o s len cap c V hl hb hc hr => simp at hq; subst hq; exact (RV.csl (ρ := noNames) s len cap c V hb hl hc hr).move (Ext.refl _) hk
    case agg h =>
      simp only [Option.map_eq_some_iff] at hq
      obtain ⟨l', g1, rfl⟩ := hq
      exact .agg (hL h g1)
    case fn f a b A B ha hb =>
      split at hq
      · rename_i a' b' g1 g2
        simp at hq; subst hq
        exact .fn f (hL ha g1) (hL hb g2)
      · cases hq
    case ifc t v V h =>
      simp only [Option.map_eq_some_iff] at hq
      obtain ⟨l', g1, rfl⟩ := hq
      exact .ifc t (ih h g1)
    case undef => cases hq
    case tup => cases hq
    all_goals (simp at hq; subst hq; constructor)
end Go.Proofs.YthkmckmfgglafaaGreat.A
namespace Go.Proofs.YthkmckmfgglafaaGreat.A
open Go Go.RowKit
set_option linter.unusedVariables false
set_option linter.unusedSimpArgs false
variable {P : Program} {ρ : Names} {W w : World} {h : Heap}
theorem RL.of_get : ∀ (l : List AV) (L : List Value), l.length = L.length → (∀ (i : Nat) (v : AV) (V : Value), l[i]? = some v → L[i]? = some V → RV ρ W v V) → RL ρ W l L
  | [], [], _, _ => .nil
  | [], _ :: _, hl, _ => by simp at hl
  | _ :: _, [], hl, _ => by simp at hl
  | v :: l, V :: L, hl, hg => .cons (hg 0 v V rfl rfl) (RL.of_get l L (by simpa using hl) fun i v V h1 h2 => hg (i + 1) v V (by simpa using h1) (by simpa using h2))
theorem flat_get {z : List AV} : ∀ (n i : Nat), i < n * z.length → ((List.replicate n z).flatten)[i]? = z[i % z.length]?
  | 0, i, hi => by simp at hi
  | n + 1, i, hi => by
    rw [List.replicate_succ, List.flatten_cons, List.getElem?_append]
    split
    · rename_i hlt; rw [Nat.mod_eq_of_lt hlt]
    · rename_i hge
      rw [Nat.add_mul, Nat.one_mul] at hi
      rw [flat_get n (i - z.length) (by omega), Nat.mod_eq_sub_mod (a := i) (by omega)]
theorem flat_length {z : List AV} (n : Nat) : ((List.replicate n z).flatten).length = n * z.length := by simp
/-- Noughts, as many as a slice wants. -/
theorem zeros_ok {z : AV} {Z : Value} (hz : RV ρ W z Z) {s n : Nat} (hs : z.cells.length = s) (h0 : 0 < s) : RL ρ W ((List.replicate n z.cells).flatten) (((Array.range (n * s)).map (Z.cells[· % Z.cells.size]!)).toList) := by
  have hc := hz.cells
  have hl := hc.length
  have hZ : Z.cells.size = s := by have : Z.cells.toList.length = s := by omega
                                   simpa using this
  refine RL.of_get _ _ (by rw [flat_length, hs]; simp) fun i v V h1 h2 => ?_
  have hi : i < n * s := by
    have := (List.getElem?_eq_some_iff.1 h1).1
    rw [flat_length, hs] at this; exact this
  rw [flat_get n i (by rw [hs]; exact hi), hs] at h1
  obtain ⟨U, g1, g2⟩ := hc.get _ _ h1
  have hm : i % s < Z.cells.size := by rw [hZ]; exact Nat.mod_lt _ h0
  have : V = U := by
    simp only [Array.toList_map, List.getElem?_map, Array.toList_range, List.getElem?_range hi, Option.map_some, Option.some.injEq] at h2
    rw [← h2, hZ, getElem!_pos Z.cells (i % s) hm]
    rw [Array.getElem?_toList, getElem?_pos Z.cells (i % s) hm] at g1
    exact Option.some.inj g1
  rw [this]; exact g2
theorem info_of_size {t : TypeId} {n : Nat} (hq : sizeT P t = some n) : ∃ i, P.info? t = some i ∧ i.size = n := by
  unfold sizeT at hq
  simpa using hq
theorem zero_of {t : TypeId} {z : AV} (hq : zeroT P t = some z) (ρ : Names) (W : World) {i : TypeInfo} (hi : P.info? t = some i) : ∃ Z, i.zero = some Z ∧ RV ρ W z Z := by
  unfold zeroT at hq
  simp only [hi] at hq
  split at hq
  · rename_i Z hz
    exact ⟨Z, hz, ofV_ok ρ W 3 Z z hq⟩
  · cases hq
theorem rdFlat_some {h : Heap} {n : Nat} {x : Ob} (hq : rdFlat h n = some x) : h[n]? = some (some x) := by
  unfold rdFlat at hq
  rw [getL_eq] at hq
  cases hg : h[n]? with
  | none => simp [hg] at hq
  | some u => simp [hg] at hq; rw [hq]
/-- A new block with a name of its own. -/
theorem makeF_ok (hR : Rel ρ W h w) {nm : Nat} (hf : Fresh h nm) {w' : World} (hg : w.grownBy w' none) {x : Ob} {b o : Nat} (hb : w.heap.size ≤ b) (hb' : b < w'.heap.size) (hh : Holds (ρ.with nm b o) W w' b o x) :
    Ext ρ (ρ.with nm b o) ∧ Rel (ρ.with nm b o) W (effH h nm (.alloc x)) w' ∧ (ρ.with nm b o) nm = some (b, o) := by
  have r1 := hR.grow hg (fun k e => by cases e) (fun m p y _ e => by cases e)
  have r2 := r1.name hf hb' hh fun m p y hm hp _ => by have := (hR.dom m p hm).2; omega
  exact ⟨Names.with_ext (hR.free_none hf), r2, by simp [Names.with]⟩
theorem make_ok (hR : Rel ρ W h w) {w' : World} (hg : w.grownBy w' none) {x : Ob} {b o : Nat} (hb : w.heap.size ≤ b) (hb' : b < w'.heap.size) (hh : Holds (ρ.with h.length b o) W w' b o x) :
    Ext ρ (ρ.with h.length b o) ∧ Rel (ρ.with h.length b o) W (xheap h none (some x)) w' ∧ (ρ.with h.length b o) h.length = some (b, o) := by
  obtain ⟨g1, g2, g3⟩ := makeF_ok hR (nm := h.length) (.inl rfl) hg hb hb' hh
  exact ⟨g1, by simpa [effH, xheap] using g2, g3⟩
theorem drew_grown (w : World) (C : Array Value) (e : TypeId) (fz : Nat × Nat) : w.grownBy (w.drew.alloc (.cells C e fz)) none :=
  ⟨rfl, rfl, rfl, by simp, fun k hk _ => heap_alloc_old (w := w.drew) _ hk⟩
theorem setAt_length : ∀ (vs l : List AV) (j : Nat), (setAt l j vs).length = l.length
  | [], l, j => by rw [setAt_nil]
  | v :: vs, l, j => by rw [setAt_cons, setAt_length]; simp
theorem fillA_length (place : Nat → Option (Nat × Nat)) : ∀ (vs : List (Nat × AV)) (l r : List AV), fillA place l vs = some r → r.length = l.length
  | [], l, r, hq => by simp [fillA] at hq; rw [hq]
  | (i, v) :: vs, l, r, hq => by
    simp only [fillA] at hq
    split at hq
    · cases hq
    · split at hq
      · rw [fillA_length place vs _ r hq, setAt_length]
      · cases hq
theorem holds_own {b cap s : Nat} {e : TypeId} {z : Bool} {l : List AV} {C : Array Value} {fz : Nat × Nat} (hW : W.heap.size ≤ b) (hcap : cap ≤ maxLen) (hheap : w.heap[b]? = some (.cells C e fz)) (hsize : C.size = cap * s) (hz : z = true → fz = (0, 0))
    (hfz : ∀ x, x < C.size → (decide (fz.1 ≤ x) && decide (x < fz.2)) = false) (hle : l.length ≤ C.size) (hRL : RL ρ W l (C.toList.take l.length)) : Holds ρ W w b cap (.own z e s l) :=
  ⟨hW, hcap, C.toList, fz, by simpa using hheap, by simpa using hsize, hz, by simpa using hfz, by simpa using hle, hRL⟩
theorem RL.flat_move {W' : World} {ρ' : Names} (n : Nat) : ∀ {l : List AV} {L : List Value}, RL ρ W l L → l.all (AV.flat n) = true → RL ρ' W' l L
  | _, _, .nil, _ => .nil
  | _, _, .cons h t, ha => by
    simp only [List.all_cons, Bool.and_eq_true] at ha
    exact .cons (h.flat_move n ha.1) (RL.flat_move n t ha.2)
/-- What a slice that a call has made is for its caller. -/
def RnOk (n0 : Nat) (w' : World) (n : Nat) (v : AV) (V : Value) : Prop :=
  (v.nus n = [] → ∀ (ρ : Names) (W : World) (nm : Nat), RV ρ W (v.rn nm n) V) ∧
  (∀ ob, v.nus n = [ob] → ∃ b cap, n0 ≤ b ∧ b < w'.heap.size ∧ (∀ (ρ : Names) (W : World), W.heap.size ≤ b → Holds ρ W w' b cap ob) ∧ ∀ (ρ : Names) (W : World) (nm : Nat), ρ nm = some (b, cap) → RV ρ W (v.rn nm n) V)
theorem rn_leaf {n0 : Nat} {w' : World} {n : Nat} {v : AV} {V : Value} (hv : RV noNames w' v V) (hf : v.flat n = true) (h1 : v.nus n = []) (h2 : ∀ nm, v.rn nm n = v) : RnOk n0 w' n v V :=
  ⟨fun _ ρ W nm => by rw [h2]; exact hv.flat_move n hf, fun ob h => by rw [h1] at h; cases h⟩
theorem rnl_ok {n0 : Nat} {w' : World} {n : Nat} (ih : ∀ {v : AV} {V : Value}, RV noNames w' v V → v.okN n = true → Fr n0 n v V → RnOk n0 w' n v V) : ∀ {l : List AV} {L : List Value}, RL noNames w' l L → l.all (AV.okN n) = true → (∀ (i : Nat) (v : AV) (V : Value), l[i]? = some v → L[i]? = some V → Fr n0 n v V) →
    (((l.map (AV.nus n)).flatten = [] → ∀ (ρ : Names) (W : World) (nm : Nat), RL ρ W (l.map (AV.rn nm n)) L) ∧
    (∀ ob, (l.map (AV.nus n)).flatten = [ob] → ∃ b cap, n0 ≤ b ∧ b < w'.heap.size ∧ (∀ (ρ : Names) (W : World), W.heap.size ≤ b → Holds ρ W w' b cap ob) ∧ ∀ (ρ : Names) (W : World) (nm : Nat), ρ nm = some (b, cap) → RL ρ W (l.map (AV.rn nm n)) L))
  | _, _, .nil, _, _ => ⟨fun _ _ _ _ => .nil, fun ob h => by simp at h⟩
  | _, _, .cons h t, ha, hF => by
    simp only [List.all_cons, Bool.and_eq_true] at ha
    obtain ⟨g1, g2⟩ := ih h ha.1 (hF 0 _ _ rfl rfl)
    obtain ⟨g3, g4⟩ := rnl_ok ih t ha.2 (fun i v V a b => hF (i + 1) v V (by simpa using a) (by simpa using b))
    constructor
    · intro e ρ W nm
      simp only [List.map_cons, List.flatten_cons, List.append_eq_nil_iff] at e
      exact .cons (g1 e.1 ρ W nm) (g3 e.2 ρ W nm)
    · intro ob e
      simp only [List.map_cons, List.flatten_cons] at e
      rcases List.append_eq_singleton_iff.1 e with ⟨e1, e2⟩ | ⟨e1, e2⟩
      · obtain ⟨b, cap, k1, k2, k3, k4⟩ := g4 ob e2
        exact ⟨b, cap, k1, k2, k3, fun ρ W nm hn => .cons (g1 e1 ρ W nm) (k4 ρ W nm hn)⟩
      · obtain ⟨b, cap, k1, k2, k3, k4⟩ := g2 ob e1
        exact ⟨b, cap, k1, k2, k3, fun ρ W nm hn => .cons (k4 ρ W nm hn) (g3 e2 ρ W nm)⟩
theorem nu_leaf {n0 : Nat} {w' : World} {n : Nat} {e s len : Nat} {l : List AV} {V : Value} (hv : RV noNames w' (.nu e s len l) V) (ho : (AV.nu e s len l).okN n = true) (hF : Fr n0 n (.nu e s len l) V) : RnOk n0 w' n (.nu e s len l) V := by
  have ho' : (l.all (AV.flat 4) && decide (l.length = len * s)) = true := by cases n <;> simpa [AV.okN] using ho
  simp only [Bool.and_eq_true, decide_eq_true_eq] at ho'
  cases hv with | nu e s len hb hc hl hW hs hlen h =>
  rename_i b cap L
  have hF' : n0 ≤ b := by cases n <;> simpa [Fr] using hF
  have hn : (AV.nu e s len l).nus n = [.own true e s l] := by cases n <;> rfl
  have hr : ∀ nm, (AV.nu e s len l).rn nm n = .gs nm s len := by intro nm; cases n <;> rfl
  refine ⟨fun e => by rw [hn] at e; simp at e, fun ob e => ?_⟩
  rw [hn] at e
  simp at e
  subst e
  have hml : len * s ≤ cap * s := Nat.mul_le_mul_right _ hl
  refine ⟨b, cap, hF', hb, fun ρ W hWb => ⟨hWb, hc, L, (0, 0), hW, hs, fun _ => rfl, fun x _ => by simp, by omega, h.flat_move 4 ho'.1⟩, fun ρ W nm hp => ?_⟩
  rw [hr]
  exact .gs _ _ hp hl
theorem rn_ok {n0 : Nat} {w' : World} : ∀ (n : Nat) {v : AV} {V : Value}, RV noNames w' v V → v.okN n = true → Fr n0 n v V → RnOk n0 w' n v V := by
  intro n
  induction n with
  | zero =>
    intro v V hv ho hF
    cases v
    case nu => exact nu_leaf hv ho hF
    all_goals exact rn_leaf hv ho rfl (fun _ => rfl)
  | succ n ih =>
    intro v V hv ho hF
    cases v
    case nu => exact nu_leaf hv ho hF
    case agg l =>
      cases hv with | agg hl =>
      rename_i L
      obtain ⟨g1, g2⟩ := rnl_ok ih hl ho (fun i v V a b => hF i v V a (by simpa using b))
      refine ⟨fun e ρ W nm => .agg (g1 e ρ W nm), fun ob e => ?_⟩
      obtain ⟨b, cap, k1, k2, k3, k4⟩ := g2 ob e
      exact ⟨b, cap, k1, k2, k3, fun ρ W nm hn => .agg (k4 ρ W nm hn)⟩
    case tup l =>
      cases hv with | tup hl =>
      rename_i L
      obtain ⟨g1, g2⟩ := rnl_ok ih hl ho (fun i v V a b => hF i v V a (by simpa using b))
      refine ⟨fun e ρ W nm => .tup (g1 e ρ W nm), fun ob e => ?_⟩
      obtain ⟨b, cap, k1, k2, k3, k4⟩ := g2 ob e
      exact ⟨b, cap, k1, k2, k3, fun ρ W nm hn => .tup (k4 ρ W nm hn)⟩
    all_goals exact rn_leaf hv ho rfl (fun _ => rfl)
/-- A contract's result, for its caller. -/
theorem resOut_ok (hR : Rel ρ W h w) {nm : Nat} (hnm : Fresh h nm) {p : Bool} {u v : AV} {f : Eff} (hq : resOut nm p u = some (true, v, f)) {V : Value} {w' : World} (hV : RV noNames w' u V) (hB : Below w.heap.size w w') (hF : Fr w.heap.size 4 u V) :
    p = true ∧ ∃ ρ', Ext ρ ρ' ∧ RV ρ' W v V ∧ Rel ρ' W (effH h nm f) w' := by
  unfold resOut at hq
  split at hq
  · rename_i hfl
    simp at hq
    obtain ⟨rfl, rfl, rfl⟩ := hq
    exact ⟨rfl, ρ, Ext.refl ρ, hV.flat_move 4 hfl, hR.below hB⟩
  split at hq
  case isFalse => cases hq
  rename_i hok
  split at hq
  case h_2 => cases hq
  rename_i ob hob
  simp at hq
  obtain ⟨rfl, rfl, rfl⟩ := hq
  obtain ⟨b, cap, k1, k2, k3, k4⟩ := (rn_ok 4 hV hok hF).2 ob hob
  obtain ⟨g1, g2, g3⟩ := makeF_ok hR hnm (w' := w') ⟨hB.os, hB.tape, hB.output, hB.size, fun k hk _ => hB.block k hk⟩ k1 k2 (k3 (ρ.with nm b cap) W (Nat.le_trans hR.bel.size k1))
  exact ⟨rfl, _, g1, k4 _ W nm g3, g2⟩
end Go.Proofs.YthkmckmfgglafaaGreat.A
namespace Go.Proofs.YthkmckmfgglafaaGreat.A
open Go Go.RowKit
set_option linter.unusedVariables false
set_option linter.unusedSimpArgs false
variable {P : Program} {ρ : Names} {W w : World} {h : Heap}
theorem wp_value {o : Oper} {a : Act} {w' : World} {K : Act → World → Prop} {Q : Exit → Act → World → Prop} {V : Value} (hr : (execOp a.eval o).run P w = .ok (.value V) w') (hK : K (a.put o.dst V) w') : o.wp P a w K Q := by
  unfold Oper.wp; rw [hr]; exact hK
theorem wp_skipped {o : Oper} {a : Act} {w' : World} {K : Act → World → Prop} {Q : Exit → Act → World → Prop} (hr : (execOp a.eval o).run P w = .ok .skip w') (hK : K (a.put o.dst undef) w') : o.wp P a w K Q := by
  unfold Oper.wp; rw [hr]; exact hK
theorem wp_gives {o : Oper} {a : Act} {w : World} {K : Act → World → Prop} {Q : Exit → Act → World → Prop} {g : FuncId} {A : Array Value} {R : Value → World → Prop} (hg : Gives P g A w R)
    (hr : (execOp a.eval o).run P w = (callFunc g A).run P w) (hK : ∀ V w', R V w' → K (a.put o.dst V) w') : o.wp P a w K Q := by
  unfold Oper.wp; rw [hr]
  rcases hg with ⟨h1, h2⟩ | ⟨V, h1, h2⟩
  · rw [h1]
    refine h2.mono fun e w' he => ?_
    obtain ⟨V, rfl, hR⟩ := he
    exact hK V w' hR
  · rw [h1]; exact hK V w h2
theorem box_ok (hR : Rel ρ W h w) {nm : Nat} (hf : Fresh h nm) {t : TypeId} {v : AV} {V : Value} (hv : RV ρ W v V) :
    ∃ w', (Instr.box t V).run P w = .ok (.pointer (some ⟨w.heap.size, 0, none⟩)) w' ∧ Rel (ρ.with nm w.heap.size 0) W (effH h nm (.alloc (.cells v.cells))) w' ∧ RV (ρ.with nm w.heap.size 0) W (.ptr nm 0 0 0) (.pointer (some ⟨w.heap.size, 0, none⟩)) := by
  have hnew := hR.alloc hf hv.cells t
  refine ⟨_, ?_, hnew, ?_⟩
  · simp only [Instr.box, newVar, newRow, Sem.run_bind, run_newObj, Result.andThen_ok, Sem.run_pure]
    rfl
  · have : (ρ.with nm w.heap.size 0) nm = some (w.heap.size, 0) := by simp [Names.with]
    simpa using RV.ptr (ρ := ρ.with nm w.heap.size 0) (W := W) 0 0 0 this
theorem methA_ok {t : TypeId} {name : String} {f : FuncId} (h : methA P t name = some f) (n : Nat) (V : Value) (w : World) : (method (n + 1) t V name).run P w = .ok (f, V) w := by
  unfold methA at h
  split at h
  case h_2 => cases h
  rename_i ti hti
  split at h
  case h_2 => cases h
  rename_i m hm
  have hm' : ti.methods.find? (fun m => m.name == name) = some m := by rw [← Array.find?_toList]; exact hm
  split at h
  · cases h
  · rename_i g d hneg hp hf hnp
    simp at h
    subst h
    have hrt : (typeInfo t).run P w = .ok ti w := by simp [typeInfo, hti]
    have hru : (underlying t).run P w = .ok d w := by simp [underlying, hnp]
    unfold method
    simp only [Sem.run_bind, hrt, Result.andThen_ok, hm', hp, follow, Sem.run_pure, hf, receiverAt, hru]
    cases d with
    | pointer e => exact (hneg e rfl).elim
    | _ => rfl
  · cases h
theorem target_ok {e : Operand → Option AV} {a : Act} (he : ∀ x v, e x = some v → RV ρ W v (a.eval x)) {c : Call} {g : FuncId} {args : List AV} (hq : targetA P e c = some (g, args)) (ty : TypeId) :
    ∃ A, RL ρ W args A ∧ ∀ w, ((do let d ← resolve a.eval c ty; invoke d.target d.args) : Sem Next).run P w = (callFunc g A.toArray).run P w := by
  have e0 : c.args.map a.eval = (c.args.toList.map a.eval).toArray := by apply Array.ext'; simp
  unfold targetA at hq
  split at hq
  case h_3 => cases hq
  · rename_i r name hc
    split at hq
    case h_2 => cases hq
    rename_i t v args' h1 h2
    split at hq
    case h_2 => cases hq
    rename_i g' hg
    simp at hq
    obtain ⟨rfl, rfl⟩ := hq
    have hfv := he _ _ h1
    generalize hF : a.eval r = F at hfv
    cases hfv with | ifc t hv =>
    rename_i V
    have has := evAll_ok he _ _ h2
    refine ⟨V :: c.args.toList.map a.eval, .cons hv has, fun w => ?_⟩
    have hd : Made.depth = 99 + 1 := rfl
    simp only [resolve, hc, Sem.run_bind, Sem.run_pure, Result.andThen_ok, invoke, hF, e0]
    simp [callMethod, run_program, hd, ← Nat.add_assoc, methA_ok hg]
    rw [List.take_of_length_le (by simp)]
  rename_i f hc
  split at hq
  case h_2 => cases hq
  rename_i g' first cap zs h1 h2
  simp at hq
  obtain ⟨rfl, rfl⟩ := hq
  have hfv := he _ _ h1
  generalize hF : a.eval f = F at hfv
  cases hfv with | fn f' ha hb =>
  rename_i A B
  have has := evAll_ok he _ _ h2
  refine ⟨A ++ (c.args.toList.map a.eval ++ B), ha.append (has.append hb), fun w => ?_⟩
  simp only [resolve, hc, Sem.run_bind, hF, Deferred.ofValue, Sem.run_pure, Result.andThen_ok, invoke]
  congr 2
  rw [e0]
  simp
theorem keyEq_ok {kt : TypeId} {k k' : AV} {K K' : Value} {b : Bool} (hk : RV ρ W k K) (hk' : RV ρ W k' K') (ho : keyOk P kt k = true) (hq : keyEq k k' = some b) : ∃ d, P.underlying kt = some d ∧ Instr.sameNow d K K' = some b := by
  unfold keyOk at ho
  unfold keyEq at hq
  split at hq
  · split at hq
    · rename_i hkk; subst hkk
      cases hk; cases hk'
      split at ho
      · rename_i hu he
        exact ⟨_, hu, by simp [Instr.sameNow]; simpa using hq⟩
      · rename_i he; cases he
      · cases ho
    · cases hq
  · cases hk; cases hk'
    split at ho
    · rename_i he; cases he
    · rename_i hu he
      exact ⟨_, hu, by simpa [Instr.sameNow] using hq⟩
    · cases ho
  · cases hq
theorem findA_ok {kt : TypeId} {k : AV} {K : Value} (hk : RV ρ W k K) (ho : keyOk P kt k = true) {d : TypeDesc} (hd : P.underlying kt = some d) : ∀ {l : List (AV × AV)} {L : List MapEntry}, RE ρ W l L → ∀ (i : Nat) (r : Option (Nat × AV)), findA k l i = some r →
    ∃ R, Instr.findNow d K L i = some R ∧ (match r, R with
      | none, none => True
      | some (j, v), some (j', V) => j = j' ∧ i ≤ j ∧ (∃ e, L[j - i]? = some e ∧ e.val = V ∧ ∃ k' , RV ρ W k' e.key ∧ keyEq k k' = some true) ∧ RV ρ W v V
      | _, _ => False)
  | _, _, .nil, i, r, hq => by simp [findA] at hq; subst hq; exact ⟨none, rfl, trivial⟩
  | _, _, .cons (k := k') (v := v) (e := e) hk' hv t, i, r, hq => by
    simp only [findA] at hq
    split at hq
    · rename_i hb
      simp at hq; subst hq
      obtain ⟨d', g1, g2⟩ := keyEq_ok hk hk' ho hb
      rw [hd] at g1; cases g1
      exact ⟨some (i, e.val), by simp only [Instr.findNow, g2], rfl, Nat.le_refl _, ⟨e, by simp, rfl, k', hk', hb⟩, hv⟩
    · rename_i hb
      obtain ⟨d', g1, g2⟩ := keyEq_ok hk hk' ho hb
      rw [hd] at g1; cases g1
      obtain ⟨R, g3, g4⟩ := findA_ok hk ho hd t (i + 1) r hq
      refine ⟨R, by simp only [Instr.findNow, g2]; exact g3, ?_⟩
      cases r with
      | none => cases R <;> simp_all
      | some p =>
        obtain ⟨j, u⟩ := p
        cases R with
        | none => simp at g4
        | some q =>
          obtain ⟨j', V⟩ := q
          obtain ⟨h1, h2, ⟨e', h3, h4⟩, h5⟩ := g4
          refine ⟨h1, by omega, ⟨e', ?_, h4⟩, h5⟩
          rw [show j - i = (j - (i + 1)) + 1 by omega]
          simpa using h3
    · cases hq
theorem checkKey_ok {kt : TypeId} {k : AV} {K : Value} (ho : keyOk P kt k = true) (hk : RV ρ W k K) (em : Bool) (n : Nat) (w : World) : (Instr.checkKey em (n + 1) kt K).run P w = .ok () w := by
  unfold keyOk at ho
  split at ho
  · rename_i hu; cases hk; simp [Instr.checkKey, run_underlying hu]
  · rename_i hu; cases hk; simp [Instr.checkKey, run_underlying hu]
  · cases ho
theorem keyOk_some {kt : TypeId} {k : AV} (ho : keyOk P kt k = true) : ∃ d, P.underlying kt = some d := by
  unfold keyOk at ho
  split at ho
  · exact ⟨_, by assumption⟩
  · exact ⟨_, by assumption⟩
  · cases ho
theorem lookA_ok (hR : Rel ρ W h w) {rd : Nat → Option Ob} (hrd' : ∀ n x, rd n = some x → h[n]? = some (some x)) {t : TypeId} {xx kk : AV} {X Kv : Value} {ok : Bool} {v : AV} (hxx : RV ρ W xx X) (hkk : RV ρ W kk Kv) (hq : lookA P rd t xx kk ok = some v) : ∃ V, (Instr.lookup t X Kv ok).run P w = .ok V w ∧ RV ρ W v V := by
  unfold lookA at hq
  split at hq
  case h_2 => cases hq
  rename_i kt el n hu
  split at hq
  case h_2 => cases hq
  rename_i l c z ho hrd hz
  cases hxx with | mp hp =>
  rename_i b o'
  have hm0 := hrd' _ _ hrd
  obtain ⟨b', o2, e1, e2⟩ := hR.ob n _ hm0
  rw [hp] at e1; cases e1
  obtain ⟨hW0, L, h4, h5⟩ := e2
  obtain ⟨d, hd⟩ := keyOk_some ho
  obtain ⟨Z, hZ, rZ⟩ := run_zero hz ρ W w
  have hget : (getObj b).run P w = .ok (.map L.toArray c) w := by simp [getObj, Sem.run, h4]
  have fin : ∀ (r : Option (Nat × AV)), findA kk l 0 = some r → ∀ u, (match r with | some (_, v) => u = (if ok then AV.tup [v, .bool true] else v) | none => u = (if ok then AV.tup [z, .bool false] else z)) → ∃ V, (Instr.lookup t (.map (some b)) Kv ok).run P w = .ok V w ∧ RV ρ W u V := by
    intro r hr u hu2
    obtain ⟨R, g1, g2⟩ := findA_ok hkk ho hd h5 0 r hr
    have hfk : (Instr.findKey kt Kv L).run P w = .ok R w := by simp [Instr.findKey, run_underlying hd, g1]
    have hck' : (Instr.checkKey L.isEmpty 10000 kt Kv).run P w = .ok () w := checkKey_ok ho hkk L.isEmpty 9999 w
    cases r with
    | none =>
      cases R with
      | none =>
        refine ⟨if ok then .tuple #[Z, .bool false] else Z, ?_, ?_⟩
        · cases ok <;> simp [Instr.lookup, run_underlying hu, hget, hck', hfk, hZ]
        · cases ok <;> simp only [Bool.false_eq_true, if_false, if_true] at hu2 ⊢ <;> subst hu2
          · exact rZ
          · exact .tup (.cons rZ (.cons (.bool _) .nil))
      | some q => obtain ⟨_, _⟩ := q; exact g2.elim
    | some p =>
      obtain ⟨j, u2⟩ := p
      cases R with
      | none => exact g2.elim
      | some q =>
        obtain ⟨j', V2⟩ := q
        refine ⟨if ok then .tuple #[V2, .bool true] else V2, ?_, ?_⟩
        · cases ok <;> simp [Instr.lookup, run_underlying hu, hget, hck', hfk]
        · have rv := g2.2.2.2
          cases ok <;> simp only [Bool.false_eq_true, if_false, if_true] at hu2 ⊢ <;> subst hu2
          · exact rv
          · exact .tup (.cons rv (.cons (.bool _) .nil))
  split at hq
  · rename_i i u hf
    simp at hq
    exact hq ▸ fin _ hf _ rfl
  · rename_i hf
    simp at hq
    exact hq ▸ fin _ hf _ rfl
  · cases hq
theorem opv_ok {T : Tab} (hT : TabOk P T) (hR : Rel ρ W h w) {rd : Nat → Option Ob} {nm : Nat} (hrd : ∀ n x, rd n = some x → h[n]? = some (some x)) (hnm : Fresh h nm) {e : Operand → Option AV} {a : Act}
    (he : ∀ x v, e x = some v → RV ρ W v (a.eval x)) {o : Oper} {v : AV} {f : Eff} (hv : opv P T rd nm e o = some (true, v, f)) {K : Act → World → Prop} {Q : Exit → Act → World → Prop}
    (hK : ∀ ρ' w' V, Ext ρ ρ' → RV ρ' W v V → Rel ρ' W (effH h nm f) w' → K (a.put o.dst V) w') : o.wp P a w K Q := by
  have plain : ∀ {r : Option AV}, plainOut r = some (true, v, f) → r = some v ∧ f = .no := fun {r} hq => by
    cases r <;> simp [plainOut] at hq; exact ⟨by rw [hq.1], hq.2.symm⟩
  have cond : ∀ {r : Option (Bool × AV)}, condOut r = some (true, v, f) → r = some (true, v) ∧ f = .no := fun {r} hq => by
    cases r with
    | none => simp [condOut] at hq
    | some p => obtain ⟨p, q⟩ := p; simp [condOut] at hq; exact ⟨by rw [hq.1, hq.2.1], hq.2.2.symm⟩
  have done : ∀ {V : Value}, f = .no → RV ρ W v V → K (a.put o.dst V) w := fun hf hV => hK ρ w _ (Ext.refl ρ) hV (by rw [hf]; exact hR)
  have val : ∀ {s : Sem Value} {V : Value}, f = .no → execOp a.eval o = (do pure (.value (← s))) → s.run P w = .ok V w → RV ρ W v V → o.wp P a w K Q := fun {s V} hf h1 h2 h3 =>
    wp_value (w' := w) (V := V) (by rw [h1]; simp [h2]) (done hf h3)
  unfold opv at hv
  split at hv
  case h_1 x hop =>
    obtain ⟨h1, h2⟩ := plain hv
    exact wp_value (w' := w) (V := a.eval x) (by simp only [execOp, hop] <;> rfl) (done h2 (he _ _ h1))
  case h_2 x hop =>
    obtain ⟨h1, h2⟩ := plain hv
    exact wp_value (w' := w) (V := a.eval x) (by simp only [execOp, hop] <;> rfl) (done h2 (he _ _ h1))
  case h_3 c x y hop =>
    split at hv
    · rename_i q u u' h1 h2 h3
      simp [give] at hv
      obtain ⟨rfl, rfl⟩ := hv
      have hc := he _ _ h1
      generalize hC : a.eval c = C at hc
      cases hc
      refine wp_value (w' := w) (V := if q then a.eval x else a.eval y) (by simp only [execOp, hop, hC]; simp [asBool]) (done rfl (aite_ok (he _ _ h2) (he _ _ h3)))
    · cases hv
  case h_4 t hop =>
    split at hv
    · rename_i z hz
      unfold boxOut at hv
      split at hv
      · simp at hv
        obtain ⟨rfl, rfl⟩ := hv
        obtain ⟨V, g1, g2⟩ := run_zero hz ρ W w
        obtain ⟨w', g3, g4, g5⟩ := box_ok (P := P) hR hnm (t := t) g2
        refine wp_value (w' := w') ?_ (hK _ _ _ (Names.with_ext (hR.free_none hnm)) g5 g4)
        simp only [Instr.box, Sem.run_bind, Sem.run_pure] at g3
        simp only [execOp, hop, Instr.alloc, Sem.run_bind, g1, Result.andThen_ok, g3, Sem.run_pure]
      · cases hv
    · cases hv
  case h_5 t x hop =>
    split at hv
    · rename_i u hu
      unfold boxOut at hv
      split at hv
      · simp at hv
        obtain ⟨rfl, rfl⟩ := hv
        obtain ⟨w', g3, g4, g5⟩ := box_ok (P := P) hR hnm (t := t) (he _ _ hu)
        refine wp_value (w' := w') ?_ (hK _ _ _ (Names.with_ext (hR.free_none hnm)) g5 g4)
        simp only [execOp, hop, Sem.run_bind, g3, Result.andThen_ok, Sem.run_pure]
      · cases hv
    · cases hv
  case h_6 t ps hop =>
    split at hv
    · rename_i vs hvs
      obtain ⟨h1, h2⟩ := plain hv
      obtain ⟨V, g1, g2⟩ := build_ok (P := P) (evParts_ok he _ _ hvs) h1 w
      refine val h2 (by simp only [execOp, hop] <;> rfl) ?_ g2
      have : ps.map (fun (i, x) => (i, a.eval x)) = (ps.toList.map fun (i, x) => (i, a.eval x)).toArray := by apply Array.ext'; simp
      rw [this]; exact g1
    · cases hv
  case h_7 t x hop =>
    split at hv
    · rename_i u hu
      obtain ⟨h1, h2⟩ := cond hv
      obtain ⟨V, g1, g2⟩ := loadA_ok hR hrd (he _ _ hu) h1
      exact val h2 (by simp only [execOp, hop] <;> rfl) g1 g2
    · cases hv
  case h_8 t x y hop =>
    split at hv
    · rename_i u u' h1 h2
      simp only [Option.map_eq_some_iff] at hv
      obtain ⟨⟨n, ob⟩, hs, hv⟩ := hv
      simp at hv
      obtain ⟨rfl, rfl⟩ := hv
      obtain ⟨w', g1, g2⟩ := storeA_ok (P := P) hR hrd (he _ _ h1) (he _ _ h2) hs
      refine wp_skipped (w' := w') ?_ (hK ρ w' _ (Ext.refl ρ) .undef g2)
      simp only [execOp, hop, Sem.run_bind, g1, Result.andThen_ok, Sem.run_pure]
    · cases hv
  case h_9 x hop =>
    split at hv
    · rename_i n i s j hu
      simp [give] at hv; obtain ⟨rfl, rfl⟩ := hv
      have hx := he _ _ hu
      generalize hX : a.eval x = X at hx
      refine wp_value (w' := w) (V := X) ?_ (done rfl hx)
      cases hx; simp only [execOp, hop, hX]; rfl
    · rename_i l j hu
      simp [give] at hv; obtain ⟨rfl, rfl⟩ := hv
      have hx := he _ _ hu
      generalize hX : a.eval x = X at hx
      refine wp_value (w' := w) (V := X) ?_ (done rfl hx)
      cases hx; simp only [execOp, hop, hX]; rfl
    · rename_i n i s j hu
      simp [give] at hv; obtain ⟨rfl, rfl⟩ := hv
      have hx := he _ _ hu
      generalize hX : a.eval x = X at hx
      refine wp_value (w' := w) (V := X) ?_ (done rfl hx)
      cases hx; simp only [execOp, hop, hX]; rfl
    · rename_i g fa fb hu
      simp [give] at hv; obtain ⟨rfl, rfl⟩ := hv
      have hx := he _ _ hu
      generalize hX : a.eval x = X at hx
      refine wp_value (w' := w) (V := X) ?_ (done rfl hx)
      cases hx; simp only [execOp, hop, hX]; rfl
    · cases hv
  case h_10 op t x y yt hop =>
    split at hv
    · rename_i u u' h1 h2
      obtain ⟨g1, g2⟩ := cond hv
      obtain ⟨V, g3, g4⟩ := binA_ok (P := P) (ox := x) (oy := y) (he _ _ h1) (he _ _ h2) g1 w
      exact val g2 (by simp only [execOp, hop] <;> rfl) g3 g4
    · cases hv
  case h_11 op t x hop =>
    split at hv
    · rename_i u hu
      obtain ⟨g1, g2⟩ := plain hv
      obtain ⟨V, g3, g4⟩ := unA_ok (P := P) (he _ _ hu) g1 w
      exact val g2 (by simp only [execOp, hop] <;> rfl) g3 g4
    · cases hv
  case h_12 s d x hop =>
    split at hv
    · rename_i u hu
      obtain ⟨g1, g2⟩ := plain hv
      obtain ⟨V, g3, g4⟩ := convA_ok (P := P) (he _ _ hu) g1 w
      exact val g2 (by simp only [execOp, hop] <;> rfl) g3 g4
    · cases hv
  case h_13 t x hop =>
    split at hv
    · cases hv
    · rename_i d u hni hd hu
      simp [give] at hv; obtain ⟨rfl, rfl⟩ := hv
      refine val (V := .iface t (a.eval x)) rfl (by simp only [execOp, hop] <;> rfl) ?_ (.ifc t (he _ _ hu))
      simp only [Instr.makeInterface, Sem.run_bind, run_underlying hd, Result.andThen_ok]
      rfl
    · cases hv
  case h_14 g x y hop =>
    split at hv
    · rename_i u u' h1 h2
      simp [give] at hv; obtain ⟨rfl, rfl⟩ := hv
      refine val (V := .func g (x.toList.map a.eval).toArray (y.toList.map a.eval).toArray) rfl (by simp only [execOp, hop] <;> rfl) ?_ (.fn g (evAll_ok he _ _ h1) (evAll_ok he _ _ h2))
      have e1 : ∀ z : Array Operand, z.map a.eval = (z.toList.map a.eval).toArray := fun z => by apply Array.ext'; simp
      simp only [Instr.makeFunc, e1, Sem.run_pure]
    · cases hv
  case h_15 t x lo hi hop =>
    split at hv
    · rename_i u l k h1 h2 h3
      obtain ⟨g1, g2⟩ := cond hv
      have ev : ∀ (x : Option Operand) (l : Option AV), evOpt e x = some l → match l, x.map a.eval with | none, none => True | some v, some V => RV ρ W v V | _, _ => False := fun x l hq => by
        cases x with
        | none => simp [evOpt] at hq; subst hq; trivial
        | some x =>
          simp only [evOpt, Option.map_eq_some_iff] at hq
          obtain ⟨v, hv, rfl⟩ := hq
          exact he _ _ hv
      obtain ⟨V, g3, g4⟩ := sliceA_ok (P := P) (he _ _ h1) (ev _ _ h2) (ev _ _ h3) g1 w
      exact val g2 (by simp only [execOp, hop] <;> rfl) g3 g4
    · cases hv
  case h_16 t x g hop =>
    split at hv
    · rename_i u hu
      obtain ⟨g1, g2⟩ := plain hv
      obtain ⟨V, g3, g4⟩ := fieldAddrA_ok (P := P) (he _ _ hu) g1 w
      exact val g2 (by simp only [execOp, hop] <;> rfl) g3 g4
    · cases hv
  case h_17 t x g hop =>
    split at hv
    · rename_i l fd hu hfd
      obtain ⟨g1, g2⟩ := plain hv
      have hx := he _ _ hu
      generalize hX : a.eval x = X at hx
      cases hx with | agg hx =>
      obtain ⟨V, g3, g4⟩ := field_ok (P := P) hx hfd g1 w
      exact val g2 (by simp only [execOp, hop, hX] <;> rfl) g3 g4
    · cases hv
  case h_18 t x i hop =>
    split at hv
    · rename_i u u' h1 h2
      obtain ⟨g1, g2⟩ := cond hv
      obtain ⟨V, g3, g4⟩ := indexAddrA_ok (P := P) hR (he _ _ h1) (he _ _ h2) g1
      exact val g2 (by simp only [execOp, hop] <;> rfl) g3 g4
    · cases hv
  case h_19 t x i hop =>
    split at hv
    · rename_i u u' h1 h2
      obtain ⟨g1, g2⟩ := cond hv
      obtain ⟨V, g3, g4⟩ := indexA_ok (P := P) (he _ _ h1) (he _ _ h2) g1 w
      exact val g2 (by simp only [execOp, hop] <;> rfl) g3 g4
    · cases hv
  case h_20 x i hop =>
    split at hv
    · rename_i l hu
      obtain ⟨g1, g2⟩ := plain hv
      have hx := he _ _ hu
      generalize hX : a.eval x = X at hx
      cases hx with | tup hx =>
      obtain ⟨V, g3, g4⟩ := extract_ok (P := P) hx g1 w
      exact val g2 (by simp only [execOp, hop, hX] <;> rfl) g3 g4
    · cases hv
  case h_21 c hop =>
    split at hv
    · rename_i b hb
      split at hv
      case h_2 => cases hv
      rename_i args hargs
      obtain ⟨g1, g2⟩ := plain hv
      have hL := evAll_ok he _ _ hargs
      have hrun : ∀ {s : Sem Value} {V : Value}, builtin b c.argTypes o.type (c.args.map fun | .const _ => true | _ => false) (c.args.toList.map a.eval).toArray = (do pure (.value (← s))) → s.run P w = .ok V w → RV ρ W v V → o.wp P a w K Q := fun {s V} h1 h2 h3 => by
        refine wp_value (w' := w) (V := V) ?_ (done g2 h3)
        have e0 : c.args.map a.eval = (c.args.toList.map a.eval).toArray := by apply Array.ext'; simp
        simp only [execOp, hop, resolve, hb, Sem.run_bind, Sem.run_pure, Result.andThen_ok, invoke, e0]
        refine (congrArg (fun s => Sem.run P s w) h1).trans ?_
        simp only [Sem.run_bind, h2, Result.andThen_ok, Sem.run_pure]
      unfold builtinA at g1
      split at g1
      · rename_i x
        split at g1
        · rename_i t ht
          generalize c.args.toList.map a.eval = L at hL hrun
          cases hL with | cons hx hn =>
          cases hn
          obtain ⟨V, g3, g4⟩ := lenA_ok (P := P) (ty := o.type) ht hx g1 w
          exact hrun rfl g3 g4
        · cases g1
      · rename_i x r
        generalize c.args.toList.map a.eval = L at hL hrun
        cases hL with | cons hx hr =>
        obtain ⟨V, g3, g4⟩ := foldA_ok (P := P) (g := Builtin.max2) (fun x y v X Y hq hx hy w => max2A_ok x y v X Y hq hx hy w) _ _ _ _ _ hr hx g1 w
        exact hrun (s := Builtin.max_ c.argTypes o.type _) rfl (by simpa [Builtin.max_] using g3) g4
      · rename_i x r
        generalize c.args.toList.map a.eval = L at hL hrun
        cases hL with | cons hx hr =>
        obtain ⟨V, g3, g4⟩ := foldA_ok (P := P) (g := Builtin.min2) (fun x y v X Y hq hx hy w => min2A_ok x y v X Y hq hx hy w) _ _ _ _ _ hr hx g1 w
        exact hrun (s := Builtin.min_ c.argTypes o.type _) rfl (by simpa [Builtin.min_] using g3) g4
      · cases g1
    · rename_i hnb
      unfold callA at hv
      split at hv
      case h_2 => cases hv
      rename_i g args hta
      split at hv
      case h_2 => cases hv
      rename_i con hcon
      split at hv
      case h_2 => cases hv
      rename_i args' hfz
      split at hv
      case h_2 => cases hv
      rename_i p u hcv
      have hp : p = true := by
        unfold resOut at hv
        (repeat' split at hv) <;> simp at hv <;> exact hv.1
      subst hp
      obtain ⟨A, hA, hrunA⟩ := target_ok (P := P) he hta o.type
      have hfr : ∀ (l l' : List AV) (L : List Value), RL ρ W l L → frzAll rd l = some l' → RL noNames w l' L := by
        intro l
        induction l with
        | nil => intro l' L hl hq; cases hl; simp [frzAll] at hq; subst hq; exact .nil
        | cons x l ih =>
          intro l' L hl hq
          cases hl with | cons h1 h2 =>
          simp only [frzAll] at hq
          split at hq
          · rename_i x' r g1 g2
            simp at hq; subst hq
            exact .cons (frz_ok hR hrd 6 h1 g1) (ih _ _ h2 g2)
          · cases hq
      have hg := hT g con hcon args' true u hcv rfl w A (hfr _ _ _ hA hfz)
      refine wp_gives hg (by simp only [execOp, hop]; exact hrunA w) fun V w' hVw => ?_
      obtain ⟨_, ρ', q1, q2, q3⟩ := resOut_ok hR hnm hv hVw.1.1 hVw.1.2 hVw.2
      exact hK ρ' w' V q1 q2 q3
  case h_22 x xt t ok hop =>
    split at hv
    · rename_i u hu
      obtain ⟨g1, g2⟩ := plain hv
      obtain ⟨V, g3, g4⟩ := assertA_ok (P := P) (xt := xt) (he _ _ hu) g1 w
      exact val g2 (by simp only [execOp, hop] <;> rfl) g3 g4
    · cases hv
  case h_23 t len ps hop =>
    split at hv
    case h_2 => cases hv
    rename_i vs hvs
    unfold litOut at hv
    split at hv
    case h_2 => cases hv
    rename_i el hu
    split at hv
    case h_2 => cases hv
    rename_i n z hn hz
    split at hv
    case h_2 => cases hv
    rename_i l hl
    split at hv
    case isFalse => cases hv
    rename_i hc
    obtain ⟨c0, c1, c2, c3⟩ := hc
    simp at hv
    obtain ⟨rfl, rfl⟩ := hv
    obtain ⟨i, hi, rfl⟩ := info_of_size hn
    obtain ⟨Z, hZ, rZ⟩ := zero_of hz ρ W hi
    obtain ⟨R, hf, hRL⟩ := fill_ok (fun j => some (j * i.size, i.size)) (evParts_ok he _ _ hvs) (zeros_ok rZ (n := len) c2 c0) l hl
    have hll := fillA_length _ _ _ _ hl
    rw [flat_length, c2] at hll
    have hRl : R.length = len * i.size := by have := hRL.length; omega
    have hpos : 0 < len * i.size := Nat.mul_pos c1 c0
    have hlm : len ≤ len * i.size := Nat.le_mul_of_pos_right _ c0
    refine wp_buildSlice t el len ps hop R.toArray i Z hu hi hZ (by omega) (by omega) (by rw [Array.toList_map]; rw [Array.toArray_toList] at hf; exact hf) ?_
    obtain ⟨k1, k2, k3⟩ := makeF_ok hR hnm (w' := w.alloc (.cells R.toArray el)) (World.grownBy_alloc w _ none) (x := .own true el i.size l) (b := w.heap.size) (o := len) (Nat.le_refl _) (by simp)
      (holds_own hR.bel.size (by unfold maxLen; omega) (heap_alloc_new w _) (by simpa using hRl) (fun _ => rfl) (fun x _ => by simp) (by simp; omega) (by simp only []; rw [List.take_of_length_le (by omega)]; exact hRL.ext (Names.with_ext (hR.free_none hnm))))
    exact hK _ _ _ k1 (.gs _ _ k3 (Nat.le_refl _)) k2
  case h_24 t l c hop =>
    split at hv
    case h_2 => cases hv
    rename_i x y hl hc
    unfold makeOut at hv
    split at hv
    case h_2 => cases hv
    rename_i el kl n kc m hu
    split at hv
    case h_2 => cases hv
    rename_i i z hi hz
    split at hv
    case isFalse => cases hv
    rename_i hcc
    obtain ⟨rfl, c0, c2, c3, c4⟩ := hcc
    simp at hv
    obtain ⟨rfl, rfl⟩ := hv
    obtain ⟨Z, hZ, rZ⟩ := zero_of hz ρ W hi
    have hl' := he _ _ hl
    have hc' := he _ _ hc
    generalize hL : a.eval l = L at hl'
    generalize hC : a.eval c = C at hc'
    cases hl'; cases hc'
    have hr := run_make (P := P) w t el i Z hu hi hZ kl kc (n : Int) (n : Int) (by omega) (Int.le_refl _) (by
      have : ((i.bytes * n : Nat) : Int) ≤ 281474976710656 := by omega
      rwa [Int.natCast_mul] at this) (by unfold maxLen at c4; omega)
    simp only [Int.toNat_natCast] at hr
    refine wp_value (w' := w.alloc (.cells (madeCells Z.cells (n * i.size)) el)) (V := .slice (some ⟨w.heap.size, 0, none⟩) n n) (by simp only [execOp, hop, hL, hC]; simp only [Int.ofNat_eq_natCast, Sem.run_bind, hr, Result.andThen_ok, Sem.run_pure]) ?_
    have hzl := zeros_ok rZ (n := n) c2 c0
    have hzn : ((List.replicate n z.cells).flatten).length = n * i.size := by rw [flat_length, c2]
    obtain ⟨k1, k2, k3⟩ := makeF_ok hR hnm (w' := w.alloc (.cells (madeCells Z.cells (n * i.size)) el)) (World.grownBy_alloc w _ none) (x := .own true el i.size ((List.replicate n z.cells).flatten)) (b := w.heap.size) (o := n) (Nat.le_refl _) (by simp)
      (holds_own hR.bel.size c4 (heap_alloc_new w _) (size_madeCells _ _) (fun _ => rfl) (fun x _ => by simp) (by rw [size_madeCells, hzn]; exact Nat.le_refl _) (by
        rw [List.take_of_length_le (by rw [hzn, Array.length_toList, size_madeCells]; exact Nat.le_refl _)]
        exact hzl.ext (Names.with_ext (hR.free_none hnm))))
    exact hK _ _ _ k1 (.gs _ _ k3 (Nat.le_refl _)) k2
  case h_25 t x ix ok hop =>
    split at hv
    case h_2 => cases hv
    rename_i xa ka hx hk
    obtain ⟨h1, h2⟩ := plain hv
    obtain ⟨V, g1, g2⟩ := lookA_ok (X := a.eval x) (Kv := a.eval ix) hR hrd (he _ _ hx) (he _ _ hk) h1
    exact wp_value (w' := w) (V := V) (by simp only [execOp, hop, Sem.run_bind, g1, Result.andThen_ok, Sem.run_pure]) (done h2 g2)
  case h_26 t hop =>
    split at hv
    case h_2 => cases hv
    rename_i kt et hu
    simp at hv
    obtain ⟨rfl, rfl⟩ := hv
    refine wp_value (w' := w.alloc (.map #[] 0)) (V := .map (some w.heap.size)) (by simp only [execOp, hop, Option.map_none, Sem.run_bind, run_makeMap, Result.andThen_ok, Sem.run_pure]) ?_
    obtain ⟨k1, k2, k3⟩ := makeF_ok hR hnm (w' := w.alloc (.map #[] 0)) (World.grownBy_alloc w _ none) (x := .mapo [] 0) (b := w.heap.size) (o := 0) (Nat.le_refl _) (by simp) ⟨hR.bel.size, [], heap_alloc_new w _, .nil⟩
    exact hK _ _ _ k1 (.mp k3) k2
  case h_27 => cases hv
end Go.Proofs.YthkmckmfgglafaaGreat.A
namespace Go.Proofs.YthkmckmfgglafaaGreat.A
open Go Go.RowKit
set_option linter.unusedVariables false
set_option linter.unusedSimpArgs false
variable {P : Program} {ρ : Names} {W w : World} {T : Tab} {ops : Array Oper}
theorem no_elim {p : Prop} (h : PA.no) : p := False.elim h
/-- Fences that let all in: of activations of functions, and of rounds. -/
abbrev FR (r : Option Nat) : Fence := { Fence.wide with round := r }
theorem fencedFR (P : Program) (r : Option Nat) (m : Machine) : m.fenced P (FR r) := fenced_wide P m
theorem roomFR (r : Option Nat) (n : Nat) : (FR r).room n := room_wide n
theorem callsFR {r : Option Nat} {n : Nat} {P : Program} {f : FuncId} {args : Array Value} {w : World} {R : Ending → World → Prop} (h : Calls P f args w R) : CallsIn (FR r) n P f args w R :=
  (callsIn_wide.2 h : CallsIn Fence.wide n P f args w R)
theorem rowsFR {r : Option Nat} {n : Nat} {P : Program} {row : String} {args : Array Value} {w : World} {R : Value → World → Prop} (h : Rows P row args w R) : RowsIn (FR r) n P row args w R :=
  fun c cs _ => let ⟨v, w', q, s⟩ := h c cs; ⟨v, w', q, (StepsIn.of_steps s).mono fun m _ => fencedFR P r m⟩
theorem wpIn_of_wp {r : Option Nat} {n : Nat} {P : Program} {o : Oper} {a : Act} {w : World} {K : Act → World → Prop} {Q : Exit → Act → World → Prop} (hd : ∀ c, o.op ≠ .defer c) (h : o.wp P a w K Q) : o.wpIn (FR r) n P a w K Q := by
  unfold Oper.wp at h
  unfold Oper.wpIn
  refine ⟨fun _ _ => trivial, ?_⟩
  rw [Oper.semAt_eq _ _ _ hd]
  generalize (execOp a.eval o).run P w = res at h
  cases res with
  | ok x w' =>
    cases x <;> simp only [Oper.upon, Oper.uponIn] at h ⊢ <;> first
      | exact h
      | exact ⟨fun e => by simp [Fence.wide] at e, callsFR h⟩
      | exact ⟨fun e => by simp [Fence.wide] at e, rowsFR h⟩
      | exact h.elim
  | halt x w' => cases x <;> simp only [Oper.upon, Oper.uponIn] at h ⊢ <;> exact h
/-- The marks of the blocks for deferred calls. -/
def mkD (r : Nat) : Deferred := { target := .collected r, args := #[] }
inductive RD (ρ : Names) : List Nat → List Deferred → Prop
  | nil : RD ρ [] []
  | cons {n r : Nat} {l : List Nat} {L : List Deferred} (h : ρ n = some (r, 0)) (t : RD ρ l L) : RD ρ (n :: l) (mkD r :: L)
theorem RD.ext {ρ ρ' : Names} (he : Ext ρ ρ') : ∀ {l : List Nat} {L : List Deferred}, RD ρ l L → RD ρ' l L
  | _, _, .nil => .nil
  | _, _, .cons h t => .cons (he _ _ h) (RD.ext he t)
structure RelS (ρ : Names) (W : World) (st : St) (a : Act) (w : World) : Prop where
  t : TR ρ W st.t a.tmps
  h : Rel ρ W st.h w
  d : RD ρ st.d a.defers
theorem TR.put {ρ' : Names} {t : List (Option AV)} {a : Act} (h : TR ρ W t a.tmps) (he : Ext ρ ρ') {v : AV} {V : Value} (hv : RV ρ' W v V) (dst : Option Tmp) : TR ρ' W (putT t dst v) (a.put dst V).tmps := by
  cases dst with
  | none => exact h.ext he
  | some d =>
    refine ⟨by simp [putT, Act.put, h.len], fun i u hu => ?_⟩
    simp only [putT, List.getElem?_set] at hu
    simp only [Act.put, Array.getElem?_setIfInBounds]
    have hl := h.len
    split at hu
    · rename_i hd
      subst hd
      split at hu
      · rename_i hlt
        simp at hu; subst hu
        exact ⟨V, by simp; omega, hv⟩
      · cases hu
    · rename_i hd
      rw [if_neg hd]
      obtain ⟨U, h1, h2⟩ := h.get i u hu
      exact ⟨U, h1, h2.ext he⟩
theorem put_defers (a : Act) (dst : Option Tmp) (V : Value) : (a.put dst V).defers = a.defers := by cases dst <;> rfl
theorem RelS.ev {st : St} {a : Act} (h : RelS ρ W st a w) {tm : Nat → Option AV} (ht : ∀ t v, tm t = some v → st.t[t]? = some (some v)) : ∀ x v, evOf tm x = some v → RV ρ W v (a.eval x) := by
  intro x v hx
  cases x with
  | tmp t =>
    obtain ⟨V, h1, h2⟩ := h.t.get t v (ht t v hx)
    simp only [Act.eval, Array.getD_eq_getD_getElem?, h1, Option.getD_some]; exact h2
  | const v' => exact ofV_ok ρ W 3 _ _ hx
  | global g => simp [evOf] at hx
  | func f => simp [evOf] at hx; subst hx; exact .fn _ .nil .nil
theorem RelS.ev0 {st : St} {a : Act} (h : RelS ρ W st a w) : ∀ x v, evOf (tmAll st) x = some v → RV ρ W v (a.eval x) := h.ev fun _ _ => tmAll_some
theorem RelS.wanted {st : St} {a : Act} (h : RelS ρ W st a w) {tm : Nat → Option AV} (ht : ∀ t v, tm t = some v → st.t[t]? = some (some v)) {o : Oper} {b : Bool} (hq : wantedA ops tm o = some b) : Region.wanted o (yielded ops a.tmps) = b := by
  unfold wantedA at hq
  unfold Region.wanted
  split at hq
  · rename_i hg; simp at hq; subst hq; simp [hg]
  · rename_i j want hg
    simp only [hg]
    split at hq
    case h_2 => cases hq
    rename_i d hd
    split at hq
    · rename_i b' hb
      obtain ⟨V, h1, h2⟩ := h.t.get d _ (ht _ _ hb)
      cases h2
      simp only [yielded, hd, Option.bind_some, h1]
      simp at hq; subst hq
      cases want <;> cases b' <;> rfl
    · rename_i hb
      obtain ⟨V, h1, h2⟩ := h.t.get d _ (ht _ _ hb)
      cases h2
      simp only [yielded, hd, Option.bind_some, h1]
      simp at hq; subst hq
      cases want <;> rfl
    · cases hq
/-- What a walked call must come to. -/
def InlOk (P : Program) (inl : Inl Prop) : Prop :=
  ∀ (o : Oper) (e : Operand → Option AV) (h : Heap) (Kx : AV → Heap → Prop), inl o e h Kx →
    ∀ (ρ : Names) (W w : World) (a : Act), Rel ρ W h w → (∀ x v, e x = some v → RV ρ W v (a.eval x)) → ∀ (K : Act → World → Prop) (Q : Exit → Act → World → Prop),
      (∀ ρ' V w' v h', Ext ρ ρ' → RV ρ' W v V → Rel ρ' W h' w' → Kx v h' → K (a.put o.dst V) w') → ∀ (r : Option Nat) (n : Nat), o.wpIn (FR r) n P a w K Q
theorem noInl_ok (P : Program) : InlOk P (noInl PA) := fun _ _ _ _ h => no_elim h
variable {rr : Option Nat} {dp : Nat}
theorem step_ok (hT : TabOk P T) {ok : Nat → Nat → Bool} {lk : Lk} (hlk : LkOk lk) {rd : Nat → Heap → Nat → Option Ob} (hrd : ∀ i h n x, rd i h n = some x → h[n]? = some (some x)) {nm : Nat → Heap → Nat} {inl : Inl Prop}
    (hI : InlOk P inl) {i : Nat} {K : St → Prop} {st : St} {a : Act} (hs : RelS ρ W st a w) (hn : (∃ o, ops[i]? = some o) → Fresh st.h (nm i st.h)) (hq : stepA PA P T ok lk ops rd nm inl i K st) {K' : Act → World → Prop} {Q : Exit → Act → World → Prop}
    (hK : ∀ ρ' st' a' w', Ext ρ ρ' → RelS ρ' W st' a' w' → K st' → K' a' w') : wpOpIn (FR rr) dp P ops Q i K' a w := by
  rw [stepA_eq PA P T ok hlk] at hq
  unfold stepB at hq
  rw [getL_eq, Array.getElem?_toList] at hq
  unfold wpOpIn
  split at hq
  · rename_i ho; simp only [ho]; exact hK ρ st a w (Ext.refl ρ) hs hq
  · rename_i o ho
    simp only [ho]
    split at hq
    · exact no_elim hq
    · rename_i b hb
      rw [hs.wanted (hlk o st) hb]
      cases b with
      | false =>
        simp only [Bool.false_eq_true, if_false]
        simp only [PA, brc, fst_eq] at hq
        exact ⟨fun _ _ => trivial, hK ρ ⟨putT st.t o.dst .undef, st.h, st.d⟩ _ w (Ext.refl ρ) ⟨hs.t.put (Ext.refl ρ) .undef o.dst, hs.h, by rw [put_defers]; exact hs.d⟩ hq⟩
      | true =>
        simp only [if_true]
        simp only [PA, brc] at hq
        split at hq
        · rename_i p v f hv
          cases hok : effOk (ok i) f with
          | false => rw [hok] at hq; exact no_elim hq
          | true =>
          rw [hok] at hq
          obtain ⟨rfl, hq⟩ := brc_false.1 hq
          rw [fx_eq, fy_eq, fst_eq] at hq
          have hd : ∀ c, o.op ≠ .defer c := fun c e => by simp [opv, e] at hv
          refine wpIn_of_wp hd ?_
          exact opv_ok hT hs.h (hrd i st.h) (hn ⟨o, ho⟩) (hs.ev (hlk o st)) hv fun ρ' w' V he hV hR => hK ρ' _ _ w' he ⟨hs.t.put he hV o.dst, hR, by rw [put_defers]; exact hs.d.ext he⟩ hq
        · exact hI o _ _ _ hq ρ W w a hs.h (hs.ev (hlk o st)) K' Q (fun ρ' V w' v h' he hV hR hk => hK ρ' ⟨putT st.t o.dst v, h', st.d⟩ _ w' he ⟨hs.t.put he hV o.dst, hR, by rw [put_defers]; exact hs.d.ext he⟩ (by rw [fv_eq, fst_eq] at hk; exact hk)) rr dp
theorem rdFlat_ok (h : Heap) (n : Nat) (x : Ob) (hq : rdFlat h n = some x) : h[n]? = some (some x) := by
  unfold rdFlat at hq
  rw [getL_eq] at hq
  cases hg : h[n]? with
  | none => simp [hg] at hq
  | some u => simp [hg] at hq; rw [hq]
theorem rdDrawn_ok (base : Nat) (bf : List Nat) (own : List (Nat × Nat)) (i : Nat) (h : Heap) (n : Nat) (x : Ob) (hq : rdDrawn base bf own i h n = some x) : h[n]? = some (some x) := by
  unfold rdDrawn at hq
  split at hq
  · exact rdFlat_ok h n x (by unfold rdFlat; rw [getL_eq]; exact hq)
  · cases hq
/-- In the text's order. -/
theorem opsA_ok (hT : TabOk P T) {inl : Inl Prop} (hI : InlOk P inl) {Q : Exit → Act → World → Prop} {K : St → Prop} : ∀ (l : List Nat) {ρ : Names} {st : St} {a : Act} {w : World}, RelS ρ W st a w →
    opsA PA P T (fun _ _ => true) lkAll ops (fun _ => rdFlat) (fun _ h => h.length) inl l st K → (∀ ρ' st' a' w', Ext ρ ρ' → RelS ρ' W st' a' w' → K st' → Q .normal a' w') → wpOpsIn (FR rr) dp P ops Q l a w
  | [], ρ, st, a, w, hs, hq, hK => hK ρ st a w (Ext.refl ρ) hs hq
  | i :: r, ρ, st, a, w, hs, hq, hK => by
    rw [wpOpsIn_cons]
    exact step_ok hT lkAll_ok (fun _ => rdFlat_ok) hI hs (fun _ => .inl rfl) hq fun ρ' st' a' w' he hs' hq' => opsA_ok hT hI r hs' hq' fun ρ2 st2 a2 w2 he2 => hK ρ2 st2 a2 w2 (he.trans he2)
/-- What an operation of a region that draws its order may do. -/
def Good (base : Nat) (bf : List Nat) (mask : Nat) (own : List (Nat × Nat)) (i : Nat) : Eff → Prop
  | .set n _ => if n < base then (i, n) ∈ own ∧ okOld bf own i n = true else mask.testBit (n - base) = true ∧ (bf.getD i 0).testBit (n - base) = true
  | _ => True
theorem opv_set {rd : Nat → Option Ob} {nm : Nat} {e : Operand → Option AV} {o : Oper} {p : Bool} {v : AV} {n : Nat} {x : Ob} (hv : opv P T rd nm e o = some (p, v, .set n x)) : isStore o.op = true ∧ ∃ y, rd n = some y := by
  have plain : ∀ {r : Option AV}, plainOut r = some (p, v, .set n x) → False := fun {r} h => by
    cases r <;> simp [plainOut] at h
  have cond : ∀ {r : Option (Bool × AV)}, condOut r = some (p, v, .set n x) → False := fun {r} h => by
    cases r with
    | none => simp [condOut] at h
    | some p => obtain ⟨p, q⟩ := p; simp [condOut] at h
  have giv : ∀ {r : AV}, give r = some (p, v, .set n x) → False := fun {r} h => by
    simp [give] at h
  have bx : ∀ {r : AV}, boxOut nm r = some (p, v, .set n x) → False := fun {r} h => by
    unfold boxOut at h; split at h <;> simp at h
  unfold opv at hv
  split at hv
  case h_8 t a b hop =>
    refine ⟨by simp [isStore, hop], ?_⟩
    split at hv
    · rename_i u u' h1 h2
      simp only [Option.map_eq_some_iff] at hv
      obtain ⟨⟨m, ob⟩, hs, hv⟩ := hv
      simp at hv
      obtain ⟨_, _, rfl, rfl⟩ := hv
      unfold storeA at hs
      split at hs
      case h_3 => cases hs
      all_goals
        split at hs
        case h_2 => cases hs
        rename_i hl
        split at hs
        case isFalse => cases hs
        simp at hs
        exact ⟨_, hs.1 ▸ hl⟩
    · cases hv
  case h_21 =>
    exfalso
    split at hv
    · split at hv
      · exact plain hv
      · cases hv
    · unfold callA resOut at hv
      (repeat' split at hv) <;> simp at hv
  case h_23 =>
    exfalso
    split at hv
    · unfold litOut at hv
      (repeat' split at hv) <;> simp at hv
    · cases hv
  case h_24 =>
    exfalso
    split at hv
    · unfold makeOut at hv
      (repeat' split at hv) <;> simp at hv
    · cases hv
  all_goals (exfalso; first | exact plain hv | (split at hv <;> first | exact plain hv | exact cond hv | exact giv hv | exact bx hv | cases hv) | cases hv)
section drawn
variable (P T ops) (base : Nat) (bf : List Nat) (mask : Nat) (own : List (Nat × Nat))
abbrev stepD (i : Nat) (K : St → Prop) (st : St) : Prop := stepA PA P T (okDrawn base mask own) (lkOf ops) ops (rdDrawn base bf own) (fun i _ => base + i) (noInl PA) i K st
/-- A step: what it comes to. -/
theorem stepD_cases {i : Nat} {o : Oper} (ho : ops[i]? = some o) (st : St) :
    (∀ K, ¬ stepD P T ops base bf mask own i K st) ∨ ∃ v f, Good base bf mask own i f ∧ (∀ n x, f = .set n x → isStore o.op = true) ∧ ∀ K, (stepD P T ops base bf mask own i K st ↔ K ⟨putT st.t o.dst v, effH st.h (base + i) f, st.d⟩) ∧
      ∀ st2 : St, tmOf st2 (o.looksAt ops) = tmOf st (o.looksAt ops) → rdDrawn base bf own i st2.h = rdDrawn base bf own i st.h → (stepD P T ops base bf mask own i K st2 ↔ K ⟨putT st2.t o.dst v, effH st2.h (base + i) f, st2.d⟩) := by
  simp only [stepD, stepA_eq PA P T (okDrawn base mask own) (lkOf_ok ops)]
  simp only [stepB, getL_eq, Array.getElem?_toList, ho, fx_eq, fv_eq, fy_eq, fst_eq, PA, lkOf]
  cases hw : wantedA ops (tmOf st (o.looksAt ops)) o with
  | none => exact .inl fun K h => h
  | some b =>
    cases b with
    | false =>
      refine .inr ⟨.undef, .no, trivial, (fun _ _ h => by cases h), fun K => ⟨by simp [brc, effH], fun st2 h1 h2 => ?_⟩⟩
      rw [h1, hw]; simp [brc, effH]
    | true =>
      simp only [brc]
      cases hv : opv P T (rdDrawn base bf own i st.h) (base + i) (evOf (tmOf st (o.looksAt ops))) o with
      | none =>
        refine .inl fun K h => ?_
        simp only [noInl, PA] at h
      | some r =>
        obtain ⟨p, v, f⟩ := r
        cases hok : effOk (okDrawn base mask own i) f with
        | false => exact .inl fun K h => by simp only [hok] at h; exact h
        | true =>
        cases p with
        | false => exact .inl fun K h => by simp only [hok, Bool.cond_true] at h
        | true =>
          refine .inr ⟨v, f, ?_, fun n x hf => ?_, fun K => ⟨by simp [hok, stepSt], fun st2 h1 h2 => ?_⟩⟩
          · cases f with
            | set n x =>
              obtain ⟨_, y, hy⟩ := opv_set hv
              simp only [effOk, okDrawn] at hok
              unfold rdDrawn at hy
              simp only [Good]
              by_cases hn : n < base
              · simp only [hn, decide_true, Bool.cond_true, List.any_eq_true, Bool.and_eq_true, beq_iff_eq] at hok hy
                obtain ⟨⟨j, m⟩, hm, rfl, rfl⟩ := hok
                split at hy
                · rename_i hc
                  rw [if_pos hn]
                  exact ⟨hm, hc⟩
                · cases hy
              · simp only [hn, decide_false, Bool.cond_false] at hok hy
                split at hy
                · rename_i hc
                  rw [if_neg hn]
                  exact ⟨hok, hc⟩
                · cases hy
            | _ => trivial
          · subst hf; exact (opv_set hv).1
          · rw [h1, h2, hw]
            simp only [brc, hv, hok, Bool.cond_true, stepSt, true_and]
theorem tmOf_put {st : St} {ts : List Nat} {dst : Option Tmp} {v : AV} {h' : Heap} (hd : ∀ d, dst = some d → d ∉ ts) : tmOf ⟨putT st.t dst v, h', st.d⟩ ts = tmOf st ts := by
  funext t
  simp only [tmOf, tmAll, getL_eq]
  split
  · rename_i hc
    cases dst with
    | none => rfl
    | some d =>
      have : d ≠ t := fun e => hd d rfl (by subst e; simpa using hc)
      simp [putT, List.getElem?_set, this]
  · rfl
theorem effH_other {h : Heap} {m : Nat} {f : Eff} (hm : m < h.length) (n : Nat) (hn : n ≠ m) (hs : ∀ k x, f = .set k x → n ≠ k) : (effH h m f)[n]? = h[n]? := by
  cases f with
  | no => rfl
  | alloc o => simp only [effH]; rw [if_pos hm, List.getElem?_set]; simp [Ne.symm hn]
  | set k o => simp only [effH]; rw [List.getElem?_set]; simp [Ne.symm (hs k o rfl)]
theorem effH_length {h : Heap} {m : Nat} {f : Eff} (hm : m < h.length) : (effH h m f).length = h.length := by
  cases f with
  | no => rfl
  | alloc o => simp only [effH]; rw [if_pos hm]; simp
  | set n o => simp [effH]
/-- Two operations that may come in either order. -/
structure Free (x y : Oper) (i j : Nat) : Prop where
  ne : i ≠ j
  ap : x.apart ops y = true
  bi : (bf.getD j 0).testBit i = false
  bj : (bf.getD i 0).testBit j = false
  st : isStore x.op = true ∨ isStore y.op = true → ∀ k, mask.testBit k = true → (bf.getD i 0).testBit k = true → (bf.getD j 0).testBit k = true → False
/-- What one of the two writes the other does not look at. -/
theorem Good.away {i j : Nat} {x y : Oper} (F : Free ops bf mask x y i j) {n : Nat} {o : Ob} (hf : Good base bf mask own i (.set n o)) (sf : isStore x.op = true) : n ≠ base + j ∧ cond (n < base) (okOld bf own j n) ((bf.getD j 0).testBit (n - base)) = false := by
  simp only [Good] at hf
  by_cases hn : n < base
  · rw [if_pos hn] at hf
    refine ⟨by omega, ?_⟩
    simp only [hn, decide_true, Bool.cond_true]
    cases h : okOld bf own j n with
    | false => rfl
    | true =>
      have := List.all_eq_true.1 h _ hf.1
      simp only [bne_self_eq_false, Bool.false_or, Bool.or_eq_true, beq_iff_eq, F.bi, F.bj, Bool.false_eq_true, or_false] at this
      exact (F.ne this).elim
  · rw [if_neg hn] at hf
    refine ⟨fun e => ?_, ?_⟩
    · have := hf.2
      rw [show n - base = j by omega, F.bj] at this; cases this
    · simp only [hn, decide_false, Bool.cond_false]
      cases h : (bf.getD j 0).testBit (n - base) with
      | false => rfl
      | true => exact (F.st (.inl sf) _ hf.1 hf.2 h).elim
theorem Free.symm {x y : Oper} {i j : Nat} (F : Free ops bf mask x y i j) (hxy : y.apart ops x = true) : Free ops bf mask y x j i := ⟨F.ne.symm, hxy, F.bj, F.bi, fun h k a b c => F.st h.symm k a c b⟩
theorem apart_symm {x y : Oper} (h : x.apart ops y = true) : y.apart ops x = true := by
  obtain ⟨a1, a2, a3⟩ := Oper.apart_spec h
  unfold Oper.apart
  cases hx : x.dst with
  | none =>
    cases hy : y.dst with
    | none => simp
    | some e => simpa using a3 e hy
  | some d =>
    cases hy : y.dst with
    | none => simpa using a1 d hx
    | some e =>
      have h1 := a1 d hx
      have h2 := a2 d hx
      have h3 := a3 e hy
      rw [hy] at h2
      simp at h2
      simp [h1, h3]
      exact fun q => h2 q.symm
theorem effH_comm {h : Heap} {i j : Nat} {x y : Oper} (F : Free ops bf mask x y i j) {f g : Eff} (hf : Good base bf mask own i f) (hg : Good base bf mask own j g) (sf : ∀ n o, f = .set n o → isStore x.op = true) (sg : ∀ n o, g = .set n o → isStore y.op = true)
    (hi : base + i < h.length) (hj : base + j < h.length) : effH (effH h (base + i) f) (base + j) g = effH (effH h (base + j) g) (base + i) f := by
  have e : ∀ {h : Heap} {m : Nat} (o : Ob), m < h.length → effH h m (.alloc o) = h.set m (some o) := fun {h m} o hm => by simp only [effH]; rw [if_pos hm]
  have s : ∀ {h : Heap} {m n : Nat} (o : Ob), effH h m (.set n o) = h.set n (some o) := fun {h m n} o => rfl
  have hne := F.ne
  have F' := F.symm ops bf mask (apart_symm ops F.ap)
  cases f with
  | no => rfl
  | alloc o =>
    cases g with
    | no => rfl
    | alloc o' => rw [e o hi, e o' hj, e o' (by simpa using hj), e o (by simpa using hi), List.set_comm _ _ (by omega)]
    | set n o' =>
      rw [e o hi, s, s, e o (by simpa using hi), List.set_comm]
      intro hn
      exact (Good.away ops base bf mask own F' hg (sg _ _ rfl)).1 hn.symm
  | set n o =>
    have w1 := Good.away ops base bf mask own F hf (sf _ _ rfl)
    cases g with
    | no => rfl
    | alloc o' =>
      rw [s, e o' (by simpa using hj), e o' hj, s, List.set_comm]
      exact w1.1
    | set m o' =>
      rw [s, s, s, s, List.set_comm]
      intro hn
      subst hn
      have w2 := w1.2
      simp only [Good] at hg
      by_cases hb : n < base
      · rw [if_pos hb] at hg
        simp only [hb, decide_true, Bool.cond_true] at w2
        rw [hg.2] at w2; cases w2
      · rw [if_neg hb] at hg
        simp only [hb, decide_false, Bool.cond_false] at w2
        rw [hg.2] at w2; cases w2
theorem rdDrawn_eff {h : Heap} {i j : Nat} {x y : Oper} (F : Free ops bf mask x y i j) {f : Eff} (hf : Good base bf mask own i f) (sf : ∀ n o, f = .set n o → isStore x.op = true) (hi : base + i < h.length) :
    rdDrawn base bf own j (effH h (base + i) f) = rdDrawn base bf own j h := by
  funext n
  simp only [rdDrawn]
  split
  · rename_i hc
    rw [effH_other hi n (fun hn => ?_) (fun k o hk hn => ?_)]
    · subst hn
      simp only [show ¬ base + i < base by omega, decide_false, Bool.cond_false, show base + i - base = i by omega, F.bi] at hc
      cases hc
    · subst hk; subst hn
      rw [(Good.away ops base bf mask own F hf (sf _ _ rfl)).2] at hc; cases hc
  · rfl
theorem putT_comm (t : List (Option AV)) {x y : Option Tmp} (v u : AV) (h : ∀ d, x = some d → y ≠ some d) : putT (putT t x v) y u = putT (putT t y u) x v := by
  cases x with
  | none => rfl
  | some d =>
    cases y with
    | none => rfl
    | some e =>
      have : d ≠ e := fun he => h d rfl (by rw [he])
      simp [putT, List.set_comm _ _ this]
theorem swapD {i j : Nat} {oi oj : Oper} (hi : ops[i]? = some oi) (hj : ops[j]? = some oj) (F : Free ops bf mask oi oj i j) {st : St} (li : base + i < st.h.length) (lj : base + j < st.h.length) {K : St → Prop}
    (h : stepD P T ops base bf mask own i (fun s => stepD P T ops base bf mask own j K s) st) : stepD P T ops base bf mask own j (fun s => stepD P T ops base bf mask own i K s) st := by
  obtain ⟨a1, a2, a3⟩ := Oper.apart_spec F.ap
  have F' := F.symm ops bf mask (apart_symm ops F.ap)
  rcases stepD_cases P T ops base bf mask own hi st with hno | ⟨v, f, hf, sf, hs⟩
  · exact (hno _ h).elim
  · rw [(hs _).1] at h
    rcases stepD_cases P T ops base bf mask own hj st with hno | ⟨u, g, hg, sg, ht⟩
    · have e1 := tmOf_put (st := st) (v := v) (h' := effH st.h (base + i) f) a1
      have e2 := rdDrawn_eff ops base bf mask own F hf sf li
      exfalso
      refine hno K ?_
      rcases stepD_cases P T ops base bf mask own hj ⟨putT st.t oi.dst v, effH st.h (base + i) f, st.d⟩ with hno2 | ⟨u, g, hg, sg, ht⟩
      · exact (hno2 _ h).elim
      · rcases Classical.em (stepD P T ops base bf mask own j (fun _ => True) st) with hT | hT
        · exact (hno _ hT).elim
        · exact (hT (((ht (fun _ => True)).2 st e1.symm e2.symm).2 trivial)).elim
    · rw [(ht _).2 ⟨putT st.t oi.dst v, effH st.h (base + i) f, st.d⟩ (tmOf_put a1) (rdDrawn_eff ops base bf mask own F hf sf li)] at h
      rw [(ht _).1, (hs _).2 ⟨putT st.t oj.dst u, effH st.h (base + j) g, st.d⟩ (tmOf_put a3) (rdDrawn_eff ops base bf mask own F' hg sg lj)]
      simp only at h ⊢
      rw [putT_comm st.t v u a2, effH_comm ops base bf mask own F hf hg sf sg li lj] at h
      exact h
theorem stepD_mono {i : Nat} {o : Oper} (ho : ops[i]? = some o) {st : St} {K K' : St → Prop}
    (hK : ∀ v f, Good base bf mask own i f → K ⟨putT st.t o.dst v, effH st.h (base + i) f, st.d⟩ → K' ⟨putT st.t o.dst v, effH st.h (base + i) f, st.d⟩) (h : stepD P T ops base bf mask own i K st) : stepD P T ops base bf mask own i K' st := by
  rcases stepD_cases P T ops base bf mask own ho st with hno | ⟨v, f, hf, _, hs⟩
  · exact (hno _ h).elim
  · rw [(hs _).1] at h ⊢
    exact hK v f hf h
abbrev opsD (l : List Nat) (st : St) (K : St → Prop) : Prop := opsA PA P T (okDrawn base mask own) (lkOf ops) ops (rdDrawn base bf own) (fun i _ => base + i) (noInl PA) l st K
structure DOk : Prop where
  on : ∀ (i : Nat) (o : Oper), ops[i]? = some o → ∀ e ∈ o.after.toList, Region.binds .any e = true → e.on < i
  up : ∀ (i j : Nat), i < ops.size → j < i → (bf.getD j 0).testBit i = false
  clo : ∀ (i : Nat) (o : Oper) (j : Nat), ops[i]? = some o → j < i → (bf.getD i 0).testBit j = true → ∃ e ∈ o.after.toList, Region.binds .any e = true ∧ (e.on = j ∨ (bf.getD e.on 0).testBit j = true)
  apart : ∀ (i j : Nat) (oi oj : Oper), ops[i]? = some oi → ops[j]? = some oj → j < i → (bf.getD i 0).testBit j = false → Free ops bf mask oj oi j i
variable {P T ops base bf mask own}
theorem drawnOk_spec (h : drawnOk ops.toList bf mask = true) : DOk ops bf mask := by
  unfold drawnOk at h
  simp only [List.all_eq_true] at h
  have h2 := h
  have hop : ∀ {i : Nat} {o : Oper}, ops[i]? = some o → i < ops.size ∧ ops.toList[i]? = some o ∧ o ∈ ops.toList := fun {i o} hi => by
    refine ⟨?_, by simpa using hi, ?_⟩
    · rcases Nat.lt_or_ge i ops.size with q | q
      · exact q
      · simp [Array.getElem?_eq_none q] at hi
    · exact List.mem_of_getElem? (i := i) (by simpa using hi)
  have hget : ∀ {i : Nat} {o : Oper}, ops[i]? = some o → (∀ e ∈ o.after.toList, Region.binds .any e = true → e.on < i) ∧ ∀ j, j < i → ∀ x, ops[j]? = some x → (bf.getD j 0).testBit i = false ∧
      (if (bf.getD i 0).testBit j = true then (o.after.toList.any fun e => Region.binds .any e && (e.on == j || (bf.getD e.on 0).testBit j)) = true else x.apart ops o = true ∧ (isStore x.op = true ∨ isStore o.op = true → bf.getD i 0 &&& bf.getD j 0 &&& mask = 0)) := fun {i o} hi => by
    obtain ⟨a1, a2, a3⟩ := hop hi
    have := h2 i (by rw [upTo_mem]; simp; omega)
    simp only [a2, Bool.and_eq_true, List.all_eq_true] at this
    refine ⟨fun e he hb => ?_, fun j hj x hx => ?_⟩
    · have := this.1 e he
      simpa [hb] using this
    · have := this.2 j (by rw [upTo_mem]; omega)
      simp only [(hop hx).2.1, Bool.and_eq_true, Bool.not_eq_true'] at this
      refine ⟨this.1, ?_⟩
      have h3 := this.2
      split
      · rename_i hb; rw [if_pos hb] at h3; exact h3
      · rename_i hb
        rw [if_neg hb] at h3
        simp only [Bool.and_eq_true, Bool.or_eq_true, Bool.not_eq_true', Bool.or_eq_false_iff, beq_iff_eq] at h3
        refine ⟨by simpa using h3.1, fun hst => ?_⟩
        rcases h3.2 with q | q
        · rcases hst with r | r
          · rw [q.1] at r; cases r
          · rw [q.2] at r; cases r
        · exact q
  refine ⟨fun i o hi => (hget hi).1, fun i j hi hj => ?_, fun i o j hi hj hb => ?_, fun i j oi oj hi hj hlt hb => ?_⟩
  · exact ((hget (Array.getElem?_eq_getElem hi)).2 j hj _ (Array.getElem?_eq_getElem (by omega))).1
  · have hlt := (hop hi).1
    have := ((hget hi).2 j hj _ (Array.getElem?_eq_getElem (by omega))).2
    rw [if_pos hb] at this
    simp only [List.any_eq_true, Bool.and_eq_true, Bool.or_eq_true, beq_iff_eq] at this
    exact this
  · have := ((hget hi).2 j hlt _ hj).2
    rw [if_neg (by rw [hb]; exact Bool.false_ne_true)] at this
    refine ⟨by omega, this.1, hb, ?_, fun hst k m1 m2 m3 => ?_⟩
    · exact ((hget hi).2 j hlt _ hj).1
    · have hz := this.2 hst
      have : (bf.getD i 0 &&& bf.getD j 0 &&& mask).testBit k = true := by simp [Nat.testBit_and, m1]; exact ⟨by simpa using m3, by simpa using m2⟩
      rw [hz] at this; simp at this
theorem bubble (hD : DOk ops bf mask) {i : Nat} {K : St → Prop} : ∀ (l : List Nat) (st : St), l.Pairwise (· < ·) → i ∈ l → (∀ j ∈ l, j < ops.size) → (∀ j ∈ l, j < i → (bf.getD i 0).testBit j = false) → st.h.length = base + ops.size →
    opsD P T ops base bf mask own l st K → stepD P T ops base bf mask own i (fun s => opsD P T ops base bf mask own (l.erase i) s K) st
  | [], st, _, hm, _, _, _, _ => by cases hm
  | j :: r, st, hp, hm, hl, hb, hlen, h => by
    by_cases hji : j = i
    · subst hji; simpa [opsD, opsA] using h
    · have hir : i ∈ r := by rcases List.mem_cons.1 hm with e | e; exact (hji e.symm).elim; exact e
      have hlt : j < i := (List.pairwise_cons.1 hp).1 i hir
      have hj := hl j (by simp)
      have hi := hl i hm
      have oj : ops[j]? = some ops[j] := Array.getElem?_eq_getElem hj
      have oi : ops[i]? = some ops[i] := Array.getElem?_eq_getElem hi
      have herase : (j :: r).erase i = j :: r.erase i := by rw [List.erase_cons]; simp [hji]
      rw [herase]
      have bji := hb j (by simp) hlt
      refine swapD P T ops base bf mask own oj oi (hD.apart i j _ _ oi oj hlt bji) (by omega) (by omega) ?_
      refine stepD_mono P T ops base bf mask own oj (fun v f hf hk => ?_) h
      exact bubble hD r _ (List.pairwise_cons.1 hp).2 hir (fun k hk => hl k (by simp [hk])) (fun k hk => hb k (by simp [hk])) (by show (effH st.h (base + j) f).length = _; rw [effH_length (by omega)]; exact hlen) hk
theorem drawn_ok (hT : TabOk P T) (hD : DOk ops bf mask) {Q : Exit → Act → World → Prop} {K : St → Prop} : ∀ (n : Nat) (todo : List Nat) {ρ : Names} {st : St} {a : Act} {w : World} {listed : Array Bool}, todo.length = n → todo.Pairwise (· < ·) → (∀ j ∈ todo, j < ops.size) →
    listed.size = ops.size → (∀ i, i < ops.size → (listed.getD i true = false ↔ i ∈ todo)) → (∀ i, i < ops.size → i ∉ todo → ∀ m, (bf.getD i 0).testBit m = true → m ∉ todo) →
    RelS ρ W st a w → (∀ i ∈ todo, st.h[base + i]? = some none) → st.h.length = base + ops.size → opsD P T ops base bf mask own todo st K → (∀ ρ' st' a' w', Ext ρ ρ' → RelS ρ' W st' a' w' → K st' → Q .normal a' w') →
    wpAnyIn (FR rr) dp P .any ops Q n listed a w := by
  have nready : ∀ {todo : List Nat} {listed : Array Bool}, listed.size = ops.size → (∀ i, i < ops.size → (listed.getD i true = false ↔ i ∈ todo)) → ∀ i, i ∈ Region.ready .any ops listed → i < ops.size ∧ i ∈ todo ∧ ∃ o, ops[i]? = some o ∧ ∀ e ∈ o.after, Region.binds .any e = true → e.on < ops.size ∧ e.on ∉ todo := by
    intro todo listed hsz hlist i hi
    obtain ⟨h1, o, h2, h3⟩ := mem_ready.1 hi
    have hlt : i < ops.size := by rcases Nat.lt_or_ge i ops.size with q | q; exact q; simp [Array.getElem?_eq_none q] at h2
    refine ⟨hlt, (hlist i hlt).1 h1, o, h2, fun e he hb => ?_⟩
    have h4 := h3 e he hb
    have hel : e.on < ops.size := by
      rcases Nat.lt_or_ge e.on listed.size with q | q
      · omega
      · simp [Array.getElem?_eq_none q] at h4
    refine ⟨hel, fun hm => ?_⟩
    have := (hlist _ hel).2 hm
    have hel' : e.on < listed.size := by omega
    simp [hel'] at h4 this
    rw [h4] at this; cases this
  intro n
  induction n with
  | zero =>
    intro todo ρ st a w listed hn hp hl hsz hlist hdc hs hres hlen h hK
    have : todo = [] := by cases todo; rfl; simp at hn
    subst this
    refine ⟨?_, hK ρ st a w (Ext.refl ρ) hs h⟩
    cases hr : Region.ready .any ops listed with
    | nil => rfl
    | cons x xs => have := (nready hsz hlist x (by rw [hr]; simp)).2.1; cases this
  | succ n ih =>
    intro todo ρ st a w listed hn hp hl hsz hlist hdc hs hres hlen h hK
    refine ⟨fun hr => ?_, fun i hi => ?_⟩
    · -- the least that is still to come may come
      cases todo with
      | nil => simp at hn
      | cons j r =>
        exfalso
        have hj := hl j (by simp)
        have : j ∈ Region.ready .any ops listed := by
          refine mem_ready.2 ⟨(hlist j hj).2 (by simp), ops[j], Array.getElem?_eq_getElem hj, fun e he hb => ?_⟩
          have h1 := hD.on j _ (Array.getElem?_eq_getElem hj) e (by simpa using he) hb
          have h2 : e.on ∉ j :: r := fun hm => by
            rcases List.mem_cons.1 hm with q | q
            · omega
            · have := (List.pairwise_cons.1 hp).1 _ q; omega
          have h3 : ¬ listed.getD e.on true = false := fun q => h2 ((hlist _ (by omega)).1 q)
          have hel' : e.on < listed.size := by omega
          simp [hel'] at h3 ⊢
          exact h3
        rw [hr] at this; cases this
    · obtain ⟨hlt, hm, o, ho, hon⟩ := nready hsz hlist i hi
      have hbf : ∀ m, (bf.getD i 0).testBit m = true → m ∉ todo.erase i := fun m hb hmem => by
        have hmt := List.mem_of_mem_erase hmem
        have hms := hl m hmt
        rcases Nat.lt_trichotomy m i with q | q | q
        · obtain ⟨e, he, hbe, hor⟩ := hD.clo i o m ho q hb
          obtain ⟨g1, g2⟩ := hon e (by simpa using he) hbe
          rcases hor with hor | hor
          · exact g2 (hor ▸ hmt)
          · exact hdc _ g1 g2 m hor hmt
        · subst q
          have hnd : todo.Nodup := hp.imp fun h => Nat.ne_of_lt h
          exact (List.Nodup.not_mem_erase hnd) hmem
        · rw [hD.up m i hms q] at hb; cases hb
      have hnot : ∀ j ∈ todo, j < i → (bf.getD i 0).testBit j = false := fun j hj hji => by
        cases hb : (bf.getD i 0).testBit j with
        | false => rfl
        | true => exact (hbf j hb ((List.mem_erase_of_ne (by omega)).2 hj)).elim
      have hstep := bubble (P := P) (T := T) (base := base) hD todo st hp hm hl hnot hlen h
      have hstep2 := stepD_mono P T ops base bf mask own ho (K' := fun s => (s.h.length = base + ops.size ∧ ∀ k ∈ todo.erase i, s.h[base + k]? = some none) ∧ opsD P T ops base bf mask own (todo.erase i) s K) (fun v f hf hk => ⟨⟨by
          show (effH st.h (base + i) f).length = _; rw [effH_length (by omega)]; exact hlen, fun k hk2 => by
          show (effH st.h (base + i) f)[base + k]? = _
          have hne : k ≠ i := fun e => by subst e; exact (List.Nodup.not_mem_erase (hp.imp fun h => Nat.ne_of_lt h)) hk2
          rw [effH_other (by omega) _ (by omega) (fun m x hx hn => by subst hx; simp only [Good] at hf; rw [if_neg (by omega)] at hf; have g3 := hf.2; rw [← hn, show base + k - base = k by omega] at g3; exact hbf k g3 hk2)]; exact hres k (List.mem_of_mem_erase hk2)⟩, hk⟩) hstep
      refine step_ok hT (lkOf_ok ops) (rdDrawn_ok base bf own) (noInl_ok P) hs (fun _ => .inr (hres i hm)) hstep2 fun ρ' st' a' w' he hs' hk => ?_
      obtain ⟨⟨k1, k2⟩, k3⟩ := hk
      have hnd : todo.Nodup := hp.imp fun h => Nat.ne_of_lt h
      refine ih (todo.erase i) (by rw [List.length_erase_of_mem hm]; omega) (hp.sublist List.erase_sublist) (fun j hj => hl j (List.mem_of_mem_erase hj)) (by simpa using hsz) (fun j hj => ?_) (fun j hj hnj m hb => ?_) hs' k2 k1 k3 fun ρ2 st2 a2 w2 he2 => hK ρ2 st2 a2 w2 (he.trans he2)
      · by_cases hji : j = i
        · subst hji
          have hjl : j < listed.size := by omega
          simp [hjl]
          exact List.Nodup.not_mem_erase hnd
        · rw [getD_set_ne true (Ne.symm hji), hlist j hj, List.mem_erase_of_ne hji]
      · by_cases hji : j = i
        · subst hji; exact hbf m hb
        · have hnj2 : j ∉ todo := fun q => hnj ((List.mem_erase_of_ne hji).2 q)
          exact fun q => hdc j hj hnj2 m hb (List.mem_of_mem_erase q)
end drawn
theorem upTo_pairwise : ∀ (n a : Nat), (upTo a n).Pairwise (· < ·)
  | 0, _ => .nil
  | n + 1, a => List.pairwise_cons.2 ⟨fun b hb => by rw [upTo_mem] at hb; omega, upTo_pairwise n (a + 1)⟩
theorem upTo_range (n : Nat) : upTo 0 n = List.range n := by
  apply List.ext_getElem?
  intro k
  rw [upTo_get]
  split
  · rename_i h; simp [h]
  · rename_i h; simp; omega
theorem regionA_ok (hm : P.follows .mixedOrders = true) (hT : TabOk P T) {inl : Inl Prop} (hI : InlOk P inl) {Q : Exit → Act → World → Prop} {K : St → Prop} {st : St} {a : Act} {id : Nat} {draw : Bool} (hs : RelS ρ W st a w)
    (h : regionA PA P T inl ops draw st K) (hK : ∀ ρ' st' a' w', Ext ρ ρ' → RelS ρ' W st' a' w' → K st' → Q .normal a' w') : (Code.region id ops draw).wpIn (FR rr) dp P Q a w := by
  unfold regionA at h
  cases draw with
  | false =>
    simp only [Bool.false_eq_true, if_false, upTo_range] at h
    exact wpIn_region (opsA_ok hT hI _ hs h hK)
  | true =>
    simp only [if_true] at h
    split at h
    · rename_i hok
      refine wpIn_region_any hm ?_
      have hs' : RelS ρ W ⟨st.t, st.h ++ List.replicate ops.size none, st.d⟩ a { w with drawn := w.drawn + 1 } := ⟨hs.t, (hs.h.room ops.size).drew, hs.d⟩
      refine drawn_ok hT (drawnOk_spec hok) ops.size (upTo 0 ops.size) (upTo_length _ _) (upTo_pairwise _ _) (fun j hj => by rw [upTo_mem] at hj; omega) (by simp) (fun i hi => ?_) (fun i hi hn => ?_) hs' (fun i hi => ?_) (by simp) h hK
      · simp [hi, upTo_mem]
      · exact (hn (by rw [upTo_mem]; omega)).elim
      · rw [upTo_mem] at hi
        rw [List.getElem?_append_right (by simp), List.getElem?_replicate]
        simp; omega
    · exact no_elim h
end Go.Proofs.YthkmckmfgglafaaGreat.A

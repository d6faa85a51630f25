/- The abstract machine: operations that are carried out in the text's order alone: slices that grow, maps of the activation's own, a string's iterator. -/
import Derived.Test.YthkmckmfgglafaaGreatQcdoegpehoh
import Derived.Great.BuildSlice
import Derived.Laws.IdiomStrings
import Derived.Laws.MakeOwn
import Derived.Laws.OwnMore
import Derived.MapKept
import Derived.Carry
import Derived.Test.YthkmckmfgglafaaGreatProg
import Derived.Laws.Externs
import Derived.Test.YthkmckmfgglafaaGreatQmocinbegih
import Derived.Below
import Derived.Deep.Draws
import Derived.Deep.AppendLies
import Derived.Maps.AppendAt
import Derived.OwnWalk
import Derived.Laws.BytesArg
import Derived.Deep.OwnRows
import Derived.Tactics
import Derived.Lib.ConvBytes
import Derived.Laws.Slices
import Derived.WalkKit
import Derived.KernelRfl
import Derived.RowKit3
import Derived.Deep.LoopGhost
import Derived.Deep.QuietTactic
import Derived.BigQuiet
import Derived.WideLaws
import Derived.Deep.DeepCutAuto
import Derived.Deep.CutBlock
import Derived.Deep.RegionHeld3
import Derived.Laws.Rows
import Derived.Lib.AppendStr
import Derived.ArgAppend
import Derived.Laws.IdiomCopy
import Derived.OrdersHeld
import Derived.Laws.BitsLemmas
import Derived.RowKit
import Derived.Laws.RangeString
import Derived.Laws.RangeAny
import Derived.Lib.OthersKept
import Derived.Lib.SlBytesRow
namespace Go.Proofs.YthkmckmfgglafaaGreat.A
open Go Go.RowKit
set_option linter.unusedVariables false
set_option linter.unusedSimpArgs false
variable {P : Program} {ρ : Names} {W w : World} {h : Heap}
theorem cellsOf_ok (hR : Rel ρ W h w) {s : Nat} {x : AV} {X : Value} {l : List AV} (hx : RV ρ W x X) (hq : cellsOf (rdFlat h) s x = some l) :
    ∃ n m len b cap e L fz, x = .gs n s len ∧ X = .slice (some ⟨b, 0, none⟩) len cap ∧ l.length = len * s ∧ ρ n = some (b, cap) ∧ h[n]? = some (some (.own m e s l)) ∧ w.heap[b]? = some (.cells (List.toArray L) e fz) ∧ l.length ≤ L.length ∧ RL ρ W l (L.take l.length) := by
  unfold cellsOf at hq
  split at hq
  · rename_i n s' len
    split at hq
    · rename_i z e s2 l' hl
      split at hq
      · rename_i hc
        obtain ⟨rfl, rfl, hlen⟩ := hc
        simp at hq; subst hq
        cases hx with | gs s len hp hle =>
        rename_i b cap
        have hm := rdFlat_some hl
        obtain ⟨b', o', e1, e2⟩ := hR.ob n _ hm
        rw [hp] at e1; cases e1
        obtain ⟨_, _, L, fz, h4, h5, _, _, h6, h7⟩ := e2
        exact ⟨n, z, len, b, cap, e, L, fz, rfl, rfl, hlen, hp, hm, h4, h6, h7⟩
      · cases hq
    · cases hq
  · cases hq
theorem RE.length : ∀ {l : List (AV × AV)} {L : List MapEntry}, RE ρ W l L → l.length = L.length
  | _, _, .nil => rfl
  | _, _, .cons _ _ t => by simp [RE.length t]
theorem RE.snoc {k v : AV} {e : MapEntry} (hk : RV ρ W k e.key) (hv : RV ρ W v e.val) : ∀ {l : List (AV × AV)} {L : List MapEntry}, RE ρ W l L → RE ρ W (l ++ [(k, v)]) (L ++ [e])
  | _, _, .nil => .cons hk hv .nil
  | _, _, .cons h1 h2 t => .cons h1 h2 (RE.snoc hk hv t)
theorem RE.modify {k v : AV} {K V : Value} (hk : RV ρ W k K) (hv : RV ρ W v V) : ∀ (i : Nat) {l : List (AV × AV)} {L : List MapEntry}, RE ρ W l L → RE ρ W (l.set i (k, v)) (L.modify i fun e => { e with key := K, val := V })
  | _, _, _, .nil => by simp; exact .nil
  | 0, _, _, .cons h1 h2 t => by simp; exact .cons hk hv t
  | i + 1, _, _, .cons h1 h2 t => by simp; exact .cons h1 h2 (RE.modify hk hv i t)
theorem intsOf_ok : ∀ {l : List AV} {ns : List Int} {L : List Value}, RL ρ W l L → intsOf l = some ns → L = ns.map (Value.int .u8)
  | _, _, _, .nil, hq => by simp [intsOf] at hq; subst hq; rfl
  | _, _, _, .cons h t, hq => by
    unfold intsOf at hq
    split at hq
    · rename_i e; cases e
    · rename_i n r e
      cases e
      cases h
      split at hq
      · rename_i l' hl
        simp at hq; subst hq
        rw [intsOf_ok t hl]; rfl
      · cases hq
    · cases hq
theorem foldl_push_ints : ∀ (l : List Int) (r : ByteArray), l.foldl (fun r n => r.push (UInt8.ofNat n.toNat)) r = ⟨r.data ++ (l.map fun n => UInt8.ofNat n.toNat).toArray⟩
  | [], r => by simp
  | b :: l, r => by
    simp only [List.foldl_cons]
    rw [foldl_push_ints l]
    simp [ByteArray.push]
theorem sameBits_key {kt : TypeId} {k k' : AV} {K K' : Value} (ho : keyOk P kt k = true) (hk : RV ρ W k K) (hk' : RV ρ W k' K') (hq : keyEq k k' = some true) (n : Nat) : Instr.sameBits (n + 1) K' K = true := by
  unfold keyEq at hq
  split at hq
  · split at hq
    · rename_i hkk; subst hkk
      cases hk; cases hk'
      simp at hq; subst hq
      simp [Instr.sameBits]
    · cases hq
  · cases hk; cases hk'
    simp at hq; subst hq
    simp [Instr.sameBits]
  · cases hq
/-- A slice's bounds, told. -/
theorem sliceBounds_ok {is : Bool} {len cap a b c : Nat} {lo hi mx : Option AV} {Lo Hi Mx : Option Value} (hlo : match lo, Lo with | none, none => True | some v, some V => RV ρ W v V | _, _ => False)
    (hhi : match hi, Hi with | none, none => True | some v, some V => RV ρ W v V | _, _ => False) (hmx : match mx, Mx with | none, none => True | some v, some V => RV ρ W v V | _, _ => False)
    (h1 : boundA lo 0 = some (.ofNat a)) (h2 : boundA hi len = some (.ofNat b)) (h3 : boundA mx len = some (.ofNat c)) (hab : a ≤ b) (hbc : b ≤ c) (hcl : c ≤ len) (hle : len ≤ cap) (hm : (Mx.isNone || Hi.isSome) = true) (w : World) :
    ∃ m, b ≤ m ∧ (Instr.sliceBounds is len cap Lo Hi Mx).run P w = .ok (a, b, m) w := by
  have g1 := boundA_ok hlo h1
  have g2 := boundA_ok hhi h2
  have g3 := boundA_ok hmx h3
  have sb : ∀ (k : IntKind) (x y : Nat) (cd : BoundsCode), x ≤ y → (Instr.sliceBound (.int k (x : Int)) y cd).run P w = .ok x w := fun k x y cd hxy => by
    have hc : (0 : Int) ≤ (x : Int) ∧ (x : Int) ≤ (y : Int) := ⟨by omega, by omega⟩
    simp only [Instr.sliceBound, asIntOf, Sem.run_bind, Sem.run_pure, Result.andThen_ok]
    rw [if_pos hc]
    rfl
  rcases g3 with ⟨rfl, e3⟩ | ⟨k3, rfl⟩
  · rcases g2 with ⟨rfl, e2⟩ | ⟨k2, rfl⟩
    · have eb : b = len := by have := e2; simp at this; omega
      subst eb
      rcases g1 with ⟨rfl, e1⟩ | ⟨k1, rfl⟩
      · have ea : a = 0 := by have := e1; simp at this; omega
        subst ea
        exact ⟨cap, hle, by simp [Instr.sliceBounds]⟩
      · exact ⟨cap, hle, by simp [Instr.sliceBounds, sb k1 a b _ hab]⟩
    · rcases g1 with ⟨rfl, e1⟩ | ⟨k1, rfl⟩
      · have ea : a = 0 := by have := e1; simp at this; omega
        subst ea
        exact ⟨cap, by omega, by simp [Instr.sliceBounds, sb k2 b cap _ (by omega)]⟩
      · exact ⟨cap, by omega, by simp [Instr.sliceBounds, sb k2 b cap _ (by omega), sb k1 a b _ hab]⟩
  · rcases g2 with ⟨rfl, e2⟩ | ⟨k2, rfl⟩
    · simp at hm
    · rcases g1 with ⟨rfl, e1⟩ | ⟨k1, rfl⟩
      · have ea : a = 0 := by have := e1; simp at this; omega
        subst ea
        exact ⟨c, hbc, by simp [Instr.sliceBounds, sb k3 c cap _ (by omega), sb k2 b c _ hbc]⟩
      · exact ⟨c, hbc, by simp [Instr.sliceBounds, sb k3 c cap _ (by omega), sb k2 b c _ hbc, sb k1 a b _ hab]⟩
theorem evOpt_ok {e : Operand → Option AV} {a : Act} (he : ∀ x v, e x = some v → RV ρ W v (a.eval x)) : ∀ (x : Option Operand) (l : Option AV), evOpt e x = some l → match l, x.map a.eval with | none, none => True | some v, some V => RV ρ W v V | _, _ => False := fun x l hq => by
  cases x with
  | none => simp [evOpt] at hq; subst hq; trivial
  | some x =>
    simp only [evOpt, Option.map_eq_some_iff] at hq
    obtain ⟨v, hv, rfl⟩ := hq
    exact he _ _ hv
/-- What is appended. -/
theorem append_ok (hR : Rel ρ W h w) {t : TypeId} {x y v : AV} {X Y : Value} (hx : RV ρ W x X) (hy : RV ρ W y Y) {s : Option (Nat × Ob)} {al : Option Ob} (ty : TypeId)
    (hq : appendA P (rdFlat h) h.length t x y = some (true, v, s, al)) : ∃ V w' ρ', (Builtin.append_ #[t, t] ty #[X, Y]).run P w = .ok V w' ∧ Ext ρ ρ' ∧ RV ρ' W v V ∧ Rel ρ' W (xheap h s al) w' := by
  unfold appendA at hq
  split at hq
  case h_2 => cases hq
  rename_i e hu
  split at hq
  case h_2 => cases hq
  rename_i i z hi hz
  obtain ⟨Z, hZ, rZ⟩ := zero_of hz ρ W hi
  split at hq
  case h_2 => cases hq
  rename_i n1 s1 m new hnew
  split at hq
  case isFalse => cases hq
  rename_i hc
  obtain ⟨c0, c1, c2⟩ := hc
  obtain ⟨n2, m2, len2, b, cap, e2, L, fz, hgs, rfl, hlen, hp2, hm2, hb, hle, hRL⟩ := cellsOf_ok hR hy hnew
  cases hgs
  have hzs : Z.cells.size = i.size := by
    have := rZ.cells.length
    have h2 : Z.cells.toList.length = i.size := by omega
    simpa using h2
  have hLl : (L.take new.length).length = m * i.size := by rw [List.length_take]; omega
  have hnews : ∀ j u, (L.take new.length)[j]? = some u → w.cell? ((⟨b, 0, none⟩ : Addr).add j) = some u := fun j u hj => by
    rw [List.getElem?_take] at hj
    split at hj
    · rw [Addr.add_mid]; simp [World.cell?, hb, hj]
    · cases hj
  have hone := hRL.one c2
  split at hq
  case h_3 => cases hq
  case h_1 =>
    cases hx
    split at hq
    case isFalse => cases hq
    rename_i hcc
    obtain ⟨d0, d1, d2⟩ := hcc
    simp at hq
    obtain ⟨rfl, rfl, rfl⟩ := hq
    have hr := run_append_nil (P := P) w t ty e i Z hu hi hZ ⟨b, 0, none⟩ m cap (L.take new.length) hLl hnews d0 (by unfold maxLen at d1; omega) (by omega)
    have hge := grownCap_ge w m 0 e
    have hcm := grownCap_le_maxLen w m 0 e d1
    obtain ⟨C, hC⟩ : ∃ C, C = (L.take new.length).toArray ++ Builtin.zeroCells Z.cells (grownCap w m 0 e - m) := ⟨_, rfl⟩
    have hsize : C.size = grownCap w m 0 e * i.size := by
      rw [hC]
      simp only [Array.size_append, List.size_toArray, hLl, size_zeroCells, hzs, ← Nat.add_mul]
      congr 1; omega
    have htake : C.toList.take new.length = L.take new.length := by
      rw [hC, Array.toList_append, show new.length = (L.take new.length).length by omega]
      simp
    rw [← hC] at hr
    clear hC
    have hml : m * i.size ≤ grownCap w m 0 e * i.size := Nat.mul_le_mul_right _ hge
    obtain ⟨k1, k2, k3⟩ := make_ok hR (drew_grown w C e (0, 0)) (x := .own true e i.size new) (b := w.heap.size) (o := grownCap w m 0 e) (Nat.le_refl _) (by simp)
      (holds_own hR.bel.size hcm (heap_alloc_new w.drew _) hsize (fun _ => rfl) (fun x _ => by simp) (by omega) (by rw [htake]; exact hRL.ext (Names.with_ext (hR.free_none (.inl rfl)))))
    exact ⟨_, _, _, hr, k1, .gs _ _ k3 hge, k2⟩
  case h_2 n s len =>
    cases hx with | gs s len hp hle0 =>
    rename_i g0 cap0
    split at hq
    case h_2 => cases hq
    rename_i e' s' l hl
    split at hq
    case isFalse => cases hq
    rename_i hcc
    obtain ⟨rfl, rfl, rfl, d1, d2, d3⟩ := hcc
    simp at hq
    obtain ⟨rfl, rfl, rfl⟩ := hq
    have hm0 := rdFlat_some hl
    obtain ⟨b', o', e1, e2'⟩ := hR.ob n _ hm0
    rw [hp] at e1; cases e1
    obtain ⟨hW0, hcap0, L0, fz0, h4, h5, h6, _, h7, h8⟩ := e2'
    have hfz := h6 rfl
    subst hfz
    have holds : ∀ j u, (L0.take l.length)[j]? = some u → w.cell? ((⟨g0, 0, none⟩ : Addr).add j) = some u := fun j u hj => by
      rw [List.getElem?_take] at hj
      split at hj
      · rw [Addr.add_mid]; simp [World.cell?, h4, hj]
      · cases hj
    have hl0 : (L0.take l.length).length = len * i.size := by rw [List.length_take]; omega
    obtain ⟨r1, r2⟩ := hR.kill hm0 rfl hp
    have hfresh : Fresh (h.set n (some Ob.dead)) (h.set n (some Ob.dead)).length := .inl rfl
    have hll : (l ++ new).length = (len + m) * i.size := by rw [List.length_append, d1, hlen, Nat.add_mul]
    by_cases hroom : len + m ≤ cap0
    · have hml : (len + m) * i.size ≤ cap0 * i.size := Nat.mul_le_mul_right _ hroom
      rw [Nat.add_mul] at hml
      have hr := run_append_room (P := P) w t ty e' i hu hi g0 len cap0 L0.toArray h4 ⟨b, 0, none⟩ m cap (L.take new.length) hLl hnews hone hroom (by simp only [List.size_toArray]; omega)
      obtain ⟨C, hC⟩ : ∃ C, C = (L0.toArray.toList.take (len * i.size) ++ L.take new.length ++ L0.toArray.toList.drop (len * i.size + (L.take new.length).length)).toArray := ⟨_, rfl⟩
      have hsize : C.size = cap0 * i.size := by
        rw [hC]
        simp only [List.size_toArray, List.length_append, List.length_take, List.length_drop]
        omega
      have htake : C.toList.take (l ++ new).length = L0.take l.length ++ L.take new.length := by
        rw [hC, hll, Nat.add_mul]
        simp only []
        rw [List.take_append_of_le_length (by simp only [List.length_append, List.length_take]; omega), List.take_of_length_le (by simp only [List.length_append, List.length_take]; omega), d1]
      rw [← hC] at hr
      clear hC
      have hg' : w.grownBy (w.setRow g0 C) (some g0) := ⟨rfl, rfl, rfl, by simp, fun k _ hk => setRow_other w g0 k _ (fun e => hk (by rw [e]))⟩
      have r3 := r1.grow (row := some g0) hg' (fun k e => by cases e; exact hW0) (fun m p y hm e hy => r2 m p y hm (Option.some.inj e).symm hy)
      have hext : Ext ρ (ρ.with (h.set n (some Ob.dead)).length g0 cap0) := Names.with_ext (r1.free_none hfresh)
      have r4 := r3.name hfresh (b := g0) (o := cap0) (x := .own true e' i.size (l ++ new)) (by simpa using (hR.dom n _ hp).2)
        (holds_own hW0 hcap0 (setRow_heap w g0 L0.toArray _ e' _ h4) hsize (fun _ => rfl) (fun x _ => by simp) (by rw [hll, hsize]; exact Nat.mul_le_mul_right _ hroom) (by rw [htake]; exact (h8.append hRL).ext hext)) fun m' p y hm' hpb hy => r2 m' p y hm' hpb hy
      refine ⟨_, _, _, hr, hext, .gs _ _ (by simp [Names.with]) hroom, ?_⟩
      simpa [effH, xheap] using r4
    · have hr := run_append_grow (P := P) w t ty e' i Z hu hi hZ ⟨g0, 0, none⟩ len cap0 (L0.take l.length) hl0 holds ⟨b, 0, none⟩ m cap (L.take new.length) hLl hnews (by omega) (by unfold maxLen at d2; omega) (growslice_fits (by omega) d3)
      have hge := grownCap_ge w (len + m) cap0 e'
      have hcm := grownCap_le_maxLen w (len + m) cap0 e' d2
      obtain ⟨C, hC⟩ : ∃ C, C = (L0.take l.length).toArray ++ (L.take new.length).toArray ++ Builtin.zeroCells Z.cells (grownCap w (len + m) cap0 e' - (len + m)) := ⟨_, rfl⟩
      have hsize : C.size = grownCap w (len + m) cap0 e' * i.size := by
        rw [hC]
        simp only [Array.size_append, List.size_toArray, hLl, hl0, size_zeroCells, hzs, ← Nat.add_mul]
        congr 1; omega
      have htake : C.toList.take (l ++ new).length = L0.take l.length ++ L.take new.length := by
        have hCl : C.toList = (L0.take l.length ++ L.take new.length) ++ (Builtin.zeroCells Z.cells (grownCap w (len + m) cap0 e' - (len + m))).toList := by rw [hC]; simp
        rw [hCl, hll, Nat.add_mul, List.take_append_of_le_length (by rw [List.length_append]; omega), List.take_of_length_le (by rw [List.length_append]; omega)]
      rw [← hC] at hr
      clear hC
      have hml : (len + m) * i.size ≤ grownCap w (len + m) cap0 e' * i.size := Nat.mul_le_mul_right _ hge
      have r3 := r1.grow (row := none) (drew_grown w C e' (0, 0)) (fun k e => by cases e) (fun m p y hm e hy => by cases e)
      have hext : Ext ρ (ρ.with (h.set n (some Ob.dead)).length w.heap.size (grownCap w (len + m) cap0 e')) := Names.with_ext (r1.free_none hfresh)
      have r4 := r3.name hfresh (b := w.heap.size) (o := grownCap w (len + m) cap0 e') (x := .own true e' i.size (l ++ new)) (by simp)
        (holds_own hR.bel.size hcm (heap_alloc_new w.drew _) hsize (fun _ => rfl) (fun x _ => by simp) (by omega) (by rw [htake]; exact (h8.append hRL).ext hext)) fun m' p y hm' hpb hy => by
          have := (hR.dom m' p hm').2; omega
      refine ⟨_, _, _, hr, hext, .gs _ _ (by simp [Names.with]) hge, ?_⟩
      simpa [effH, xheap] using r4
/-- A map's entry. -/
theorem upd_ok (hR : Rel ρ W h w) {t : TypeId} {kt et : TypeId} (hu : P.underlying t = some (.map kt et)) {n : Nat} {k y : AV} {X Kv Y : Value} (hxx : RV ρ W (.mp n) X) (hkk : RV ρ W k Kv) (hyy : RV ρ W y Y) (ho : keyOk P kt k = true) {l : List (AV × AV)} {c : Nat} (hrd : rdFlat h n = some (.mapo l c)) :
    (∀ i u, findA k l 0 = some (some (i, u)) → ∃ w', (Instr.mapUpdate t X Kv Y).run P w = .ok () w' ∧ Rel ρ W (h.set n (some (.mapo (l.set i (k, y)) c))) w') ∧
    (findA k l 0 = some none → ∃ w', (Instr.mapUpdate t X Kv Y).run P w = .ok () w' ∧ Rel ρ W (h.set n (some (.mapo (l ++ [(k, y)]) (c + 1)))) w') := by
  cases hxx with | mp hp =>
  rename_i b o'
  have hm0 := rdFlat_some hrd
  obtain ⟨b', o2, e1, e2⟩ := hR.ob n _ hm0
  rw [hp] at e1; cases e1
  obtain ⟨hW0, L, h4, h5⟩ := e2
  obtain ⟨d, hd⟩ := keyOk_some ho
  have hget : (getObj b).run P w = .ok (.map L.toArray c) w := by simp [getObj, Sem.run, h4]
  have hck : (Instr.checkKey false 10000 kt Kv).run P w = .ok () w := checkKey_ok ho hkk false 9999 w
  have hbl : b < w.heap.size := (Array.getElem?_eq_some_iff.1 h4).1
  have hset : ∀ ob, (setObj b ob).run P w = .ok () { w with heap := w.heap.setIfInBounds b ob } := fun ob => by simp [setObj, Sem.run, h4]
  have put : ∀ (es : List MapEntry) (cl : Nat) (l' : List (AV × AV)), RE ρ W l' es → Rel ρ W (h.set n (some (.mapo l' cl))) { w with heap := w.heap.setIfInBounds b (.map es.toArray cl) } := fun es cl l' hre =>
    hR.put hm0 rfl hp (fun k hk => by simp [Array.getElem?_setIfInBounds, Ne.symm hk]) (by simp) rfl rfl rfl ⟨hW0, es, by simp [hbl], hre⟩
  constructor
  · intro i u hf
    obtain ⟨R, g1, g2⟩ := findA_ok hkk ho hd h5 0 _ hf
    cases R with
    | none => exact g2.elim
    | some q =>
      obtain ⟨j', V2⟩ := q
      obtain ⟨rfl, _, ⟨e, h6, h7, k', h8, h9⟩, h10⟩ := g2
      have hfk : (Instr.findKey kt Kv L).run P w = .ok (some (i, V2)) w := by simp [Instr.findKey, run_underlying hd, g1]
      have hsb := sameBits_key (P := P) ho hkk h8 h9 9999
      have hkt : (Instr.keyThatStays (((L.toArray[i]?).map (·.key)).getD Kv) Kv).run P w = .ok Kv w := by
        have : (((L.toArray[i]?).map (·.key)).getD Kv) = e.key := by simp at h6; simp [h6]
        rw [this]
        unfold Instr.keyThatStays
        rw [if_pos hsb]; rfl
      refine ⟨{ w with heap := w.heap.setIfInBounds b (.map (L.modify i fun (e : MapEntry) => { e with key := Kv, val := Y }).toArray c) }, ?_, put _ _ _ (RE.modify hkk hyy i h5)⟩
      have hmod : L.toArray.modify i (fun (e : MapEntry) => { e with key := Kv, val := Y }) = (L.modify i fun (e : MapEntry) => { e with key := Kv, val := Y }).toArray := by simp
      simp only [Instr.mapUpdate, Sem.run_bind, run_underlying hu, Result.andThen_ok, hget, hck, List.toList_toArray, hfk, hkt, hmod, hset]
  · intro hf
    obtain ⟨R, g1, g2⟩ := findA_ok hkk ho hd h5 0 _ hf
    cases R with
    | some q => obtain ⟨_, _⟩ := q; exact g2.elim
    | none =>
      have hfk : (Instr.findKey kt Kv L).run P w = .ok none w := by simp [Instr.findKey, run_underlying hd, g1]
      refine ⟨{ w with heap := w.heap.setIfInBounds b (.map (L ++ [({ key := Kv, val := Y, born := c } : MapEntry)]).toArray (c + 1)) }, ?_, put _ _ _ (RE.snoc (e := { key := Kv, val := Y, born := c }) hkk hyy h5)⟩
      have hpush : L.toArray.push ({ key := Kv, val := Y, born := c } : MapEntry) = (L ++ [({ key := Kv, val := Y, born := c } : MapEntry)]).toArray := by simp
      simp only [Instr.mapUpdate, Sem.run_bind, run_underlying hu, Result.andThen_ok, hget, hck, List.toList_toArray, hfk, hpush, hset]
theorem evOpt_none {e : Operand → Option AV} {x : Option Operand} (h : evOpt e x = some none) : x = none := by
  cases x with
  | none => rfl
  | some x => simp [evOpt] at h
theorem flat_at {l : List AV} {L : List Value} (hl : RL ρ W l L) : l.all (AV.flat 4) = true → ∀ (i : Nat) (v : AV) (V : Value), l[i]? = some v → L[i]? = some V → RV noNames W v V := by
  induction l generalizing L with
  | nil => intro _ i v V hv; simp at hv
  | cons x l ih =>
    intro ha i v V hv hV
    cases hl with | cons g1 g2 =>
    simp only [List.all_cons, Bool.and_eq_true] at ha
    cases i with
    | zero => simp at hv hV; subst hv; subst hV; exact g1.flat_move 4 ha.1
    | succ i => exact ih g2 ha.2 i v V (by simpa using hv) (by simpa using hV)
theorem upTo_at (n a k : Nat) : (upTo a n)[k]? = if k < n then some (a + k) else none := upTo_get n a k
theorem intsOf_at : ∀ {l : List AV} {ns : List Int}, intsOf l = some ns → l = ns.map (AV.int .u8)
  | [], ns, h => by simp [intsOf] at h; subst h; rfl
  | x :: r, ns, h => by
    unfold intsOf at h
    split at h
    · rename_i he; cases he
    · rename_i n r' he
      injection he with h1 h2
      subst h1; subst h2
      split at h
      · rename_i l hl
        simp at h; subst h
        rw [intsOf_at hl]; rfl
      · cases h
    · cases h
/-- **An operation that is carried out in the text's order**: what it comes to abstractly holds in the model. -/
theorem xop_ok (hR : Rel ρ W h w) {e : Operand → Option AV} {a : Act} (he : ∀ x v, e x = some v → RV ρ W v (a.eval x)) {o : Oper} {v : AV} {s : Option (Nat × Ob)} {al : Option Ob}
    (hq : xop P o e (rdFlat h) h.length = some (true, v, s, al)) {K : Act → World → Prop} {Q : Exit → Act → World → Prop}
    (hK : ∀ ρ' w' V, Ext ρ ρ' → RV ρ' W v V → Rel ρ' W (xheap h s al) w' → K (a.put o.dst V) w') : o.wp P a w K Q := by
  unfold xop at hq
  split at hq
  case h_1 t x lo hi mx hop =>
    split at hq
    case h_3 => cases hq
    case h_2 =>
      rename_i cnt el n lv hv hu hx hlo hhi hmx
      split at hq
      case h_2 => cases hq
      rename_i a0 b0 cs s1 h1 h2 hrd hsz
      split at hq
      case isFalse => cases hq
      rename_i hc
      obtain ⟨d1, d2, d3, d6⟩ := hc
      simp at hq
      obtain ⟨rfl, rfl, rfl⟩ := hq
      have hxx := he _ _ hx
      generalize hX : a.eval x = X at hxx
      cases hxx with | ptr _ _ _ hp =>
      rename_i b o'
      have hmn : mx = none := evOpt_none hmx
      subst hmn
      have hm0 := rdFlat_some hrd
      obtain ⟨b', o2, e1, e2⟩ := hR.ob n _ hm0
      rw [hp] at e1; cases e1
      obtain ⟨hW0, ho0, L, ty, h4, h5⟩ := e2
      subst ho0
      have hLl : L.length = cs.length := h5.length.symm
      obtain ⟨m, hbm, hb⟩ := sliceBounds_ok (is := false) (P := P) (mx := none) (Mx := none) (len := cnt) (cap := cnt) (c := cnt) (Lo := lo.map a.eval) (Hi := hi.map a.eval) (evOpt_ok he _ _ hlo) (evOpt_ok he _ _ hhi) trivial h1 h2 (by simp [boundA]) d2 d3 (Nat.le_refl _) (Nat.le_refl _) rfl w
      refine wp_value (w' := w) (V := .slice (some ⟨b, if m = a0 then 0 else a0 * s1, none⟩) (b0 - a0) (m - a0)) ?_ ?_
      · simp only [execOp, hop, hX, Instr.sliceAt, Instr.sureAddr, Option.map_none, Sem.run_bind, run_underlying hu, Result.andThen_ok, hb, run_size hsz, Sem.run_pure]
        split
        · simp
        · simp only [Addr.add_mid]; simp
      · obtain ⟨r1, r2⟩ := hR.kill hm0 rfl hp
        have hfresh : Fresh (h.set n (some Ob.dead)) (h.set n (some Ob.dead)).length := .inl rfl
        have hext : Ext ρ (ρ.with (h.set n (some Ob.dead)).length b (a0 * s1)) := Names.with_ext (r1.free_none hfresh)
        have inn : ∀ i j, i < b0 - a0 → j < s1 → (a0 + i) * s1 + j < cnt * s1 := fun i j hi hj => by
          have : (a0 + i + 1) * s1 ≤ cnt * s1 := Nat.mul_le_mul_right s1 (by omega)
          rw [Nat.add_mul] at this
          omega
        have r4 := r1.name hfresh (b := b) (o := a0 * s1) (x := .row s1 (b0 - a0) fun i j => cs.getD ((a0 + i) * s1 + j) .undef) (hR.dom n _ hp).2 (by
          refine ⟨fun i j => L.getD ((a0 + i) * s1 + j) undef, fun i j hi hj => ?_, fun i j hi hj => ?_⟩
          · have hlt := inn i j hi hj
            have hlt2 : (a0 + i) * s1 + j < L.length := by omega
            simp only [List.getD, List.getElem?_eq_getElem hlt2, Option.getD_some]
            rw [show a0 * s1 + (i * s1 + j) = (a0 + i) * s1 + j by rw [Nat.add_mul]; omega]
            simp [World.cell?, h4, hlt2]
          · have hlt := inn i j hi hj
            have g1 := List.getElem?_eq_getElem (l := cs) (i := (a0 + i) * s1 + j) (by omega)
            have g2 := List.getElem?_eq_getElem (l := L) (i := (a0 + i) * s1 + j) (by omega)
            simp only [List.getD, g1, g2, Option.getD_some]
            exact flat_at h5 d6 _ _ _ g1 g2) fun m' p y hm' hpb hy => r2 m' p y hm' hpb hy
        refine hK _ w _ hext (.sl (o := a0 * s1) 0 s1 (b0 - a0) (m - a0) _ (by simp [Names.with]) (by omega) ?_) (by simpa [effH, xheap] using r4)
        by_cases hma : m = a0
        · exact .inl (by omega)
        · rw [if_neg hma]; exact .inr (by omega)
    rename_i el n s' len lv hv mv hu hx hlo hhi hmx
    split at hq
    case h_2 => cases hq
    rename_i a0 b0 c0 z e0 s1 cs s2 h1 h2 h3 hrd hsz
    split at hq
    case isFalse => cases hq
    rename_i hc
    obtain ⟨rfl, rfl, d1, d2, d3, d4, d5, d6⟩ := hc
    simp at hq
    obtain ⟨rfl, rfl, rfl⟩ := hq
    have hxx := he _ _ hx
    generalize hX : a.eval x = X at hxx
    cases hxx with | gs s len hp hle =>
    rename_i b cap
    have hm0 := rdFlat_some hrd
    obtain ⟨b', o', e1, e2⟩ := hR.ob n _ hm0
    rw [hp] at e1; cases e1
    obtain ⟨hW0, hcap0, L0, fz0, h4, h5, _, _, h7, h8⟩ := e2
    obtain ⟨m, hbm, hb⟩ := sliceBounds_ok (is := true) (P := P) (Lo := lo.map a.eval) (Hi := hi.map a.eval) (Mx := mx.map a.eval) (evOpt_ok he _ _ hlo) (evOpt_ok he _ _ hhi) (evOpt_ok he _ _ hmx) h1 h2 h3 d2 d3 d4 hle (by simpa using d5) w
    refine wp_value (w' := w) (V := .slice (some ⟨b, if m = a0 then 0 else a0 * s1, none⟩) (b0 - a0) (m - a0)) ?_ ?_
    · simp only [execOp, hop, hX, Instr.sliceAt, Instr.slice, Sem.run_bind, run_underlying hu, Result.andThen_ok, hb, run_size hsz, Sem.run_pure]
      split
      · rfl
      · simp only [Option.map_some, Addr.add_mid, Nat.zero_add]
    · obtain ⟨r1, r2⟩ := hR.kill hm0 rfl hp
      have hfresh : Fresh (h.set n (some Ob.dead)) (h.set n (some Ob.dead)).length := .inl rfl
      have hext : Ext ρ (ρ.with (h.set n (some Ob.dead)).length b (a0 * s1)) := Names.with_ext (r1.free_none hfresh)
      have hlen : (L0.take cs.length).length = len * s1 := by rw [List.length_take]; omega
      have inn : ∀ i j, i < b0 - a0 → j < s1 → (a0 + i) * s1 + j < len * s1 := fun i j hi hj => by
        have : (a0 + i + 1) * s1 ≤ len * s1 := Nat.mul_le_mul_right s1 (by omega)
        rw [Nat.add_mul] at this
        omega
      have hflat : ∀ {l : List AV} {L : List Value}, RL ρ W l L → l.all (AV.flat 4) = true → ∀ (i : Nat) (v : AV) (V : Value), l[i]? = some v → L[i]? = some V → RV noNames W v V := by
        intro l L hl
        induction l generalizing L with
        | nil => intro _ i v V hv; simp at hv
        | cons x l ih =>
          intro ha i v V hv hV
          cases hl with | cons g1 g2 =>
          simp only [List.all_cons, Bool.and_eq_true] at ha
          cases i with
          | zero => simp at hv hV; subst hv; subst hV; exact g1.flat_move 4 ha.1
          | succ i => exact ih g2 ha.2 i v V (by simpa using hv) (by simpa using hV)
      have r4 := r1.name hfresh (b := b) (o := a0 * s1) (x := .row s1 (b0 - a0) fun i j => cs.getD ((a0 + i) * s1 + j) .undef) (hR.dom n _ hp).2 (by
        refine ⟨fun i j => (L0.take cs.length).getD ((a0 + i) * s1 + j) undef, fun i j hi hj => ?_, fun i j hi hj => ?_⟩
        · have hlt := inn i j hi hj
          have hlt2 : (a0 + i) * s1 + j < L0.length := by omega
          have hg : (L0.take cs.length)[(a0 + i) * s1 + j]? = some L0[(a0 + i) * s1 + j] := by rw [List.getElem?_take, if_pos (by omega)]; simp [hlt2]
          simp only [List.getD, hg, Option.getD_some]
          rw [show a0 * s1 + (i * s1 + j) = (a0 + i) * s1 + j by rw [Nat.add_mul]; omega]
          simp [World.cell?, h4, hlt2]
        · have hlt := inn i j hi hj
          have g1 := List.getElem?_eq_getElem (l := cs) (i := (a0 + i) * s1 + j) (by omega)
          have g2 := List.getElem?_eq_getElem (l := L0.take cs.length) (i := (a0 + i) * s1 + j) (by omega)
          simp only [List.getD, g1, g2, Option.getD_some]
          exact hflat h8 d6 _ _ _ g1 g2) fun m' p y hm' hpb hy => r2 m' p y hm' hpb hy
      refine hK _ w _ hext (.sl (o := a0 * s1) 0 s1 (b0 - a0) (m - a0) _ (by simp [Names.with]) (by omega) ?_) (by simpa [effH, xheap] using r4)
      by_cases hma : m = a0
      · exact .inl (by omega)
      · rw [if_neg hma]; exact .inr (by omega)
  case h_2 src dst x hop =>
    split at hq
    case h_1 el s' hs hd hx =>
      split at hq
      case h_2 => cases hq
      rename_i he8
      split at hq
      case isFalse => cases hq
      rename_i hsz
      simp at hq
      obtain ⟨rfl, rfl, rfl⟩ := hq
      have hxx := he _ _ hx
      generalize hX : a.eval x = X at hxx
      cases hxx
      have hr := run_bytes_of_string (P := P) w src dst el s' hs hd he8
      have hge := grownCap_ge w s'.size 0 el
      have hcm := grownCap_le_maxLen w s'.size 0 el hsz
      obtain ⟨C, hC⟩ : ∃ C, C = bytesRow s' (grownCap w s'.size 0 el) := ⟨_, rfl⟩
      have hsd : s'.data.size = s'.size := rfl
      have hCs : C.size = grownCap w s'.size 0 el * 1 := by
        rw [hC]
        simp only [bytesRow, Array.size_append, Array.size_map, Array.size_replicate, hsd]
        omega
      have hCt : C.toList.take s'.size = s'.data.toList.map fun b => Value.int .u8 b.toNat := by
        rw [hC]
        simp only [bytesRow, Array.toList_append, Array.toList_map]
        rw [List.take_append_of_le_length (by rw [List.length_map, Array.length_toList, hsd]; exact Nat.le_refl _), List.take_of_length_le (by rw [List.length_map, Array.length_toList, hsd]; exact Nat.le_refl _)]
      rw [← hC] at hr
      refine wp_value (w' := w.drew.alloc (.cells C el (C.size, C.size + 1))) (V := .slice (some ⟨w.heap.size, 0, none⟩) s'.size (grownCap w s'.size 0 el)) (by simp only [execOp, hop, hX, Sem.run_bind, hr, Result.andThen_ok, Sem.run_pure]) ?_
      have hll : (s'.data.toList.map fun b => AV.int .u8 b.toNat).length = s'.size := by rw [List.length_map, Array.length_toList, hsd]
      obtain ⟨k1, k2, k3⟩ := make_ok hR (drew_grown w C el (C.size, C.size + 1)) (x := .own false el 1 (s'.data.toList.map fun b => .int .u8 b.toNat)) (b := w.heap.size) (o := grownCap w s'.size 0 el) (Nat.le_refl _) (by simp)
        (holds_own hR.bel.size hcm (heap_alloc_new w.drew _) hCs (fun e => by cases e) (fun x hx => by simp; omega) (by rw [hll]; omega) (by
          rw [hll, hCt]
          exact RL.map _ _ _ fun b _ => .int _ _))
      exact hK _ _ _ k1 (.gs _ _ k3 hge) k2
    case h_2 el y hs hd hy =>
      split at hq
      case h_3 => cases hq
      case h_2 =>
        rename_i he8 hno
        split at hq
        case h_2 => cases hq
        rename_i l hl
        split at hq
        case h_2 => cases hq
        rename_i ns hns
        simp at hq
        obtain ⟨rfl, rfl, rfl⟩ := hq
        have hxx := he _ _ hy
        generalize hX : a.eval x = X at hxx
        unfold slBytes at hl
        split at hl
        case h_2 => cases hl
        rename_i n i len
        split at hl
        case h_2 => cases hl
        rename_i m c hrd
        split at hl
        case isFalse => cases hl
        rename_i him
        simp only [Option.some.injEq] at hl
        have hints := intsOf_at hns
        rw [← hl] at hints
        have hnl : ns.length = len := by
          have := congrArg List.length hints
          rw [List.length_map, List.length_map] at this
          rw [← this]
          have e1 := upTo_at len 0 len
          have e2 := fun k (h : k < len) => upTo_at len 0 k
          rw [if_neg (Nat.lt_irrefl _), List.getElem?_eq_none_iff] at e1
          rcases Nat.lt_or_ge (upTo 0 len).length len with h | h
          · have := e2 _ h; rw [if_pos h, List.getElem?_eq_none (Nat.le_refl _)] at this; cases this
          · omega
        cases hxx with | sl _ _ _ cap off hp hle hoff =>
        rename_i b o'
        have hm0 := rdFlat_some hrd
        obtain ⟨b', o2, e1, V, h4, h5⟩ := hR.ob n _ hm0
        rw [hp] at e1; cases e1
        have hload : (loadCells ⟨b, off, none⟩ len).run P w = .ok (ns.map (Value.int .u8)).toArray w := by
          have := run_loadCells_list (P := P) w ⟨b, off, none⟩ (ns.map (Value.int .u8)) fun j v hj => by
            rw [List.getElem?_map] at hj
            have hjl : j < len := by
              rcases Nat.lt_or_ge j len with h | h
              · exact h
              · rw [List.getElem?_eq_none (by omega)] at hj; simp at hj
            have ho : off = o' + i := by rcases hoff with h | h <;> omega
            have hc := congrArg (fun l => l[j]?) hints
            simp only [List.getElem?_map, upTo_at, if_pos hjl, Option.map_some, Nat.zero_add] at hc
            rw [List.getElem?_eq_getElem (by omega)] at hc hj
            simp only [Option.map_some, Option.some.injEq] at hc hj
            have g := h5 (i + j) 0 (by omega) (by omega)
            rw [hc] at g
            have g4 := h4 (i + j) 0 (by omega) (by omega)
            generalize V (i + j) 0 = VV at g g4
            cases g
            rw [Addr.add_mid, ho]
            rw [show o' + i + j = o' + ((i + j) * 1 + 0) by omega, g4, ← hj]
          simpa [hnl] using this
        have hr := run_bytesToString (P := P) w ⟨b, off, none⟩ len cap ns hload
        rw [← run_convert_bytes_string w src dst el (some ⟨b, off, none⟩) len cap hs he8 hd, foldl_push_ints] at hr
        have he0 : ByteArray.empty.data = #[] := rfl
        rw [he0] at hr
        simp only [Array.empty_append] at hr
        refine wp_value (w' := w) (V := .string ⟨(ns.map fun n => UInt8.ofNat n.toNat).toArray⟩) (by simp only [execOp, hop, hX, Sem.run_bind, hr, Result.andThen_ok, Sem.run_pure]) ?_
        exact hK ρ w _ (Ext.refl ρ) (.str _) hR
      rename_i l he8 hl
      split at hq
      case h_2 => cases hq
      rename_i ns hns
      simp at hq
      obtain ⟨rfl, rfl, rfl⟩ := hq
      have hxx := he _ _ hy
      generalize hX : a.eval x = X at hxx
      obtain ⟨n, m, len, b, cap, e2, L, fz, rfl, rfl, hlen, hp2, hm2, hb, hle, hRL⟩ := cellsOf_ok hR hxx hl
      have hL := intsOf_ok hRL hns
      have hnl : ns.length = len := by
        have := congrArg List.length hL
        simp at this
        omega
      have hload : (loadCells ⟨b, 0, none⟩ len).run P w = .ok (ns.map (Value.int .u8)).toArray w := by
        have := run_loadCells_list (P := P) w ⟨b, 0, none⟩ (ns.map (Value.int .u8)) fun j v hj => by
          rw [← hL, List.getElem?_take] at hj
          split at hj
          · rw [Addr.add_mid]; simp [World.cell?, hb, hj]
          · cases hj
        simpa [hnl] using this
      have hr := run_bytesToString (P := P) w ⟨b, 0, none⟩ len cap ns hload
      rw [← run_convert_bytes_string w src dst el (some ⟨b, 0, none⟩) len cap hs he8 hd, foldl_push_ints] at hr
      have he0 : ByteArray.empty.data = #[] := rfl
      rw [he0] at hr
      simp only [Array.empty_append] at hr
      refine wp_value (w' := w) (V := .string ⟨(ns.map fun n => UInt8.ofNat n.toNat).toArray⟩) (by simp only [execOp, hop, hX, Sem.run_bind, hr, Result.andThen_ok, Sem.run_pure]) ?_
      exact hK ρ w _ (Ext.refl ρ) (.str _) hR
    case h_3 => cases hq
  case h_3 t x ix y hop =>
    split at hq
    case h_2 => cases hq
    rename_i kt et n k u hu hx hk hy
    split at hq
    case h_2 => cases hq
    rename_i l c ho hrd
    obtain ⟨q1, q2⟩ := upd_ok hR hu (he _ _ hx) (he _ _ hk) (he _ _ hy) ho hrd
    split at hq
    · rename_i i u2 hf
      simp at hq
      obtain ⟨rfl, rfl, rfl⟩ := hq
      obtain ⟨w', g1, g2⟩ := q1 i u2 hf
      exact wp_skipped (w' := w') (by simp only [execOp, hop, Sem.run_bind, g1, Result.andThen_ok, Sem.run_pure]) (hK ρ w' _ (Ext.refl ρ) .undef (by simpa [xheap] using g2))
    · rename_i hf
      simp at hq
      obtain ⟨rfl, rfl, rfl⟩ := hq
      obtain ⟨w', g1, g2⟩ := q2 hf
      exact wp_skipped (w' := w') (by simp only [execOp, hop, Sem.run_bind, g1, Result.andThen_ok, Sem.run_pure]) (hK ρ w' _ (Ext.refl ρ) .undef (by simpa [xheap] using g2))
    · cases hq
  case h_4 t x ix y hop =>
    split at hq
    case h_2 => cases hq
    rename_i kt et n k u hu hx hk hy
    split at hq
    case h_2 => cases hq
    rename_i l c ho hrd
    obtain ⟨q1, q2⟩ := upd_ok hR hu (he _ _ hx) (he _ _ hk) (he _ _ hy) ho hrd
    split at hq
    · rename_i i u2 hf
      simp at hq
      obtain ⟨rfl, rfl, rfl⟩ := hq
      obtain ⟨w', g1, g2⟩ := q1 i u2 hf
      exact wp_skipped (w' := w') (by simp only [execOp, hop, Sem.run_bind, g1, Result.andThen_ok, Sem.run_pure]) (hK ρ w' _ (Ext.refl ρ) .undef (by simpa [xheap] using g2))
    · rename_i hf
      simp at hq
      obtain ⟨rfl, rfl, rfl⟩ := hq
      obtain ⟨w', g1, g2⟩ := q2 hf
      exact wp_skipped (w' := w') (by simp only [execOp, hop, Sem.run_bind, g1, Result.andThen_ok, Sem.run_pure]) (hK ρ w' _ (Ext.refl ρ) .undef (by simpa [xheap] using g2))
    · cases hq
  case h_5 t x hop =>
    split at hq
    case h_2 => cases hq
    rename_i s' hu hx
    simp at hq
    obtain ⟨rfl, rfl, rfl⟩ := hq
    have hxx := he _ _ hx
    generalize hX : a.eval x = X at hxx
    cases hxx
    refine wp_value (w' := w.alloc (.stringIter s' 0)) (V := .pointer (some ⟨w.heap.size, 0, none⟩)) (by simp only [execOp, hop, hX, Instr.range, Sem.run_bind, run_underlying hu, Result.andThen_ok, Sem.run_pure]; rfl) ?_
    obtain ⟨k1, k2, k3⟩ := make_ok hR (w' := w.alloc (.stringIter s' 0)) (World.grownBy_alloc w _ none) (x := .siter s' 0) (b := w.heap.size) (o := 0) (Nat.le_refl _) (by simp) ⟨hR.bel.size, rfl, heap_alloc_new w _⟩
    have := RV.ptr (ρ := ρ.with h.length w.heap.size 0) (W := W) 0 0 0 k3
    exact hK _ _ _ k1 (by simpa using this) k2
  case h_6 x hop =>
    split at hq
    case h_2 => cases hq
    rename_i n hx
    split at hq
    case h_2 => cases hq
    rename_i s' pos hrd
    have hxx := he _ _ hx
    generalize hX : a.eval x = X at hxx
    cases hxx with | ptr i s j hp =>
    rename_i b o'
    have hm0 := rdFlat_some hrd
    obtain ⟨b', o2, e1, e2⟩ := hR.ob n _ hm0
    rw [hp] at e1; cases e1
    obtain ⟨hW0, ho0, h4⟩ := e2
    subst ho0
    have hbl : b < w.heap.size := (Array.getElem?_eq_some_iff.1 h4).1
    have hget : (getObj b).run P w = .ok (.stringIter s' pos) w := by simp [getObj, Sem.run, h4]
    have hset : ∀ ob, (setObj b ob).run P w = .ok () { w with heap := w.heap.setIfInBounds b ob } := fun ob => by simp [setObj, Sem.run, h4]
    have hadd : (0 : Nat) + (0 * 0 + 0) = 0 := rfl
    split at hq
    · rename_i hlt
      simp at hq
      obtain ⟨rfl, rfl, rfl⟩ := hq
      refine wp_value (w' := { w with heap := w.heap.setIfInBounds b (.stringIter s' (pos + (Utf8.decode s' pos).2)) }) (V := .tuple #[.bool true, .int .i64 pos, .int .i32 (Utf8.decode s' pos).1]) ?_ ?_
      · simp only [execOp, hop, hX, hadd, Instr.next, Sem.run_bind, hget, Result.andThen_ok, if_pos hlt, hset, Sem.run_pure]
        rfl
      · refine hK ρ _ _ (Ext.refl ρ) (.tup (.cons (.bool _) (.cons (.int _ _) (.cons (.int _ _) .nil)))) ?_
        have := hR.put hm0 rfl hp (w' := { w with heap := w.heap.setIfInBounds b (.stringIter s' (pos + (Utf8.decode s' pos).2)) }) (x' := .siter s' (pos + (Utf8.decode s' pos).2)) (fun k hk => by simp [Array.getElem?_setIfInBounds, Ne.symm hk]) (by simp) rfl rfl rfl ⟨hW0, rfl, by simp [hbl]⟩
        simpa [xheap] using this
    · rename_i hlt
      simp at hq
      obtain ⟨rfl, rfl, rfl⟩ := hq
      refine wp_value (w' := w) (V := .tuple #[.bool false]) ?_ (hK ρ w _ (Ext.refl ρ) (.tup (.cons (.bool _) .nil)) hR)
      simp only [execOp, hop, hX, hadd, Instr.next, Sem.run_bind, hget, Result.andThen_ok, if_neg hlt, Sem.run_pure]
  case h_7 c hop =>
    split at hq
    case h_2 => cases hq
    rename_i hcal
    split at hq
    case h_2 => cases hq
    rename_i x y t t' hargs hts
    split at hq
    case isFalse => cases hq
    rename_i htt
    subst htt
    have hL := evAll_ok he _ _ hargs
    have e0 : c.args.map a.eval = (c.args.toList.map a.eval).toArray := by apply Array.ext'; simp
    have e1 : c.argTypes = #[t, t] := by apply Array.ext'; simpa using hts
    generalize hG : c.args.toList.map a.eval = L at hL
    cases hL with | cons hx hL2 =>
    cases hL2 with | cons hy hL3 =>
    cases hL3
    obtain ⟨V, w', ρ', g1, g2, g3, g4⟩ := append_ok hR hx hy o.type hq
    refine wp_value (w' := w') (V := V) ?_ (hK ρ' w' V g2 g3 g4)
    simp only [execOp, hop, resolve, hcal, Sem.run_bind, Sem.run_pure, Result.andThen_ok, invoke, builtin, e0, hG, e1]
    rw [g1]
    rfl
  case h_8 => cases hq
end Go.Proofs.YthkmckmfgglafaaGreat.A
namespace Go.Proofs.YthkmckmfgglafaaGreat.A
open Go Go.RowKit
set_option linter.unusedVariables false
set_option linter.unusedSimpArgs false
variable {P : Program} {ρ : Names} {W w : World} {T : Tab}
def Ex.is : Ex → Exit → Prop
  | .normal, .normal => True
  | .exit i, .exit j => i = j
  | .ret, .ret => True
  | _, _ => False
/-- What holds behind a piece of code, in the model. -/
def Post (ρ : Names) (W : World) (Q : Ex → St → Prop) : Exit → Act → World → Prop := fun e a w => ∃ e' st' ρ', e'.is e ∧ Ext ρ ρ' ∧ RelS ρ' W st' a w ∧ Q e' st'
theorem Post.ext {ρ' : Names} {Q : Ex → St → Prop} {e : Exit} {a : Act} (he : Ext ρ ρ') (h : Post ρ' W Q e a w) : Post ρ W Q e a w :=
  let ⟨e', st', ρ2, h1, h2, h3, h4⟩ := h; ⟨e', st', ρ2, h1, he.trans h2, h3, h4⟩
/-- A range over a function. -/
def RfOk (P : Program) (r : Option Nat) (rf : Rf Prop) : Prop :=
  ∀ f ps sg bo (st : St) (Q : Ex → St → Prop) (ρ : Names) (W w : World) (a : Act), rf f ps sg bo st Q → RelS ρ W st a w → ∀ n, (Code.rangeFunc f ps sg bo).wpIn (FR r) n P (Post ρ W Q) a w
theorem noRf_ok (P : Program) (r : Option Nat) : RfOk P r (noRf PA) := fun _ _ _ _ _ _ _ _ _ _ h => no_elim h
/-- A loop's rounds hold in the model, from its head. -/
def LoopsOk (P : Program) (r : Option Nat) (lp : Code → St → (Ex → St → Prop) → Prop) : Prop :=
  ∀ (c : Code) (st : St) (Q : Ex → St → Prop) (ρ : Names) (W w : World) (a : Act), lp c st Q → RelS ρ W st a w → ∀ (b : Frame) (k : List Item) (cs : List Frame), b.roundOf = r →
    ∃ e a' w', Post ρ W Q e a' w' ∧ ArrivesIn (Machine.fenced P (FR r)) P (lone (b.atR a (.code c :: .inLoop c :: k)) cs w) b k cs e a' w'
/-- A loop's contract holds. -/
def LcOk (P : Program) (b : Code) (lc : St → (Ex → St → Prop) → Prop) : Prop := ∀ (st : St) (Q : Ex → St → Prop) (ρ : Names) (W w : World) (a : Act), lc st Q → RelS ρ W st a w → ∀ (r : Option Nat) (n : Nat), (Code.loop b).wpIn (FR r) n P (Post ρ W Q) a w
theorem codeA_ok (hm : P.follows .mixedOrders = true) (hT : TabOk P T) {r : Option Nat} {LT : LTab Prop} {lp : Code → St → (Ex → St → Prop) → Prop} (hr : LoopsOk P r lp) {inl : Inl Prop} (hI : InlOk P inl) {rf : Rf Prop} (hrf : RfOk P r rf) :
    ∀ (c : Code), (∀ b ∈ Code.loops c, ∀ lc, LT (Code.first b) = some lc → LcOk P b lc) → ∀ (st : St) (Q : Ex → St → Prop) (ρ : Names) (W w : World) (a : Act), codeA PA P T LT lp inl rf c st Q → RelS ρ W st a w → ∀ n, c.wpIn (FR r) n P (Post ρ W Q) a w := by
  intro c
  induction c with
  | skip => intro hL st Q ρ W w a h hs n; exact wpIn_skip ⟨.normal, st, ρ, trivial, Ext.refl ρ, hs, h⟩
  | label l => intro hL st Q ρ W w a h hs n; exact wpIn_label ⟨.normal, st, ρ, trivial, Ext.refl ρ, hs, h⟩
  | seq x y ihx ihy =>
    intro hL st Q ρ W w a h hs n
    refine wpIn_seq (wpIn_mono (ihx (fun b hb => hL b (by simp [Code.loops, hb])) _ _ ρ W w a h hs n) fun e a' w' hp => ?_)
    obtain ⟨e', st', ρ', h1, h2, h3, h4⟩ := hp
    cases e' with
    | normal =>
      cases e <;> try exact h1.elim
      exact wpIn_mono (ihy (fun b hb => hL b (by simp [Code.loops, hb])) _ _ ρ' W w' a' h4 h3 n) fun e a w hp => hp.ext h2
    | exit i =>
      cases e <;> try exact h1.elim
      exact ⟨.exit i, st', ρ', h1, h2, h3, h4⟩
    | ret =>
      cases e <;> try exact h1.elim
      exact ⟨.ret, st', ρ', h1, h2, h3, h4⟩
  | cond c x y ihx ihy =>
    intro hL st Q ρ W w a h hs n
    simp only [codeA] at h
    split at h
    · rename_i b hb
      have hv := hs.ev0 _ _ hb
      generalize hX : a.eval c = X at hv
      cases hv
      refine wpIn_cond_split hX (fun hb => ?_) (fun hb => ?_)
      · subst hb; rename_i hb
        have h' : fst (refC st c true) (fun st => codeA PA P T LT lp inl rf x st Q) := h
        rw [fst_eq, refC_eq hb] at h'
        exact ihx (fun b hb => hL b (by simp [Code.loops, hb])) _ _ ρ W w a h' hs n
      · subst hb; rename_i hb
        have h' : fst (refC st c false) (fun st => codeA PA P T LT lp inl rf y st Q) := h
        rw [fst_eq, refC_eq hb] at h'
        exact ihy (fun b hb => hL b (by simp [Code.loops, hb])) _ _ ρ W w a h' hs n
    · exact no_elim h
  | block id b ih =>
    intro hL st Q ρ W w a h hs n
    refine wpIn_block (wpIn_mono (ih (fun b hb => hL b (by simpa [Code.loops] using hb)) _ _ ρ W w a h hs n) fun e a' w' hp => ?_)
    obtain ⟨e', st', ρ', h1, h2, h3, h4⟩ := hp
    cases e' with
    | normal =>
      cases e <;> try exact h1.elim
      exact ⟨.normal, st', ρ', trivial, h2, h3, h4⟩
    | exit i =>
      cases e <;> try exact h1.elim
      rename_i j
      have h1' : i = j := h1
      subst h1'
      simp only [Exit.inBlock]
      simp only at h4
      by_cases hid : i = id
      · rw [if_pos hid] at h4 ⊢; exact ⟨.normal, st', ρ', trivial, h2, h3, h4⟩
      · rw [if_neg hid] at h4 ⊢; exact ⟨.exit i, st', ρ', rfl, h2, h3, h4⟩
    | ret =>
      cases e <;> try exact h1.elim
      exact ⟨.ret, st', ρ', h1, h2, h3, h4⟩
  | loop b ih =>
    intro hL st Q ρ W w a h hs n
    simp only [codeA] at h
    split at h
    · rename_i lc hlc
      exact hL b (by simp [Code.loops]) lc hlc st Q ρ W w a h hs r n
    · intro bf k cs hro hb hroom
      obtain ⟨e, a', w', h1, h2⟩ := hr b st Q ρ W w a h hs bf k cs hro
      exact ⟨e, a', w', h1, .of_steps (.one (fencedFR P r _) stepR_loop) h2⟩
  | rangeFunc f ps sg bo _ _ =>
    intro hL st Q ρ W w a h hs n
    exact hrf f ps sg bo st Q ρ W w a h hs n
  | exit id => intro hL st Q ρ W w a h hs n; exact wpIn_exit ⟨.exit id, st, ρ, rfl, Ext.refl ρ, hs, h⟩
  | ret => intro hL st Q ρ W w a h hs n; exact wpIn_ret ⟨.ret, st, ρ, trivial, Ext.refl ρ, hs, h⟩
  | region id ops draw =>
    intro hL st Q ρ W w a h hs n
    exact regionA_ok hm hT hI hs h fun ρ' st' a' w' he hs' hq => ⟨.normal, st', ρ', trivial, he, hs', hq⟩
  | _ => intro hL st Q ρ W w a h hs n; exact no_elim h
theorem codeA_ok0 (hm : P.follows .mixedOrders = true) (hT : TabOk P T) {r : Option Nat} {lp : Code → St → (Ex → St → Prop) → Prop} (hr : LoopsOk P r lp) {inl : Inl Prop} (hI : InlOk P inl) {rf : Rf Prop} (hrf : RfOk P r rf) (c : Code) (st : St) (Q : Ex → St → Prop) (ρ : Names) (W w : World) (a : Act) (h : codeA PA P T noLoops lp inl rf c st Q) (hs : RelS ρ W st a w) (n : Nat) : c.wpIn (FR r) n P (Post ρ W Q) a w :=
  codeA_ok hm hT hr hI hrf c (fun _ _ _ h => by cases h) st Q ρ W w a h hs n
theorem loopsA_ok (hm : P.follows .mixedOrders = true) (hT : TabOk P T) {r : Option Nat} {lp : Code → St → (Ex → St → Prop) → Prop} (hr : LoopsOk P r lp) {inl : Inl Prop} (hI : InlOk P inl) {rf : Rf Prop} (hrf : RfOk P r rf) :
    LoopsOk P r fun b st Q => codeA PA P T noLoops lp inl rf b st fun e st' => match e with | .normal => lp b st' Q | e => Q e st' := by
  intro b st Q ρ W w a h hs bf k cs hro
  obtain ⟨e, a1, w1, hp, harr⟩ := codeA_ok0 hm hT hr hI hrf b _ _ ρ W w a h hs 0 bf (.inLoop b :: k) cs hro trivial (roomFR r _)
  obtain ⟨e', st', ρ', g1, g2, g3, g4⟩ := hp
  cases e' with
  | normal =>
    cases e <;> try exact g1.elim
    obtain ⟨e2, a2, w2, hp2, harr2⟩ := hr b st' Q ρ' W w1 a1 g4 g3 bf k cs hro
    exact ⟨e2, a2, w2, hp2.ext g2, .of_steps (StepsIn.trans harr (.one (fencedFR P r _) stepR_inLoop)) harr2⟩
  | exit i =>
    cases e <;> try exact g1.elim
    exact ⟨_, a1, w1, ⟨.exit i, st', ρ', g1, g2, g3, g4⟩, .pass (x := .inLoop b) rfl (fun _ _ => .inl (by simp)) harr⟩
  | ret =>
    cases e <;> try exact g1.elim
    exact ⟨_, a1, w1, ⟨.ret, st', ρ', g1, g2, g3, g4⟩, .pass (x := .inLoop b) rfl (fun _ _ => .inl (by simp)) harr⟩
theorem entry_ok {fn : Func} {args : List AV} {A : List Value} (h : RL ρ W args A) : TR ρ W (entryT fn args) (A.toArray ++ Array.replicate (fn.ntmps - A.toArray.size) undef) := by
  have hl := h.length
  refine ⟨by simp [entryT, hl], fun i v hv => ?_⟩
  simp only [entryT] at hv
  rw [List.getElem?_append] at hv
  split at hv
  · simp only [List.getElem?_map, Option.map_eq_some_iff] at hv
    obtain ⟨u, h1, h2⟩ := hv
    simp at h2; subst h2
    obtain ⟨V, g1, g2⟩ := h.get i u h1
    refine ⟨V, ?_, g2⟩
    rw [Array.getElem?_append_left (by rename_i hlt; simp at hlt; simp; omega)]
    simpa using g1
  · simp [List.getElem?_replicate] at hv
def resSem (tmps : Array Value) : ResultVar → Sem Value
  | .tmp t => pure (tmps.getD t undef)
  | .cell a t => do loadVar t (← asAddr (tmps.getD a undef))
theorem results_eq (fn : Func) (tmps : Array Value) : results fn tmps = (do let vs ← fn.results.mapM (resSem tmps); pure (if h : vs.size = 1 then vs[0] else .tuple vs)) := by
  unfold results
  congr 1
theorem res_ok {st : St} {a : Act} (hs : RelS ρ W st a w) : ∀ (l : List ResultVar) (r : List AV), resA P st l = some r → ∃ R, (l.mapM (resSem a.tmps)).run P w = .ok R w ∧ RL ρ W r R
  | [], r, hq => by simp [resA] at hq; subst hq; exact ⟨[], by simp, .nil⟩
  | .tmp t :: l, r, hq => by
    simp only [resA] at hq
    split at hq
    · rename_i v vs h1 h2
      simp at hq; subst hq
      obtain ⟨R, g1, g2⟩ := res_ok hs l vs h2
      have hv := hs.ev0 (.tmp t) v h1
      exact ⟨_ :: R, by simp [List.mapM_cons, g1, resSem, Act.eval], .cons hv g2⟩
    · cases hq
  | .cell c t :: l, r, hq => by
    simp only [resA] at hq
    split at hq
    · rename_i m i s j vs h1 h2
      split at hq
      · rename_i v hl
        simp at hq; subst hq
        obtain ⟨R, g1, g2⟩ := res_ok hs l vs h2
        have hv := hs.ev0 (.tmp c) _ h1
        obtain ⟨V, g3, g4⟩ := loadA_ok (P := P) hs.h (rdFlat_ok st.h) hv hl
        refine ⟨V :: R, ?_, .cons g4 g2⟩
        generalize hC : a.eval (.tmp c) = C at hv
        cases hv with | ptr i s j hp =>
        simp only [Act.eval] at hC
        simp only [Instr.loadAt, Instr.sureAddr, Sem.run_bind, Sem.run_pure, Result.andThen_ok, hC, Act.eval] at g3
        simp [List.mapM_cons, resSem, g1, hC, asAddr, g3]
      · cases hq
    · cases hq
theorem resV_ok {r : List AV} {R : List Value} (h : RL ρ W r R) : RV ρ W (resV r) (if hh : R.toArray.size = 1 then R.toArray[0] else .tuple R.toArray) := by
  cases h with
  | nil => simp; exact .tup .nil
  | cons h t =>
    cases t with
    | nil => simpa [resV] using h
    | cons h2 t2 => simp [resV]; exact .tup (.cons h (.cons h2 t2))
/-- The blocks for deferred calls are shut. -/
theorem shut_ok {fn : Func} {tmps : Array Value} {R : Ending → World → Prop} {n : Nat} : ∀ {ds : List Nat} {D : List Deferred} {h h2 : Heap} {w : World}, Rel ρ W h w → RD ρ ds D → shut ds h = some h2 →
    (∀ w2, Rel ρ W h2 w2 → LeavesInM (FR none) n P fn tmps R [] .returning w2) → LeavesInM (FR none) n P fn tmps R D .returning w
  | _, _, h, h2, w, hR, .nil, hq, hK => by
    simp only [shut, Option.some.injEq] at hq
    subst hq
    exact hK w hR
  | _, _, h, h2, w, hR, .cons (n := m) (r := r) hp hd, hq, hK => by
    simp only [shut] at hq
    split at hq
    · rename_i hm
      have hm0 := rdFlat_some hm
      obtain ⟨b, o, e1, hW0, ho, h4⟩ := hR.ob m _ hm0
      rw [hp] at e1
      cases e1
      have hlt : r < w.heap.size := (Array.getElem?_eq_some_iff.1 h4).1
      have hR2 : Rel ρ W (h.set m (some .dead)) (w.putObj r (.deferred none)) :=
        hR.put hm0 rfl hp (fun k hk => World.putObj_heap_other hk) World.putObj_size rfl rfl rfl trivial
      exact ⟨by simp, .inl ⟨r, _, rfl, run_takeDeferred h4, shut_ok hR2 hd hq hK⟩⟩
    · cases hq
theorem body_ok {LT : LTab Prop} {lp : Code → St → (Ex → St → Prop) → Prop} {inl : Inl Prop} {rf : Rf Prop} {g : FuncId} {fn : Func} (hf : P.funcs[g]? = some fn)
    (hc : ∀ c, fn.body = some c → ∀ (st : St) (Q : Ex → St → Prop) (ρ : Names) (W w : World) (a : Act), codeA PA P T LT lp inl rf c st Q → RelS ρ W st a w → ∀ n, c.wpIn (FR none) n P (Post ρ W Q) a w)
    {args : List AV} {A : List Value} {h : Heap} {K : AV → Heap → Prop} (hA : RL ρ W args A) (hR : Rel ρ W h w) (hq : bodyA PA P T LT lp inl rf fn args h K) :
    Calls P g A.toArray w fun e w' => ∃ V, e = .returned V ∧ ∃ ρ' v h', Ext ρ ρ' ∧ RV ρ' W v V ∧ Rel ρ' W h' w' ∧ K v h' := by
  unfold bodyA at hq
  split at hq
  case h_2 => exact no_elim hq
  rename_i c hb
  rw [fl_eq, fst_eq] at hq
  refine (callsIn_wide (n := 0)).1 (callsIn_of_wp_marks (F := FR none) hf hb trivial (wpIn_mono (hc c hb _ _ ρ W w _ hq ⟨entry_ok hA, hR, .nil⟩ 0) fun e a' w' hp => ?_))
  obtain ⟨e', st', ρ', g1, g2, g3, g4⟩ := hp
  have fin : (match shut st'.d st'.h with
      | some h2 => match resA P ⟨st'.t, h2, []⟩ fn.results.toList with
        | some l => fl PA l fun l => K (resV l) h2
        | none => False
      | none => False) → LeavesInM (FR none) 0 P fn a'.tmps (fun e w' => ∃ V, e = .returned V ∧ ∃ ρ' v h', Ext ρ ρ' ∧ RV ρ' W v V ∧ Rel ρ' W h' w' ∧ K v h') a'.defers .returning w' := fun hk => by
    split at hk
    · rename_i h2 hs2
      split at hk
      · rename_i l hl
        rw [fl_eq] at hk
        refine shut_ok g3.h g3.d hs2 fun w2 hR2 => ?_
        obtain ⟨R, r1, r2⟩ := res_ok (P := P) (st := ⟨st'.t, h2, []⟩) (a := ⟨a'.tmps, []⟩) ⟨g3.t, hR2, .nil⟩ _ _ hl
        refine ⟨_, ?_, _, rfl, ρ', _, h2, g2, resV_ok r2, hR2, hk⟩
        rw [results_eq, Sem.run_bind, Array.mapM_eq_mapM_toList, Sem.run_map, r1]
        rfl
      · exact no_elim hk
    · exact no_elim hk
  cases e' with
  | normal =>
    cases e <;> try exact g1.elim
    exact fin g4
  | ret =>
    cases e <;> try exact g1.elim
    exact fin g4
  | exit i => exact no_elim g4
theorem callFunc_enter {g : FuncId} {fn : Func} (hf : P.funcs[g]? = some fn) (hb : fn.body.isSome = true) (hn : (fn.name == "runtime.NumGoroutine") = false) (A : Array Value) (w : World) : (callFunc g A).run P w = .ok (.enter g A) w := by
  have h1 : fn.name ≠ "runtime.NumGoroutine" := by simpa using hn
  have h2 : fn.body ≠ none := by cases h : fn.body <;> simp_all
  simp [callFunc, hf, h1, h2]
theorem bodyA_some {LT : LTab Prop} {rec : Code → St → (Ex → St → Prop) → Prop} {inl : Inl Prop} {rf : Rf Prop} {fn : Func} {args : List AV} {h : Heap} {K : AV → Heap → Prop} (hq : bodyA PA P T LT rec inl rf fn args h K) : fn.body.isSome = true := by
  unfold bodyA at hq
  split at hq
  · rename_i hb; simp [hb]
  · exact no_elim hq
/-- A function's call. -/
def CallOk (P : Program) (call : FuncId → List AV → Heap → (AV → Heap → Prop) → Prop) : Prop :=
  ∀ g args h (K : AV → Heap → Prop), call g args h K → ∀ (ρ : Names) (W w : World) (A : List Value), Rel ρ W h w → RL ρ W args A →
    (∀ w', (callFunc g A.toArray).run P w' = .ok (.enter g A.toArray) w') ∧ Calls P g A.toArray w fun e w' => ∃ V, e = .returned V ∧ ∃ ρ' v h', Ext ρ ρ' ∧ RV ρ' W v V ∧ Rel ρ' W h' w' ∧ K v h'
/-- A loop's record. -/
theorem loop_put {h : Heap} (hR : Rel ρ W h w) {n : Nat} {s : LoopState} {pe : Option Code} {t : List (Option AV)} {ps : List Nat} {sg bo : Code} (hn : h[n]? = some (some (.loop s pe t ps sg bo))) :
    ∃ b o r, ρ n = some (b, o) ∧ w.heap[b]? = some (.loop r) ∧ r.state = s ∧ r.pending = pe ∧ r.params.toList = ps ∧ r.assign = sg ∧ r.body = bo ∧ TR ρ W t r.tmps ∧
      ∀ s' pe', Rel ρ W (h.set n (some (.loop s' pe' t ps sg bo))) (w.putObj b (.loop { r with state := s', pending := pe' })) := by
  obtain ⟨b, o, e1, hW0, r, h4, h5, h6, h7, h8, h9, h10⟩ := hR.ob n _ hn
  have hlt : b < w.heap.size := (Array.getElem?_eq_some_iff.1 h4).1
  exact ⟨b, o, r, e1, h4, h5, h6, h7, h8, h9, h10, fun s' pe' => hR.put hn rfl e1 (fun k hk => World.putObj_heap_other hk) World.putObj_size rfl rfl rfl ⟨hW0, _, World.putObj_heap_same hlt, rfl, rfl, h7, h8, h9, h10⟩⟩
theorem setPs_ok : ∀ {ps : List Nat} {vs : List AV} {A : List Value}, RL ρ W vs A → ∀ {t : List (Option AV)} {a : Array Value}, TR ρ W t a → vs.length = ps.length → TR ρ W (setPs t ps vs) ((ps.zip A).foldl (fun tmps (t, a) => tmps.setIfInBounds t a) a)
  | [], _, _, .nil, t, a, h, _ => by simpa [setPs] using h
  | [], _, _, .cons _ _, _, _, _, hl => by simp at hl
  | p :: ps, _, _, .nil, _, _, _, hl => by simp at hl
  | p :: ps, _, _, .cons (v := v) (V := V) hv tl, t, a, h, hl => by
    simp only [setPs, List.zip_cons_cons, List.foldl_cons]
    have := TR.put (a := ⟨a, []⟩) h (Ext.refl ρ) hv (some p)
    exact setPs_ok tl this (by simpa using hl)
/-- A round, where a function calls what the loop handed it. -/
theorem round_ok {cd : Code → St → (Ex → St → Prop) → Prop} (hcd : ∀ (b : Nat) (c : Code) (st : St) (Q : Ex → St → Prop) (ρ : Names) (W w : World) (a : Act), cd c st Q → RelS ρ W st a w → ∀ n, c.wpIn (FR (some b)) n P (Post ρ W Q) a w)
    {o : Oper} {c : Call} {f : Operand} (hc : o.op = .call c) (hcal : c.callee = .value f) {n : Nat} {args : List AV} {h : Heap} {a : Act} {A : List Value} (hR : Rel ρ W h w) (hf : RV ρ W (.yl n) (a.eval f)) (hA : RL ρ W args A) (hAe : c.args.toList.map a.eval = A)
    {Kx : AV → Heap → Prop} (hq : roundA PA cd n args h Kx) {K : Act → World → Prop} {Q : Exit → Act → World → Prop} (hK : ∀ ρ' V w' v h', Ext ρ ρ' → RV ρ' W v V → Rel ρ' W h' w' → Kx v h' → K (a.put o.dst V) w') (r : Option Nat) (dp : Nat) : o.wpIn (FR r) dp P a w K Q := by
  unfold roundA at hq
  split at hq
  case h_2 => exact no_elim hq
  rename_i pe t ps sg bo hrd
  split at hq
  case isFalse => exact no_elim hq
  rename_i hlen
  have hn := rdFlat_some hrd
  obtain ⟨b, o', lr, e1, h4, h5, h6, h7, h8, h9, h10, _⟩ := loop_put hR hn
  generalize hF : a.eval f = F at hf
  cases hf with | yl hp =>
  rename_i b2 o2
  obtain ⟨hbb, hoo⟩ : b2 = b ∧ o2 = o' := by rw [hp] at e1; simpa using e1
  subst hbb; subst hoo
  rw [fst_eq] at hq
  have e0 : c.args.map a.eval = A.toArray := by apply Array.ext'; simpa using hAe
  have hsz : A.toArray.size = lr.params.size := by
    have := hA.length
    have h2 : lr.params.toList.length = ps.length := by rw [h7]
    simp at h2 ⊢
    omega
  have hrun : (execOp a.eval o).run P w = .ok (.round b2 lr.fn ((lr.params.zip A.toArray).foldl (fun tmps (t, a) => tmps.setIfInBounds t a) lr.tmps) lr.assign lr.body) w := by
    have := run_yield (P := P) h4 hsz
    simp only [execOp, hc, resolve, hcal, hF, Deferred.ofValue, e0, Sem.run_bind, Sem.run_pure, Result.andThen_ok, invoke, Array.empty_append]
    exact this
  unfold Oper.wpIn
  refine ⟨fun _ _ => trivial, ?_⟩
  rw [Oper.semAt_eq _ _ _ (fun c' e => by rw [hc] at e; cases e), hrun]
  refine ⟨fun e => by simp [Fence.wide] at e, roundIn_of_wpIn (F := FR r) trivial ?_⟩
  have htm : TR ρ W (setPs t ps args) ((lr.params.zip A.toArray).foldl (fun tmps (t, a) => tmps.setIfInBounds t a) lr.tmps) := by
    have := setPs_ok hA h10 hlen
    rw [← Array.foldl_toList, Array.toList_zip, h7]
    exact this
  rw [h8, h9]
  refine wpIn_mono (hcd b2 sg _ _ ρ W w ⟨_, []⟩ hq ⟨htm, hR, .nil⟩ (dp - 1)) fun e a1 w1 hp1 => ?_
  obtain ⟨e', st1, ρ1, g1, g2, g3, g4⟩ := hp1
  cases e' with
  | exit i => exact no_elim g4
  | ret => exact no_elim g4
  | normal =>
    cases e <;> try exact g1.elim
    show ∃ w₂, _
    dsimp only at g4
    split at g4
    case h_2 => exact no_elim g4
    rename_i p1 t1 ps1 as1 b1 hrd1
    have hn1 := rdFlat_some hrd1
    obtain ⟨c1, d1, lr1, k1, k2, k3, k4, k5, k6, k7, k8, k9⟩ := loop_put g3.h hn1
    have hb : c1 = b2 := by
      have := g2 _ _ hp
      rw [this] at k1
      cases k1; rfl
    subst hb
    have hbr := run_beginRound (P := P) k2 k3
    refine ⟨_, hbr, ?_⟩
    have hR1 := k9 .busy p1
    have hrec : ({ lr1 with state := .busy } : Loop) = { lr1 with state := .busy, pending := p1 } := by rw [← k4]
    rw [hrec]
    refine wpIn_mono (hcd c1 bo _ _ ρ1 W _ a1 g4 ⟨g3.t, hR1, g3.d⟩ (dp - 1)) fun e2 a2 w2 hp2 => ?_
    obtain ⟨e2', st2, ρ2, m1, m2, m3, m4⟩ := hp2
    split at m4
    case h_2 => exact no_elim m4
    rename_i s2 p2 t2 ps2 as2 bo2 hrd2
    have hn2 := rdFlat_some hrd2
    obtain ⟨c2, d2, lr2, q1, q2, q3, q4, q5, q6, q7, q8, q9⟩ := loop_put m3.h hn2
    have hb : c2 = c1 := by
      have := m2 _ _ (g2 _ _ hp)
      rw [this] at q1
      cases q1; rfl
    subst hb
    have hext : Ext ρ ρ2 := g2.trans m2
    cases e2' with
    | normal =>
      cases e2 <;> try exact m1.elim
      exact ⟨_, _, run_endRound (P := P) none q2, hK ρ2 _ _ _ _ hext (.bool true) (q9 .ready none) m4⟩
    | ret =>
      cases e2 <;> try exact m1.elim
      exact ⟨_, _, run_endRound (P := P) (some .ret) q2, hK ρ2 _ _ _ _ hext (.bool false) (q9 .done (some .ret)) m4⟩
    | exit i =>
      cases e2 <;> try exact m1.elim
      rename_i i'
      have m1' : i = i' := m1
      subst m1'
      exact ⟨_, _, run_endRound (P := P) (some (.exit i)) q2, hK ρ2 _ _ _ _ hext (.bool false) (q9 .done (some (.exit i))) m4⟩
/-- A range over a function. -/
theorem range_ok {call : FuncId → List AV → Heap → (AV → Heap → Prop) → Prop} (hcall : CallOk P call) : RfOk P none (rangeA PA call) := by
  intro f ps sg bo st Q ρ W w a hq hs n
  simp only [rangeA] at hq
  split at hq
  case h_2 => exact no_elim hq
  rename_i g first cap hf
  have hfv := hs.ev0 _ _ hf
  generalize hF : a.eval f = F at hfv
  cases hfv with | fn _ hfirst hcap =>
  rename_i FA CA
  refine wpIn_rangeFunc fun fn _ => ?_
  have he := run_enterLoop_outer (P := P) (w := w) fn a.tmps ps sg bo
  -- the two blocks
  obtain ⟨x1, x2, x3⟩ := makeF_ok hs.h (nm := st.h.length) (.inl rfl) (w' := w.alloc (.deferred (some []))) (World.grownBy_alloc w _ none) (x := .dfr) (b := w.heap.size) (o := 0) (Nat.le_refl _) (by simp) ⟨hs.h.bel.size, rfl, heap_alloc_new w _⟩
  have l1 : effH st.h st.h.length (.alloc .dfr) = st.h ++ [some .dfr] := by simp [effH]
  rw [l1] at x2
  generalize ρ.with st.h.length w.heap.size 0 = ρ1 at x1 x2 x3
  have hw1 : (w.alloc (.deferred (some []))).heap.size = w.heap.size + 1 := by simp
  obtain ⟨L, hL⟩ : ∃ L : Loop, L = { state := .ready, pending := none, fn, tmps := a.tmps, params := ps, assign := sg, body := bo, defers := w.heap.size } := ⟨_, rfl⟩
  rw [← hL] at he
  have hl2 : ((w.alloc (.deferred (some []))).alloc (.loop L)).heap[w.heap.size + 1]? = some (.loop L) := by
    have := heap_alloc_new (w.alloc (.deferred (some []))) (.loop L)
    rw [hw1] at this
    exact this
  have hTL : TR (ρ1.with (st.h.length + 1) (w.heap.size + 1) 0) W st.t L.tmps := by
    rw [hL]
    exact (hs.t.ext x1).ext (Names.with_ext (x2.free_none (.inl (by simp))))
  obtain ⟨y1, y2, y3⟩ := makeF_ok x2 (nm := st.h.length + 1) (.inl (by simp)) (w' := (w.alloc (.deferred (some []))).alloc (.loop L)) (World.grownBy_alloc _ _ none) (x := .loop .ready none st.t ps.toList sg bo) (b := w.heap.size + 1) (o := 0) (by omega) (by simp)
    ⟨by have := hs.h.bel.size; omega, L, hl2, by rw [hL], by rw [hL], by rw [hL], by rw [hL], by rw [hL], hTL⟩
  have l2 : effH (st.h ++ [some .dfr]) (st.h.length + 1) (.alloc (.loop .ready none st.t ps.toList sg bo)) = st.h ++ [some .dfr, some (.loop .ready none st.t ps.toList sg bo)] := by simp [effH]
  rw [l2] at y2
  generalize ρ1.with (st.h.length + 1) (w.heap.size + 1) 0 = ρ2 at y1 y2 y3
  clear hTL
  have hext := x1.trans y1
  obtain ⟨henter, hcalls⟩ := hcall _ _ _ _ hq _ W _ (FA ++ ([.func (.yield (w.heap.size + 1)) #[] #[]] ++ CA)) y2 (by
    rw [List.append_assoc]
    exact (hfirst.ext hext).append ((RL.cons (.yl y3) .nil).append (hcap.ext hext)))
  refine ⟨w.heap.size + 1, _, _, { target := .fn (.func g) CA.toArray, args := FA.toArray ++ #[Value.func (.yield (w.heap.size + 1)) #[] #[]] }, (w.alloc (.deferred (some []))).alloc (.loop L), g, (FA ++ ([Value.func (.yield (w.heap.size + 1)) #[] #[]] ++ CA)).toArray, (w.alloc (.deferred (some []))).alloc (.loop L), he, ?_, fun _ _ => trivial, ?_, fun e => by simp [Fence.wide] at e, ?_⟩
  · have hmap : Array.map a.eval #[Operand.const (Value.func (.yield (w.heap.size + 1)) #[] #[])] = #[Value.func (.yield (w.heap.size + 1)) #[] #[]] := by simp [Act.eval]
    simp only [resolve, Sem.run_bind, hF, Deferred.ofValue, Sem.run_pure, Result.andThen_ok, hmap]
  · have : FA.toArray ++ #[Value.func (.yield (w.heap.size + 1)) #[] #[]] ++ CA.toArray = (FA ++ ([Value.func (.yield (w.heap.size + 1)) #[] #[]] ++ CA)).toArray := by simp
    simp only [invoke, this]
    exact henter _
  · refine callsFR (hcalls.mono ?_)
    intro e w3 hp
    obtain ⟨V, rfl, ρ3, v3, h3, z1, z2, z3, z4⟩ := hp
    show ∃ jump w₄, _
    split at z4
    case h_2 => exact no_elim z4
    rename_i s3 pe3 t3 ps3 as3 bo3 hrd3
    split at z4
    case isTrue => exact no_elim z4
    rename_i hbusy
    have hn3 := rdFlat_some hrd3
    obtain ⟨b3, o3, lr3, k1, k2, k3, k4, k5, k6, k7, k8, k9⟩ := loop_put z3 hn3
    have hb : b3 = w.heap.size + 1 := by
      have := z1 _ _ y3
      rw [this] at k1
      cases k1; rfl
    subst hb
    have hext3 : Ext ρ ρ3 := hext.trans z1
    have hend := run_endLoop (P := P) k2 (by rw [k3]; exact hbusy)
    have hlt : w.heap.size + 1 < w3.heap.size := (Array.getElem?_eq_some_iff.1 k2).1
    have hR4 : Rel ρ3 W (h3.set (st.h.length + 1) (some .dead)) (w3.putObj (w.heap.size + 1) (.loop { lr3 with state := .exhausted })) :=
      z3.put hn3 rfl k1 (fun k hk => World.putObj_heap_other hk) World.putObj_size rfl rfl rfl trivial
    have hS : RelS ρ3 W ⟨st.t, h3.set (st.h.length + 1) (some .dead), st.h.length :: st.d⟩ { a with defers := [{ target := .collected w.heap.size, args := #[] }] ++ a.defers } (w3.putObj (w.heap.size + 1) (.loop { lr3 with state := .exhausted })) :=
      ⟨hs.t.ext hext3, hR4, .cons (z1 _ _ (y1 _ _ x3)) (hs.d.ext hext3)⟩
    refine ⟨_, _, hend, ?_⟩
    clear hend
    generalize w3.putObj (w.heap.size + 1) (.loop { lr3 with state := .exhausted }) = w4 at hS ⊢
    rw [k4]
    split at z4
    · rw [fst_eq] at z4; exact ⟨.normal, _, ρ3, trivial, hext3, hS, z4⟩
    · rw [fst_eq] at z4; exact wpIn_ret ⟨.ret, _, ρ3, trivial, hext3, hS, z4⟩
    · rw [fst_eq] at z4; exact wpIn_exit ⟨.exit _, _, ρ3, rfl, hext3, hS, z4⟩
    · exact no_elim z4
theorem callOf_ok {o : Oper} {e : Operand → Option AV} {g : FuncId} {args : List AV} (hq : callOf P o e = some (g, args)) : ∃ c, o.op = .call c ∧ targetA P e c = some (g, args) := by
  unfold callOf at hq
  split at hq
  · rename_i c hc; exact ⟨c, hc, hq⟩
  · cases hq
theorem yieldOf_ok {o : Oper} {e : Operand → Option AV} {n : Nat} {args : List AV} (hq : yieldOf o e = some (n, args)) : ∃ c f, o.op = .call c ∧ c.callee = .value f ∧ e f = some (.yl n) ∧ evAll e c.args.toList = some args := by
  unfold yieldOf at hq
  split at hq
  · rename_i c hc
    split at hq
    · rename_i f hf
      split at hq
      · rename_i n' args' h1 h2
        simp at hq
        obtain ⟨rfl, rfl⟩ := hq
        exact ⟨c, f, hc, hf, h1, h2⟩
      · cases hq
    · cases hq
  · cases hq
theorem xop_nodefer {o : Oper} {e : Operand → Option AV} {rd : Nat → Option Ob} {nm : Nat} {x : Bool × AV × Option (Nat × Ob) × Option Ob} (hq : xop P o e rd nm = some x) : ∀ c, o.op ≠ .defer c := fun c h => by
  simp [xop, h] at hq
theorem all_ok (hm : P.follows .mixedOrders = true) (hT : TabOk P T) : ∀ n, (∀ r rf, RfOk P r rf → LoopsOk P r (alp PA P T rf n)) ∧ InlOk P (ainl PA P T n) ∧ CallOk P (acall PA P T n)
  | 0 => ⟨fun _ _ _ _ _ _ _ _ _ _ h => no_elim h, fun _ _ _ _ h => no_elim h, fun _ _ _ _ h => no_elim h⟩
  | n + 1 => by
    obtain ⟨h1, h2, h3⟩ := all_ok hm hT n
    refine ⟨fun r rf hrf => loopsA_ok hm hT (h1 r rf hrf) h2 hrf, ?_, ?_⟩
    · intro o e h Kx hq ρ W w a hR he K Q hK r dp
      simp only [ainl] at hq
      split at hq
      · rename_i p v s al hx
        obtain ⟨rfl, hq⟩ := brc_false.1 hq
        rw [fso_eq, fao_eq] at hq
        exact wpIn_of_wp (xop_nodefer hx) (xop_ok hR he hx fun ρ' w' V he' hV hR' => hK ρ' V w' v _ he' hV hR' hq)
      split at hq
      · rename_i g args hta
        obtain ⟨c, hc, hta⟩ := callOf_ok hta
        obtain ⟨A, hA, hrun⟩ := target_ok (P := P) he hta o.type
        obtain ⟨henter, hcalls⟩ := h3 _ _ _ _ hq ρ W w A hR hA
        refine wpIn_of_wp (fun c' e' => by rw [hc] at e'; cases e') (wp_gives (R := fun V w' => ∃ ρ' v h', Ext ρ ρ' ∧ RV ρ' W v V ∧ Rel ρ' W h' w' ∧ Kx v h') (.inl ⟨henter _, hcalls.mono fun e w' he => he⟩) (by simp only [execOp, hc]; exact hrun w) fun V w' hVw => ?_)
        obtain ⟨ρ', v, h', g1, g2, g3, g4⟩ := hVw
        exact hK ρ' V w' v h' g1 g2 g3 g4
      · split at hq
        case h_2 => exact no_elim hq
        rename_i nl args hy
        obtain ⟨c, f, hc, hcal, hf, hargs⟩ := yieldOf_ok hy
        exact round_ok (fun b c st Q ρ W w a hcode hs n => codeA_ok0 hm hT (h1 (some b) _ (noRf_ok P _)) h2 (noRf_ok P _) c st Q ρ W w a hcode hs n) hc hcal hR (he _ _ hf) (evAll_ok he _ _ hargs) rfl hq hK r dp
    · intro g args h K hq ρ W w A hR hA
      simp only [acall] at hq
      split at hq
      case h_2 => exact no_elim hq
      rename_i fn hf
      split at hq
      case isTrue => exact no_elim hq
      rename_i hn
      have hrf := range_ok (P := P) h3
      exact ⟨fun w' => callFunc_enter hf (bodyA_some hq) (by simpa using hn) _ _, body_ok hf (fun c _ => codeA_ok0 hm hT (h1 none _ hrf) h2 hrf c) hA hR hq⟩
/-- The contracts of a function's loops. -/
def LtOk (P : Program) (g : FuncId) (LT : LTab Prop) : Prop := ∀ fn c, P.funcs[g]? = some fn → fn.body = some c → ∀ b ∈ Code.loops c, ∀ lc, LT (Code.first b) = some lc → LcOk P b lc
theorem ltOk_none (P : Program) (g : FuncId) : LtOk P g noLoops := fun _ _ _ _ _ _ _ h => by cases h
/-- **A function's contract**: what its body comes to from an empty heap of its own. -/
theorem afn_ok (hm : P.follows .mixedOrders = true) (hT : TabOk P T) {n : Nat} {g : FuncId} {LT : LTab Prop} (hLT : LtOk P g LT) {args : List AV} {K : AV → Heap → Prop} (hq : afn PA P T LT n g args K) {A : List Value} {w : World} (hA : RL noNames w args A) :
    Calls P g A.toArray w fun e w' => ∃ V, e = .returned V ∧ ∃ ρ' v h', RV ρ' w v V ∧ Rel ρ' w h' w' ∧ K v h' := by
  unfold afn at hq
  split at hq
  case h_2 => exact no_elim hq
  rename_i fn hf
  obtain ⟨h1, h2, h3⟩ := all_ok (P := P) (T := T) hm hT n
  have hrf := range_ok (P := P) h3
  refine (body_ok hf (fun c hc => codeA_ok hm hT (h1 none _ hrf) h2 hrf c (hLT fn c hf hc)) hA (Rel.start w) hq).mono fun e w' he => ?_
  obtain ⟨V, g1, ρ', v, h', g2, g3, g4, g5⟩ := he
  exact ⟨V, g1, ρ', v, h', g3, g4, g5⟩
/-- A result whose slices are told by what they hold. -/
theorem toNul_ok {W w : World} {ρ : Names} {h : Heap} {n : Nat} (ih : ∀ {v : AV} {V : Value}, RV ρ W v V → (toNu h n v).okN n = true → RV noNames w (toNu h n v) V ∧ Fr W.heap.size n (toNu h n v) V) :
    ∀ {l : List AV} {L : List Value}, RL ρ W l L → (l.map (toNu h n)).all (AV.okN n) = true → RL noNames w (l.map (toNu h n)) L ∧ ∀ (i : Nat) (v : AV) (V : Value), (l.map (toNu h n))[i]? = some v → L[i]? = some V → Fr W.heap.size n v V
  | _, _, .nil, _ => ⟨.nil, fun i v V a => by simp at a⟩
  | _, _, .cons g t, ha => by
    simp only [List.map_cons, List.all_cons, Bool.and_eq_true] at ha
    obtain ⟨g1, g2⟩ := ih g ha.1
    obtain ⟨g3, g4⟩ := toNul_ok ih t ha.2
    refine ⟨.cons g1 g3, fun i v V a b => ?_⟩
    cases i with
    | zero => simp at a b; subst a; subst b; exact g2
    | succ i => exact g4 i v V (by simpa using a) (by simpa using b)
theorem toNu_gs {W w : World} {ρ : Names} {h : Heap} (hR : Rel ρ W h w) {m n s len : Nat} {V : Value} (hv : RV ρ W (.gs m s len) V) (ho : (toNu h n (.gs m s len)).okN n = true) : RV noNames w (toNu h n (.gs m s len)) V ∧ Fr W.heap.size n (toNu h n (.gs m s len)) V := by
  have e : toNu h n (.gs m s len) = match rdFlat h m with
    | some (.own true e s' l) => if s = s' ∧ l.length = len * s then .nu e s len l else .gs m s len
    | _ => .gs m s len := by cases n <;> rfl
  rw [e] at ho ⊢
  have bad : (AV.gs m s len).okN n = false := by cases n <;> rfl
  split at ho
  · rename_i e' s' l hl
    try simp only [hl]
    split at ho
    · rename_i hc
      rw [if_pos hc]
      obtain ⟨rfl, hlen⟩ := hc
      cases hv with | gs s len hp hle =>
      rename_i b cap
      obtain ⟨b', o', e1, e2⟩ := hR.ob m _ (rdFlat_ok _ _ _ hl)
      rw [hp] at e1; cases e1
      obtain ⟨hW0, hcap, L, fz, h4, h5, h6, _, h7, h8⟩ := e2
      have hfz := h6 rfl
      subst hfz
      have ho' : l.all (AV.flat 4) = true := by cases n <;> simp [AV.okN] at ho <;> simpa using ho.1
      exact ⟨.nu e' s len (hR.dom m _ hp).2 hcap hle h4 h5 hlen (h8.flat_move 4 ho'), by cases n <;> simpa [Fr] using hW0⟩
    · rw [bad] at ho; cases ho
  · rw [bad] at ho; cases ho
theorem toNu_ok {W w : World} {ρ : Names} {h : Heap} (hR : Rel ρ W h w) : ∀ (n : Nat) {v : AV} {V : Value}, RV ρ W v V → (toNu h n v).okN n = true → RV noNames w (toNu h n v) V ∧ Fr W.heap.size n (toNu h n v) V := by
  intro n
  induction n with
  | zero =>
    intro v V hv ho
    cases v
    case gs => exact toNu_gs hR hv ho
    case nu e s len l => simp [toNu, AV.okN, AV.flat] at ho
    all_goals exact ⟨hv.flat_move 0 ho, Fr.flat 0 ho⟩
  | succ n ih =>
    intro v V hv ho
    cases v
    case gs => exact toNu_gs hR hv ho
    case nu e s len l => simp [toNu, AV.okN, AV.flat] at ho
    case agg l =>
      cases hv with | agg hl =>
      obtain ⟨g1, g2⟩ := toNul_ok ih hl ho
      exact ⟨.agg g1, fun i v V a b => g2 i v V a (by simpa using b)⟩
    case tup l =>
      cases hv with | tup hl =>
      obtain ⟨g1, g2⟩ := toNul_ok ih hl ho
      exact ⟨.tup g1, fun i v V a b => g2 i v V a (by simpa using b)⟩
    all_goals exact ⟨hv.flat_move (n + 1) ho, Fr.flat (n + 1) ho⟩
/-- A contract's result. -/
theorem givesN_ok (hm : P.follows .mixedOrders = true) (hT : TabOk P T) {g : FuncId} (hn : (P.funcs[g]?).any (fun fn => !(fn.name == "runtime.NumGoroutine")) = true) {LT : LTab Prop} (hLT : LtOk P g LT) {args : List AV} {v : AV} (hok : v.okN 4 = true) {n : Nat}
    (hq : afn PA P T LT n g args fun u h => toNu h 4 u = v) {A : List Value} (hA : RL noNames w args A) : Gives P g A.toArray w fun V w' => (RV noNames w' v V ∧ Below w.heap.size w w') ∧ Fr w.heap.size 4 v V := by
  cases hf : P.funcs[g]? with
  | none => simp [hf] at hn
  | some fn =>
    simp [hf] at hn
    have hb : fn.body.isSome = true := by
      unfold afn at hq
      simp only [hf] at hq
      exact bodyA_some hq
    refine .inl ⟨callFunc_enter hf hb (by simpa using hn) _ _, (afn_ok hm hT hLT hq hA).mono fun e w' he => ?_⟩
    obtain ⟨V, g1, ρ', u, h', g2, g3, rfl⟩ := he
    obtain ⟨k1, k2⟩ := toNu_ok g3 4 g2 hok
    exact ⟨V, g1, ⟨k1, g3.bel⟩, k2⟩
end Go.Proofs.YthkmckmfgglafaaGreat.A
namespace Go.Proofs.YthkmckmfgglafaaGreat.A
open Go Go.RowKit
set_option linter.unusedVariables false
set_option linter.unusedSimpArgs false
set_option maxRecDepth 100000
variable {ρ : Names} {W w : World}
theorem rl_nil {L : List Value} : RL ρ W [] L ↔ L = [] := ⟨fun h => by cases h; rfl, fun h => by subst h; exact .nil⟩
theorem rl_cons {v : AV} {l : List AV} {L : List Value} : RL ρ W (v :: l) L ↔ ∃ V L', L = V :: L' ∧ RV ρ W v V ∧ RL ρ W l L' :=
  ⟨fun h => by cases h with | cons h t => exact ⟨_, _, rfl, h, t⟩, fun ⟨_, _, e, h, t⟩ => by subst e; exact .cons h t⟩
theorem rv_int {k : IntKind} {n : Int} {V : Value} : RV ρ W (.int k n) V ↔ V = .int k n := ⟨fun h => by cases h; rfl, fun h => by subst h; exact .int _ _⟩
theorem rv_bool {b : Bool} {V : Value} : RV ρ W (.bool b) V ↔ V = .bool b := ⟨fun h => by cases h; rfl, fun h => by subst h; exact .bool _⟩
theorem rv_str {s : ByteArray} {V : Value} : RV ρ W (.str s) V ↔ V = .string s := ⟨fun h => by cases h; rfl, fun h => by subst h; exact .str _⟩
theorem rv_agg {l : List AV} {V : Value} : RV ρ W (.agg l) V ↔ ∃ L, V = .agg L.toArray ∧ RL ρ W l L := ⟨fun h => by cases h with | agg h => exact ⟨_, rfl, h⟩, fun ⟨_, e, h⟩ => by subst e; exact .agg h⟩
theorem rv_tup {l : List AV} {V : Value} : RV ρ W (.tup l) V ↔ ∃ L, V = .tuple L.toArray ∧ RL ρ W l L := ⟨fun h => by cases h with | tup h => exact ⟨_, rfl, h⟩, fun ⟨_, e, h⟩ => by subst e; exact .tup h⟩
theorem rv_fn {f : Fn} {V : Value} : RV ρ W (.fn f [] []) V ↔ V = .func f #[] #[] := ⟨fun h => by cases h with | fn f ha hb => cases ha; cases hb; rfl, fun h => by subst h; exact .fn f .nil .nil⟩
theorem brc_iff {b : Bool} {A B : Prop} : brc b A B ↔ (b = true → A) ∧ (b = false → B) := by cases b <;> simp [brc]
theorem ite_some_iff {α : Type} {c : Prop} [Decidable c] {a b : Option α} {r : α} : (if c then a else b) = some r ↔ (c ∧ a = some r) ∨ (¬ c ∧ b = some r) := by split <;> simp_all
noncomputable def gd {α : Type} [Inhabited α] (o : Option α) : α := o.getD default
theorem gd_some {α : Type} [Inhabited α] (a : α) : gd (some a) = a := rfl
theorem wrap_i64 (x : Int) : IntKind.i64.wrap x = wrap64 x := by rw [IntKind.wrap_i64]; unfold wrap64; rfl
theorem mixed : Tryz.prog.follows .mixedOrders = true := by kernel_rfl
/-- Contracts, by a list. -/
def tab : List (FuncId × Con) → Tab
  | [], _ => none
  | (g, c) :: r, f => if f = g then some c else tab r f
theorem tab_nil {P : Program} : TabOk P (tab []) := fun _ _ h => by cases h
theorem tab_cons {P : Program} {g : FuncId} {c : Con} {r : List (FuncId × Con)} (h : COk P g c) (t : TabOk P (tab r)) : TabOk P (tab ((g, c) :: r)) := fun f con hq => by
  simp only [tab] at hq
  split at hq
  · rename_i e; subst e; simp at hq; subst hq; exact h
  · exact t f con hq
/-- A printed function's proof as a contract's at one place. -/
theorem gives_of_calls {g : FuncId} {fn : Func} (hf : Tryz.prog.funcs[g]? = some fn) (hb : fn.body.isSome = true) (hn : (fn.name == "runtime.NumGoroutine") = false) {A : List Value} {v : AV} {V : Value} {R : World → World → Prop}
    (h : Calls Tryz.prog g A.toArray w fun e w' => e = .returned V ∧ R w w') (hV : ∀ w', RV noNames w' v V) (hR : ∀ w', R w w' → Below w.heap.size w w') (hfl : v.flat 4 = true := by rfl) : Gives Tryz.prog g A.toArray w fun V w' => (RV noNames w' v V ∧ Below w.heap.size w w') ∧ Fr w.heap.size 4 v V :=
  .inl ⟨callFunc_enter hf hb hn _ _, h.mono fun e w' he => ⟨V, he.1, ⟨hV w', hR w' he.2⟩, Fr.flat 4 hfl⟩⟩
theorem gives_of_run {g : FuncId} {A : List Value} {v : AV} {V : Value} (h : (callFunc g A.toArray).run Tryz.prog w = .ok (.value V) w) (hV : ∀ w', RV noNames w' v V) (hfl : v.flat 4 = true := by rfl) : Gives Tryz.prog g A.toArray w fun V w' => (RV noNames w' v V ∧ Below w.heap.size w w') ∧ Fr w.heap.size 4 v V :=
  .inr ⟨V, h, ⟨hV w, Below.refl _ _⟩, Fr.flat 4 hfl⟩
theorem calls_of_vc {T : Tab} (hT : TabOk Tryz.prog T) {n : Nat} {g : FuncId} {args : List AV} {v : AV} {V : Value} {A : List Value} (hq : afv PA Tryz.prog T noLoops n g args fun u => u = v) (hA : RL noNames w args A) (hV : ∀ ρ V', RV ρ w v V' → V' = V) :
    Calls Tryz.prog g A.toArray w fun e w' => e = .returned V ∧ Below w.heap.size w w' := by
  have h1 : afn PA Tryz.prog T noLoops n g args fun u _ => u = v := by rw [afv] at hq; exact hq
  have h2 := afn_ok mixed hT (ltOk_none Tryz.prog g) h1 hA
  refine h2.mono fun e w' he => ?_
  obtain ⟨V', e1, ρ', u, h', g2, g3, g4⟩ := he
  subst g4; subst e1
  exact ⟨by rw [hV ρ' V' g2], g3.bel⟩
end Go.Proofs.YthkmckmfgglafaaGreat.A
namespace Go.Proofs.YthkmckmfgglafaaGreat.A
open Go Go.RowKit
set_option linter.unusedVariables false
set_option linter.unusedSimpArgs false
variable {P : Program} {T : Tab} {β : Type} {x : β}
theorem bro_some {b : Bool} {A B : Option β} (h : bro b A B = some x) : (b = true ∧ A = some x) ∨ (b = false ∧ B = some x) := by cases b <;> simp_all [bro]
def InlAd (x : β) (i : Inl (Option β)) (j : Inl Prop) : Prop := ∀ c e h (K : AV → Heap → Option β) (K' : AV → Heap → Prop), i c e h K = some x → (∀ v h', K v h' = some x → K' v h') → j c e h K'
def RecAd (x : β) (i : Code → St → (Ex → St → Option β) → Option β) (j : Code → St → (Ex → St → Prop) → Prop) : Prop :=
  ∀ c st (K : Ex → St → Option β) (K' : Ex → St → Prop), i c st K = some x → (∀ e s, K e s = some x → K' e s) → j c st K'
theorem step_ad {ok : Nat → Nat → Bool} {lk : Lk} (hlk : LkOk lk) {ops : Array Oper} {rd : Nat → Heap → Nat → Option Ob} {nm : Nat → Heap → Nat} {i : Inl (Option β)} {j : Inl Prop} (hi : InlAd x i j) {n : Nat} {st : St} {K : St → Option β} {K' : St → Prop}
    (h : stepA (OA β) P T ok lk ops rd nm i n K st = some x) (hK : ∀ s, K s = some x → K' s) : stepA PA P T ok lk ops rd nm j n K' st := by
  rw [stepA_eq _ P T ok hlk] at h ⊢
  unfold stepB at h ⊢
  split at h
  · rename_i ho; exact hK _ h
  · rename_i o ho
    try simp only [ho]
    split at h
    · cases h
    · rename_i b hb
      try simp only [hb]
      rcases bro_some h with ⟨rfl, h⟩ | ⟨rfl, h⟩
      · simp only [PA, brc]
        split at h
        · rename_i p v f hv
          try simp only [hv]
          cases hok : effOk (ok n) f with
          | false => rw [hok] at h; cases h
          | true =>
          rw [hok] at h
          simp only [Bool.cond_true] at h ⊢
          rcases bro_some h with ⟨rfl, h⟩ | ⟨rfl, h⟩
          · simp only [brc]
            rw [fx_eq, fy_eq, fst_eq] at h ⊢
            exact hK _ h
          · cases h
        · rename_i hv
          try simp only [hv]
          refine hi _ _ _ _ _ h fun v h' hk => ?_
          rw [fv_eq, fst_eq] at hk ⊢
          exact hK _ hk
      · simp only [PA, brc]
        rw [fst_eq] at h ⊢
        exact hK _ h
theorem ops_ad {ok : Nat → Nat → Bool} {lk : Lk} (hlk : LkOk lk) {ops : Array Oper} {rd : Nat → Heap → Nat → Option Ob} {nm : Nat → Heap → Nat} {i : Inl (Option β)} {j : Inl Prop} (hi : InlAd x i j) {K : St → Option β} {K' : St → Prop} (hK : ∀ s, K s = some x → K' s) :
    ∀ (l : List Nat) (st : St), opsA (OA β) P T ok lk ops rd nm i l st K = some x → opsA PA P T ok lk ops rd nm j l st K'
  | [], st, h => hK _ h
  | n :: l, st, h => step_ad hlk hi h fun s hs => ops_ad hlk hi hK l s hs
theorem noInl_ad : InlAd x (noInl (OA β)) (noInl PA) := fun _ _ _ _ _ h _ => by cases h
def RfAd (x : β) (i : Rf (Option β)) (j : Rf Prop) : Prop :=
  ∀ f ps a b st (K : Ex → St → Option β) (K' : Ex → St → Prop), i f ps a b st K = some x → (∀ e s, K e s = some x → K' e s) → j f ps a b st K'
def CallAd (x : β) (i : FuncId → List AV → Heap → (AV → Heap → Option β) → Option β) (j : FuncId → List AV → Heap → (AV → Heap → Prop) → Prop) : Prop :=
  ∀ g args h (K : AV → Heap → Option β) (K' : AV → Heap → Prop), i g args h K = some x → (∀ v h', K v h' = some x → K' v h') → j g args h K'
theorem noRf_ad : RfAd x (noRf (OA β)) (noRf PA) := fun _ _ _ _ _ _ _ h _ => by cases h
theorem code_ad {r : Code → St → (Ex → St → Option β) → Option β} {r' : Code → St → (Ex → St → Prop) → Prop} (hr : RecAd x r r') {i : Inl (Option β)} {j : Inl Prop} (hi : InlAd x i j) {rf : Rf (Option β)} {rf' : Rf Prop} (hf : RfAd x rf rf') : RecAd x (codeA (OA β) P T noLoops r i rf) (codeA PA P T noLoops r' j rf') := by
  intro c
  induction c with
  | skip => intro st K K' h hK; exact hK _ _ h
  | label l => intro st K K' h hK; exact hK _ _ h
  | exit id => intro st K K' h hK; exact hK _ _ h
  | ret => intro st K K' h hK; exact hK _ _ h
  | seq a b iha ihb =>
    intro st K K' h hK
    refine iha _ _ _ h fun e s hs => ?_
    cases e with
    | normal => exact ihb _ _ _ hs hK
    | exit n => exact hK _ _ hs
    | ret => exact hK _ _ hs
  | cond c a b iha ihb =>
    intro st K K' h hK
    simp only [codeA] at h ⊢
    split at h
    · rename_i q hq
      try simp only [hq]
      rcases bro_some h with ⟨rfl, h⟩ | ⟨rfl, h⟩
      · have h2 : fst (refC st c true) (fun st => codeA (OA β) P T noLoops r i rf a st K) = some x := h
        rw [fst_eq, refC_eq hq] at h2
        rw [PA.br_t, fst_eq, refC_eq hq]
        exact iha _ _ _ h2 hK
      · have h2 : fst (refC st c false) (fun st => codeA (OA β) P T noLoops r i rf b st K) = some x := h
        rw [fst_eq, refC_eq hq] at h2
        rw [PA.br_f, fst_eq, refC_eq hq]
        exact ihb _ _ _ h2 hK
    · cases h
  | block id b ih =>
    intro st K K' h hK
    refine ih _ _ _ h fun e s hs => ?_
    cases e with
    | normal => exact hK _ _ hs
    | exit n =>
      simp only at hs ⊢
      split at hs
      · rename_i hn; rw [if_pos hn]; exact hK _ _ hs
      · rename_i hn; rw [if_neg hn]; exact hK _ _ hs
    | ret => exact hK _ _ hs
  | loop b ih =>
    intro st K K' h hK
    exact hr _ _ _ _ h hK
  | rangeFunc f ps a b iha ihb =>
    intro st K K' h hK
    exact hf _ _ _ _ _ _ _ h hK
  | region id ops draw =>
    intro st K K' h hK
    simp only [codeA, regionA] at h ⊢
    split at h
    · rename_i hd
      rw [if_pos hd]
      split at h
      · rename_i hok
        rw [if_pos hok]
        exact ops_ad (lkOf_ok ops) noInl_ad (fun s hs => hK _ _ hs) _ _ h
      · cases h
    · rename_i hd
      rw [if_neg hd]
      exact ops_ad lkAll_ok hi (fun s hs => hK _ _ hs) _ _ h
  | _ => intro st K K' h hK; cases h
theorem body_ad {r : Code → St → (Ex → St → Option β) → Option β} {r' : Code → St → (Ex → St → Prop) → Prop} (hr : RecAd x r r') {i : Inl (Option β)} {j : Inl Prop} (hi : InlAd x i j) {rf : Rf (Option β)} {rf' : Rf Prop} (hf : RfAd x rf rf') {fn : Func} {args : List AV} {hp : Heap} {K : AV → Heap → Option β} {K' : AV → Heap → Prop}
    (h : bodyA (OA β) P T noLoops r i rf fn args hp K = some x) (hK : ∀ v h', K v h' = some x → K' v h') : bodyA PA P T noLoops r' j rf' fn args hp K' := by
  unfold bodyA at h ⊢
  split at h
  · rename_i c hc
    try simp only [hc]
    rw [fl_eq, fst_eq] at h ⊢
    refine code_ad hr hi hf _ _ _ _ h fun e s hs => ?_
    have fin : (match shut s.d s.h with | some h2 => (match resA P ⟨s.t, h2, []⟩ fn.results.toList with | some l => fl (OA β) l fun l => K (resV l) h2 | none => (OA β).no) | none => (OA β).no) = some x → (match shut s.d s.h with | some h2 => (match resA P ⟨s.t, h2, []⟩ fn.results.toList with | some l => fl PA l fun l => K' (resV l) h2 | none => PA.no) | none => PA.no) := fun h => by
      split at h
      · rename_i h2 hs2
        try simp only [hs2]
        split at h
        · rename_i l hl
          try simp only [hl]
          rw [fl_eq] at h ⊢
          exact hK _ _ h
        · cases h
      · cases h
    cases e with
    | normal => exact fin hs
    | ret => exact fin hs
    | exit n => cases hs
  · cases h
theorem round_ad {cd : Code → St → (Ex → St → Option β) → Option β} {cd' : Code → St → (Ex → St → Prop) → Prop} (hc : RecAd x cd cd') {n : Nat} {args : List AV} {hp : Heap} {K : AV → Heap → Option β} {K' : AV → Heap → Prop}
    (h : roundA (OA β) cd n args hp K = some x) (hK : ∀ v h', K v h' = some x → K' v h') : roundA PA cd' n args hp K' := by
  unfold roundA at h ⊢
  split at h
  case h_2 => cases h
  rename_i p t ps sg bo hrd
  try simp only [hrd]
  split at h
  case isFalse => cases h
  rename_i hl
  rw [if_pos hl]
  rw [fst_eq] at h ⊢
  refine hc _ _ _ _ h fun e1 s1 h1 => ?_
  cases e1 with
  | exit n => cases h1
  | ret => cases h1
  | normal =>
    dsimp only at h1 ⊢
    split at h1
    case h_2 => cases h1
    rename_i p1 t1 ps1 as1 b1 hrd1
    try simp only [hrd1]
    refine hc _ _ _ _ h1 fun e2 s2 h2 => ?_
    split at h2
    case h_2 => cases h2
    rename_i hrd2
    try simp only [hrd2]
    cases e2 <;> exact hK _ _ h2
theorem range_ad {call : FuncId → List AV → Heap → (AV → Heap → Option β) → Option β} {call' : FuncId → List AV → Heap → (AV → Heap → Prop) → Prop} (hc : CallAd x call call') : RfAd x (rangeA (OA β) call) (rangeA PA call') := by
  intro f ps a b st K K' h hK
  unfold rangeA at h ⊢
  split at h
  case h_2 => cases h
  rename_i g first cap hf
  try simp only [hf]
  refine hc _ _ _ _ _ h fun v h2 hq => ?_
  try dsimp only at hq ⊢
  split at hq
  case h_2 => cases hq
  rename_i s pe t1 ps1 as1 b1 hrd
  try simp only [hrd]
  split at hq
  case isTrue => cases hq
  rename_i hb
  rw [if_neg hb]
  split at hq
  · rw [fst_eq] at hq ⊢; exact hK _ _ hq
  · rw [fst_eq] at hq ⊢; exact hK _ _ hq
  · rw [fst_eq] at hq ⊢; exact hK _ _ hq
  · cases hq
theorem all_ad : ∀ n, (∀ rf rf', RfAd x rf rf' → RecAd x (alp (OA β) P T rf n) (alp PA P T rf' n)) ∧ InlAd x (ainl (OA β) P T n) (ainl PA P T n) ∧ CallAd x (acall (OA β) P T n) (acall PA P T n)
  | 0 => by
    refine ⟨fun rf rf' _ c st K K' h hK => ?_, fun c e hp K K' h hK => ?_, fun g args hp K K' h hK => ?_⟩
    all_goals
      have : (none : Option β) = some x := h
      cases this
  | n + 1 => by
    obtain ⟨h1, h2, h3⟩ := all_ad n
    refine ⟨fun rf rf' hrf c st K K' h hK => ?_, fun c e h K K' hq hK => ?_, fun g args h K K' hq hK => ?_⟩
    · refine code_ad (h1 _ _ hrf) h2 hrf c _ _ _ h fun e s hs => ?_
      cases e with
      | normal => exact h1 _ _ hrf _ _ _ _ hs hK
      | exit n => exact hK _ _ hs
      | ret => exact hK _ _ hs
    · simp only [ainl] at hq ⊢
      split at hq
      · rename_i p v s al hx
        try simp only [hx]
        rcases bro_some hq with ⟨rfl, hq⟩ | ⟨rfl, hq⟩
        · simp only [PA, brc]
          rw [fso_eq, fao_eq] at hq ⊢
          exact hK _ _ hq
        · cases hq
      rename_i hx
      try simp only [hx]
      split at hq
      · rename_i g args hg
        try simp only [hg]
        exact h3 _ _ _ _ _ hq hK
      · rename_i hg
        try simp only [hg]
        split at hq
        · rename_i nl args hy
          try simp only [hy]
          exact round_ad (code_ad (h1 _ _ noRf_ad) h2 noRf_ad) hq hK
        · cases hq
    · simp only [acall] at hq ⊢
      split at hq
      · rename_i fn hf
        try simp only [hf]
        split at hq
        · cases hq
        · rename_i hn
          rw [if_neg hn]
          have hrf := range_ad h3
          exact body_ad (h1 _ _ hrf) h2 hrf hq hK
      · cases hq
theorem afn_ad {n : Nat} {g : FuncId} {args : List AV} {K : AV → Heap → Option β} {K' : AV → Heap → Prop} (h : afn (OA β) P T noLoops n g args K = some x) (hK : ∀ v h', K v h' = some x → K' v h') : afn PA P T noLoops n g args K' := by
  unfold afn at h ⊢
  split at h
  · rename_i fn hf
    try simp only [hf]
    obtain ⟨h1, h2, h3⟩ := all_ad (P := P) (T := T) (x := x) n
    have hrf := range_ad h3
    exact body_ad (h1 _ _ hrf) h2 hrf h hK
  · cases h
/-- A function that is reckoned out is a contract. -/
theorem runC_ok (hm : P.follows .mixedOrders = true) (rounds : Nat) (hT : TabOk P T) (g : FuncId) : COk P g (runC P rounds T g) := by
  intro args p v hcv hp w A hA
  simp only [runC] at hcv
  split at hcv
  case isFalse => cases hcv
  rename_i hname
  split at hcv
  case h_2 => cases hcv
  rename_i u hu
  split at hcv
  case isFalse => cases hcv
  rename_i hok
  simp at hcv
  obtain ⟨_, rfl⟩ := hcv
  simp only [Bool.and_eq_true] at hok
  have hP : afn PA P T noLoops rounds g args fun z h => toNu h 4 z = u := afn_ad hu fun v h' hk => by rw [fv_eq] at hk; simpa using hk
  exact givesN_ok hm hT hname (ltOk_none P g) hok.1 hP hA
/-- Functions that are reckoned out are contracts. -/
theorem runT_ok (hm : P.follows .mixedOrders = true) (rounds : Nat) {T0 : Tab} (h0 : TabOk P T0) : ∀ k, TabOk P (runT P rounds T0 k)
  | 0 => h0
  | k + 1 => by
    intro g con hc
    simp only [runT] at hc
    split at hc
    · exact h0 g con (by rename_i c hq; rw [hq]; exact hc)
    · simp at hc
      subst hc
      exact runC_ok hm rounds (runT_ok hm rounds h0 k) g
/-- Values by content that are the same. -/
def AV.eqb : Nat → AV → AV → Bool
  | _, .bool a, .bool b => a == b
  | _, .int k a, .int k' b => decide (k = k') && decide (a = b)
  | _, .str a, .str b => decide (a.data.toList = b.data.toList)
  | _, .nilp, .nilp | _, .nilsl, .nilsl | _, .nilmap, .nilmap | _, .nilf, .nilf | _, .nili, .nili => true
  | n + 1, .agg l, .agg m => eql n l m
  | _, _, _ => false
where
  eql (n : Nat) : List AV → List AV → Bool
    | [], [] => true
    | x :: l, y :: m => AV.eqb n x y && eql n l m
    | _, _ => false
mutual
theorem eqb_ok : ∀ (n : Nat) (x y : AV), x.eqb n y = true → x = y
  | n, x, y, h => by
    unfold AV.eqb at h
    split at h
    · simp at h; rw [h]
    · simp at h; obtain ⟨rfl, rfl⟩ := h; rfl
    · rename_i a b
      simp at h
      have : a = b := by
        obtain ⟨⟨a⟩⟩ := a; obtain ⟨⟨b⟩⟩ := b
        simp at h; rw [h]
      rw [this]
    all_goals first | rfl | (cases h; done) | skip
    rw [eql_ok _ _ _ h]
theorem eql_ok : ∀ (n : Nat) (l m : List AV), AV.eqb.eql n l m = true → l = m
  | _, [], [], _ => rfl
  | n, x :: l, y :: m, h => by
    simp only [AV.eqb.eql, Bool.and_eq_true] at h
    rw [eqb_ok n x y h.1, eql_ok n l m h.2]
  | _, [], _ :: _, h => by simp [AV.eqb.eql] at h
  | _, _ :: _, [], h => by simp [AV.eqb.eql] at h
end
/-- What has been reckoned out at some arguments. -/
def memo : List (List AV × AV) → Con
  | [], _ => none
  | (a, v) :: r, args => if AV.eqb.eql 4 a args then some (true, v) else memo r args
theorem memo_ok (hm : P.follows .mixedOrders = true) {rounds : Nat} (hT : TabOk P T) {g : FuncId} : ∀ {l : List (List AV × AV)}, (∀ x ∈ l, runC P rounds T g x.1 = some (true, x.2)) → COk P g (memo l)
  | [], _ => fun args p v hc => by simp [memo] at hc
  | (a, u) :: r, h => fun args p v hc hp w A hA => by
    simp only [memo] at hc
    split at hc
    · rename_i he
      simp at hc
      obtain ⟨rfl, rfl⟩ := hc
      have hae := eql_ok _ _ _ he
      subst hae
      exact runC_ok hm rounds hT g a true u (h (a, u) (by simp)) rfl w A hA
    · exact memo_ok hm hT (fun x hx => h x (by simp [hx])) args p v hc hp w A hA
theorem memo_nil {g : FuncId} {rounds : Nat} : ∀ x ∈ ([] : List (List AV × AV)), runC P rounds T g x.1 = some (true, x.2) := by simp
theorem memo_cons {g : FuncId} {rounds : Nat} {a : List AV} {v : AV} {r : List (List AV × AV)} (h : runC P rounds T g a = some (true, v)) (t : ∀ x ∈ r, runC P rounds T g x.1 = some (true, x.2)) : ∀ x ∈ (a, v) :: r, runC P rounds T g x.1 = some (true, x.2) := fun x hx => by
  rcases List.mem_cons.1 hx with rfl | hx
  · exact h
  · exact t x hx
theorem flat_okN : ∀ (n : Nat) {v : AV}, v.flat n = true → v.okN n = true := by
  intro n
  induction n with
  | zero => intro v h; cases v <;> simp_all [AV.flat, AV.okN]
  | succ n ih =>
    intro v h
    cases v <;> simp only [AV.flat, AV.okN, Bool.false_eq_true] at h ⊢
    case agg l => exact List.all_eq_true.2 fun x hx => ih (List.all_eq_true.1 h x hx)
    case tup l => exact List.all_eq_true.2 fun x hx => ih (List.all_eq_true.1 h x hx)
    all_goals first | exact h | trivial
/-- A closed call, as a function's contract. -/
theorem calls_of_runC (hm : P.follows .mixedOrders = true) {rounds : Nat} (hT : TabOk P T) {g : FuncId} {args : List AV} {v : AV} (hr : runC P rounds T g args = some (true, v)) (hfl : v.flat 4 = true) {A : List Value} {w : World} (hA : RL noNames w args A) {V : Value} (hV : ∀ {W : World} (V' : Value), RV noNames W v V' → V' = V) :
    Calls P g A.toArray w fun e w' => e = .returned V ∧ Below w.heap.size w w' := by
  simp only [runC] at hr
  split at hr
  case isFalse => cases hr
  split at hr
  case h_2 => cases hr
  rename_i u hu
  split at hr
  case isFalse => cases hr
  simp at hr
  subst hr
  have hP : afn PA P T noLoops rounds g args fun z h => toNu h 4 z = u := afn_ad hu fun v h' hk => by rw [fv_eq] at hk; simpa using hk
  refine (afn_ok hm hT (ltOk_none P g) hP hA).mono fun e w' he => ?_
  obtain ⟨V', g1, ρ', z, h', g2, g3, rfl⟩ := he
  have hok : (toNu h' 4 z).okN 4 = true := flat_okN 4 hfl
  obtain ⟨k1, k2⟩ := toNu_ok g3 4 g2 hok
  subst g1
  exact ⟨by rw [hV V' k1], g3.bel⟩
end Go.Proofs.YthkmckmfgglafaaGreat.A
namespace Go.Proofs.YthkmckmfgglafaaGreat.A
open Go Go.RowKit Go.Proofs
set_option linter.unusedVariables false
set_option maxRecDepth 100000
theorem add64_run (a0 a1 a2 : Int) (w : World) (h0 : 0 ≤ a0) (h1 : 0 ≤ a1) (h2 : 0 ≤ a2) (h3 : a2 ≤ 1) :
    (callFunc 177 #[.int .u64 a0, .int .u64 a1, .int .u64 a2]).run Tryz.prog w = .ok (.value (.tuple #[.int .u64 ((a0 + a1 + a2) % 18446744073709551616), .int .u64 ((a0 + a1 + a2) / 18446744073709551616)])) w := by
  rw [run_callFunc_extern Tryz.func177 (by kernel_rfl) (by kernel_rfl) (by kernel_rfl) (e := add64Entry) (by kernel_rfl), run_add64 a0 a1 a2 h0 h1 h2 h3]
  rfl
def addCon : Con
  | [.int .u64 a, .int .u64 b, .int .u64 c] => some (decide (0 ≤ a) && decide (0 ≤ b) && decide (0 ≤ c) && decide (c ≤ 1), .tup [.int .u64 ((a + b + c) % 18446744073709551616), .int .u64 ((a + b + c) / 18446744073709551616)])
  | _ => none
theorem addCon_ok : COk Tryz.prog 177 addCon := by
  intro args p v hc hp w A hA
  unfold addCon at hc
  split at hc
  · rename_i a b c
    simp only [Option.some.injEq, Prod.mk.injEq] at hc
    obtain ⟨rfl, rfl⟩ := hc
    simp only [Bool.and_eq_true, decide_eq_true_eq] at hp
    obtain ⟨⟨⟨h0, h1⟩, h2⟩, h3⟩ := hp
    obtain rfl : A = [.int .u64 a, .int .u64 b, .int .u64 c] := by simpa [rl_cons, rl_nil, rv_int] using hA
    exact gives_of_run (add64_run a b c w h0 h1 h2 h3) (fun _ => by simp [rl_cons, rl_nil, rv_int, rv_tup])
  · cases hc
noncomputable def TK0 : Tab := tab [(177, addCon)]
theorem TK0_ok : TabOk Tryz.prog TK0 := tab_cons addCon_ok tab_nil
def M0 : List (List AV × AV) := [([], .int .i64 (-2453698))]
theorem M0_0 : runC Tryz.prog 450 (runT Tryz.prog 450 TK0 8) 118 [] = some (true, .int .i64 (-2453698)) := by kernel_rfl
theorem M0_ok : COk Tryz.prog 118 (memo M0) := memo_ok mixed (runT_ok mixed 450 TK0_ok 8) (memo_cons M0_0 (memo_nil))
noncomputable def TK1 : Tab := tab [(177, addCon), (118, memo M0)]
theorem TK1_ok : TabOk Tryz.prog TK1 := tab_cons addCon_ok (tab_cons M0_ok (tab_nil))
def M1 : List (List AV × AV) := [([], .int .i64 106754173)]
theorem M1_0 : runC Tryz.prog 450 (runT Tryz.prog 450 TK1 8) 185 [] = some (true, .int .i64 106754173) := by kernel_rfl
theorem M1_ok : COk Tryz.prog 185 (memo M1) := memo_ok mixed (runT_ok mixed 450 TK1_ok 8) (memo_cons M1_0 (memo_nil))
noncomputable def TK2 : Tab := tab [(177, addCon), (118, memo M0), (185, memo M1)]
theorem TK2_ok : TabOk Tryz.prog TK2 := tab_cons addCon_ok (tab_cons M0_ok (tab_cons M1_ok (tab_nil)))
def M2 : List (List AV × AV) := [([(.int .i64 2024)], .int .i64 8766)]
theorem M2_0 : runC Tryz.prog 450 (runT Tryz.prog 450 TK2 8) 145 [(.int .i64 2024)] = some (true, .int .i64 8766) := by kernel_rfl
theorem M2_ok : COk Tryz.prog 145 (memo M2) := memo_ok mixed (runT_ok mixed 450 TK2_ok 8) (memo_cons M2_0 (memo_nil))
noncomputable def TK3 : Tab := tab [(177, addCon), (118, memo M0), (185, memo M1), (145, memo M2)]
theorem TK3_ok : TabOk Tryz.prog TK3 := tab_cons addCon_ok (tab_cons M0_ok (tab_cons M1_ok (tab_cons M2_ok (tab_nil))))
def M3 : List (List AV × AV) := [([(.int .i64 2024), (.int .i64 3), (.int .i64 31), (.int .i64 5)], .agg [.int .i64 0, .int .i64 765158400000005]), ([(.int .i64 2024), (.int .i64 3), (.int .i64 31), (.int .i64 9420000000)], .agg [.int .i64 0, .int .i64 765167820000000]), ([(.int .i64 2024), (.int .i64 3), (.int .i64 31), (.int .i64 0)], .agg [.int .i64 0, .int .i64 765158400000000]), ([(.int .i64 2024), (.int .i64 3), (.int .i64 25), (.int .i64 0)], .agg [.int .i64 0, .int .i64 764640000000000]), ([(.int .i64 2024), (.int .i64 3), (.int .i64 31), (.int .i64 9000000000)], .agg [.int .i64 0, .int .i64 765167400000000])]
theorem M3_0 : runC Tryz.prog 450 (runT Tryz.prog 450 TK3 8) 41 [(.int .i64 2024), (.int .i64 3), (.int .i64 31), (.int .i64 5)] = some (true, .agg [.int .i64 0, .int .i64 765158400000005]) := by kernel_rfl
theorem M3_1 : runC Tryz.prog 450 (runT Tryz.prog 450 TK3 8) 41 [(.int .i64 2024), (.int .i64 3), (.int .i64 31), (.int .i64 9420000000)] = some (true, .agg [.int .i64 0, .int .i64 765167820000000]) := by kernel_rfl
theorem M3_2 : runC Tryz.prog 450 (runT Tryz.prog 450 TK3 8) 41 [(.int .i64 2024), (.int .i64 3), (.int .i64 31), (.int .i64 0)] = some (true, .agg [.int .i64 0, .int .i64 765158400000000]) := by kernel_rfl
theorem M3_3 : runC Tryz.prog 450 (runT Tryz.prog 450 TK3 8) 41 [(.int .i64 2024), (.int .i64 3), (.int .i64 25), (.int .i64 0)] = some (true, .agg [.int .i64 0, .int .i64 764640000000000]) := by kernel_rfl
theorem M3_4 : runC Tryz.prog 450 (runT Tryz.prog 450 TK3 8) 41 [(.int .i64 2024), (.int .i64 3), (.int .i64 31), (.int .i64 9000000000)] = some (true, .agg [.int .i64 0, .int .i64 765167400000000]) := by kernel_rfl
theorem M3_ok : COk Tryz.prog 41 (memo M3) := memo_ok mixed (runT_ok mixed 450 TK3_ok 8) (memo_cons M3_0 (memo_cons M3_1 (memo_cons M3_2 (memo_cons M3_3 (memo_cons M3_4 (memo_nil))))))
noncomputable def TK4 : Tab := tab [(177, addCon), (118, memo M0), (185, memo M1), (145, memo M2), (41, memo M3)]
theorem TK4_ok : TabOk Tryz.prog TK4 := tab_cons addCon_ok (tab_cons M0_ok (tab_cons M1_ok (tab_cons M2_ok (tab_cons M3_ok (tab_nil)))))
theorem known_run : runC Tryz.prog 450 (runT Tryz.prog 450 TK4 8) 10 [] = some (true, .bool true) := by kernel_rfl
theorem known_calls (w : World) : Calls Tryz.prog 10 #[] w fun e w' => e = .returned (.bool true) ∧ Below w.heap.size w w' := calls_of_runC mixed (runT_ok mixed 450 TK4_ok 8) known_run rfl .nil (fun V hV => by simpa [rv_bool] using hV)
end Go.Proofs.YthkmckmfgglafaaGreat.A
namespace Go.Proofs.YthkmckmfgglafaaGreat.P
open Go.RowKit Go.Proofs.YthkmckmfgglafaaGreatW.PrintWords Go.Proofs.YthkmckmfgglafaaGreatW.PrintLast Go.Proofs.YthkmckmfgglafaaGreatW.PrintMore
attribute [local go_sem] max2_int min2_int max_two min_two max_three min_three max_four min_four   -- for this text's walks alone
set_option linter.unusedVariables false
set_option linter.unusedSimpArgs false
def errW : Option Int → Value
  | none => .nilIface
  | some c => .iface 0 (.int .i64 c)
theorem errW_none : errW none = .nilIface := rfl
theorem errW_some (c : Int) : errW (some c) = .iface 0 (.int .i64 c) := rfl
theorem setCell_drewN_ (w : World) (n : Nat) (a : Addr) (v : Value) : (w.drewN n).setCell a v = (w.setCell a v).drewN n := rfl
theorem info2 : (Tryz.prog.info? 2).map (fun i => (i.zero, i.size, i.bytes)) = some (some (.int .i64 0), 1, 8) := by kernel_rfl
theorem info3 : (Tryz.prog.info? 3).map (fun i => (i.zero, i.size, i.bytes)) = some (some (.int .i64 0), 1, 8) := by kernel_rfl
theorem info5 : (Tryz.prog.info? 5).map (fun i => (i.zero, i.size, i.bytes)) = some (some (.int .u8 0), 1, 1) := by kernel_rfl
theorem info9 : (Tryz.prog.info? 9).map (fun i => (i.zero, i.size, i.bytes)) = some (some (.string ⟨#[]⟩), 1, 16) := by kernel_rfl
theorem info24 : (Tryz.prog.info? 24).map (fun i => (i.zero, i.size, i.bytes)) = some (some (.int .i64 0), 1, 8) := by kernel_rfl
theorem info46 : (Tryz.prog.info? 46).map (fun i => (i.zero, i.size, i.bytes)) = some (some (.agg #[(.int .i64 0), (.int .i64 0), (.bool false), (.string ⟨#[]⟩)]), 4, 40) := by kernel_rfl
theorem info169 : (Tryz.prog.info? 169).map (fun i => (i.zero, i.size, i.bytes)) = some (some (.int .u64 0), 1, 8) := by kernel_rfl
-- the values' own types
structure S46 where
  f0 : Int
  f1 : Int
  f2 : Bool
  f3 : ByteArray
def z46 : S46 := ⟨(0 : Int), (0 : Int), false, (⟨#[]⟩ : ByteArray)⟩
def k46 : Kd S46 := Kd.iso (Kd.pair (Kd.int .i64) (Kd.pair (Kd.int .i64) (Kd.pair Kd.bool Kd.string))) (fun x : S46 => (x.f0, x.f1, x.f2, x.f3))
theorem k46_open {w : World} {x : S46} {cs : List Value} (h : k46.K w x cs) : cs = [.int .i64 x.f0, .int .i64 x.f1, .bool x.f2, .string x.f3] := by
  obtain ⟨_, _, rfl, rfl, ⟨_, _, rfl, rfl, ⟨_, _, rfl, rfl, rfl⟩⟩⟩ := h
  exact rfl
theorem k46_openM {w : World} {base : Nat} {ok : Nat → Prop} {x : S46} {cs : List Value} (h : k46.M w base ok x cs) : cs = [.int .i64 x.f0, .int .i64 x.f1, .bool x.f2, .string x.f3] := by
  obtain ⟨_, _, rfl, rfl, ⟨_, _, rfl, rfl, ⟨_, _, rfl, rfl, rfl⟩⟩⟩ := h
  exact rfl
theorem k46_mk (w : World) (x : S46)  : k46.K w x [.int .i64 x.f0, .int .i64 x.f1, .bool x.f2, .string x.f3] := ⟨[.int .i64 x.f0], [.int .i64 x.f1, .bool x.f2, .string x.f3], rfl, rfl, ⟨[.int .i64 x.f1], [.bool x.f2, .string x.f3], rfl, rfl, ⟨[.bool x.f2], [.string x.f3], rfl, rfl, rfl⟩⟩⟩
theorem k46_mkM (w : World) (base : Nat) (ok : Nat → Prop) (x : S46)  : k46.M w base ok x [.int .i64 x.f0, .int .i64 x.f1, .bool x.f2, .string x.f3] := ⟨[.int .i64 x.f0], [.int .i64 x.f1, .bool x.f2, .string x.f3], rfl, rfl, ⟨[.int .i64 x.f1], [.bool x.f2, .string x.f3], rfl, rfl, ⟨[.bool x.f2], [.string x.f3], rfl, rfl, rfl⟩⟩⟩
def rd_T46 (xs : List S46) (i : Int) : S46 := xs.getD i.toNat z46
theorem at_T46 {w : World} {A : Option Addr} {n : Nat} {xs : List S46} (h : Kd.C k46 w A n xs) (i : Int) (h0 : 0 ≤ i) (h1 : i < n) : ∃ ad , A = some ad ∧ w.cell? (ad.add (i.toNat * 4)) = some (.int .i64 (rd_T46 xs i).f0) ∧ w.cell? ⟨(ad.add (i.toNat * 4)).block, (ad.add (i.toNat * 4)).off + 1, none⟩ = some (.int .i64 (rd_T46 xs i).f1) ∧ w.cell? ⟨(ad.add (i.toNat * 4)).block, (ad.add (i.toNat * 4)).off + 2, none⟩ = some (.bool (rd_T46 xs i).f2) ∧ w.cell? ⟨(ad.add (i.toNat * 4)).block, (ad.add (i.toNat * 4)).off + 3, none⟩ = some (.string (rd_T46 xs i).f3) := by
  obtain ⟨ad, c, e, _, hK, hc0⟩ := Kd.C_get h z46 i h0 h1
  have hc : ∀ j u, c[j]? = some u → w.cell? (ad.add (i.toNat * 4 + j)) = some u := hc0
  obtain rfl := k46_open hK
  exact ⟨ad, e, hc 0 _ rfl, by rw [← add_field _ _ 1 (by omega)]; exact hc 1 _ rfl, by rw [← add_field _ _ 2 (by omega)]; exact hc 2 _ rfl, by rw [← add_field _ _ 3 (by omega)]; exact hc 3 _ rfl⟩
end Go.Proofs.YthkmckmfgglafaaGreat.P
namespace Go.Proofs.YthkmckmfgglafaaGreat.P
open Go.RowKit Go.Proofs.YthkmckmfgglafaaGreatW.PrintWords Go.Proofs.YthkmckmfgglafaaGreatW.PrintLast Go.Proofs.YthkmckmfgglafaaGreatW.PrintMore
attribute [local go_sem] max2_int min2_int max_two min_two max_three min_three max_four min_four   -- for this text's walks alone
set_option linter.unusedVariables false
set_option linter.unusedSimpArgs false
theorem eqA23 (d : Nat) (w : World) (x0 y0 : Int) (x1 y1 : Int) :
    (Op.equalIn (d + 2) 23 (.agg #[.int .i64 x0, .int .i64 x1]) (.agg #[.int .i64 y0, .int .i64 y1])).run Tryz.prog w = .ok (x0 == y0 && (x1 == y1)) w := by
  refine eqA_of Tryz.underlying23 (by kernel_rfl) ?_
  refine eqf_cons (by rfl) (by go_simp; rfl) (by go_simp; rfl) (by go_simp) ?_
  exact eqf_last (by rfl) (by go_simp; rfl) (by go_simp; rfl) (by go_simp)
end Go.Proofs.YthkmckmfgglafaaGreat.P

/- A foot that comes in, opened. -/
import Derived.Lib.SmallJoins
import Derived.Test.YtlpnbbonbclddaaQaldloldlgd
namespace Go.Proofs.Ytlpnbbonbclddaa.P
open Go Go.RowKit Go.ChangeShapes Go.WideShapes Go.Proofs.Ytlpnbbonbclddaa.Civ Go.Proofs.Ytlpnbbonbclddaa.Ft
set_option linter.unusedVariables false
set_option linter.unusedSimpArgs false
set_option maxHeartbeats 2000000
def vH (h : Hf) : List Value := [.int .i64 h.m, .int .i64 h.k, .int .i64 h.w, .int .i64 h.n, .int .i64 h.s, .int .u8 h.c, .int .i64 h.v, .string h.ab]
def vF (F : Ft) : List Value := [.bool F.z, .int .i64 F.fr, .int .i64 F.off, .int .i64 F.a.m, .int .i64 F.a.k, .int .i64 F.a.w, .int .i64 F.a.n, .int .i64 F.a.s, .int .u8 F.a.c, .int .i64 F.a.v, .string F.a.ab, .int .i64 F.b.m, .int .i64 F.b.k, .int .i64 F.b.w, .int .i64 F.b.n, .int .i64 F.b.s, .int .u8 F.b.c, .int .i64 F.b.v, .string F.b.ab]
theorem cz_k : Try.prog.cellsOf 3 = 1 := by kernel_rfl
theorem cz_i : Try.prog.cellsOf 2 = 1 := by kernel_rfl
theorem cz_u : Try.prog.cellsOf 5 = 1 := by kernel_rfl
theorem cz_b : Try.prog.cellsOf 4 = 1 := by kernel_rfl
theorem cz_s : Try.prog.cellsOf 9 = 1 := by kernel_rfl
theorem cz_o : Try.prog.cellsOf 23 = 3 := by kernel_rfl
theorem cz_a : Try.prog.cellsOf 25 = 2 := by kernel_rfl
theorem cz_h : Try.prog.cellsOf 27 = 8 := by kernel_rfl
section
variable {H : Type} {enc : TypeId × Value → H} {w : World} {base : Nat} {spare : Nat → Bool} {held : Bool}
theorem list3 {α : Type} {l : List α} (h : l.length = 3) : ∃ a b c, l = [a, b, c] := by
  match l, h with
  | [a, b, c], _ => exact ⟨a, b, c, rfl⟩
theorem list2 {α : Type} {l : List α} (h : l.length = 2) : ∃ a b, l = [a, b] := by
  match l, h with
  | [a, b], _ => exact ⟨a, b, rfl⟩
theorem list5 {α : Type} {l : List α} (h : l.length = 5) : ∃ a b c d e, l = [a, b, c, d, e] := by
  match l, h with
  | [a, b, c, d, e], _ => exact ⟨a, b, c, d, e, rfl⟩
theorem list8 {α : Type} {l : List α} (h : l.length = 8) : ∃ a b c d e f g i, l = [a, b, c, d, e, f, g, i] := by
  match l, h with
  | [a, b, c, d, e, f, g, i], _ => exact ⟨a, b, c, d, e, f, g, i, rfl⟩
theorem list19 {α : Type} {l : List α} (h : l.length = 19) : ∃ a b c d e f g i j k m n o p q r s t u, l = [a, b, c, d, e, f, g, i, j, k, m, n, o, p, q, r, s, t, u] := by
  match l, h with
  | [a, b, c, d, e, f, g, i, j, k, m, n, o, p, q, r, s, t, u], _ => exact ⟨a, b, c, d, e, f, g, i, j, k, m, n, o, p, q, r, s, t, u, rfl⟩
theorem int_of {fuel : Nat} {t : TypeId} {c : Value} {k : IntKind} {x : Option (DataW H × List MemPlace)} {y : DataW H × List MemPlace} (ht : Try.prog.underlying t = some (.int k)) (h : DataW.trod enc Try.prog w base spare held fuel t [c] = x) (hx : x = some y) : ∃ n, c = .int k n ∧ (Lit.int k n).wf = true := by
  subst hx
  obtain ⟨n, e, _, h3⟩ := DataW.trod_int ht h
  exact ⟨n, (List.cons.inj e).1, h3⟩
theorem on_of {fuel : Nat} {cs : List Value} {y : DataW H × List MemPlace} (h : DataW.trod enc Try.prog w base spare held fuel 23 cs = some y) : ∃ k n m, cs = [.int .i64 k, .int .i64 n, .int .i64 m] := by
  obtain ⟨xs, n, _, _, hl, hlen, hf⟩ := DataW.trod_struct Try.underlying23 h
  obtain ⟨a, b, c, rfl⟩ := list3 (hl.trans (by kernel_rfl))
  obtain ⟨x, y, z, rfl⟩ := list3 hlen
  obtain ⟨k0, rfl, _⟩ := int_of (c := a) Try.underlying3 (by simpa [cz_k, cz_i, cz_u, cz_b, cz_s, cz_o, cz_a, cz_h] using hf 0 _ rfl) rfl
  obtain ⟨k1, rfl, _⟩ := int_of (c := b) Try.underlying2 (by simpa [cz_k, cz_i, cz_u, cz_b, cz_s, cz_o, cz_a, cz_h] using hf 1 _ rfl) rfl
  obtain ⟨k2, rfl, _⟩ := int_of (c := c) Try.underlying2 (by simpa [cz_k, cz_i, cz_u, cz_b, cz_s, cz_o, cz_a, cz_h] using hf 2 _ rfl) rfl
  exact ⟨_, _, _, rfl⟩
theorem at_of {fuel : Nat} {cs : List Value} {y : DataW H × List MemPlace} (h : DataW.trod enc Try.prog w base spare held fuel 25 cs = some y) : ∃ k n, cs = [.int .i64 k, .int .u8 n] := by
  obtain ⟨xs, n, _, _, hl, hlen, hf⟩ := DataW.trod_struct Try.underlying25 h
  obtain ⟨a, b, rfl⟩ := list2 (hl.trans (by kernel_rfl))
  obtain ⟨x, y, rfl⟩ := list2 hlen
  obtain ⟨k0, rfl, _⟩ := int_of (c := a) Try.underlying2 (by simpa [cz_k, cz_i, cz_u, cz_b, cz_s, cz_o, cz_a, cz_h] using hf 0 _ rfl) rfl
  obtain ⟨k1, rfl, _⟩ := int_of (c := b) Try.underlying5 (by simpa [cz_k, cz_i, cz_u, cz_b, cz_s, cz_o, cz_a, cz_h] using hf 1 _ rfl) rfl
  exact ⟨_, _, rfl⟩
theorem half_of {fuel : Nat} {cs : List Value} {y : DataW H × List MemPlace} (h : DataW.trod enc Try.prog w base spare held fuel 27 cs = some y) : ∃ h : Hf, cs = vH h ∧ (Lit.int .i64 h.m).wf = true := by
  obtain ⟨xs, n, _, _, hl, hlen, hf⟩ := DataW.trod_struct Try.underlying27 h
  obtain ⟨a, b, c, d, e, f, g, i, rfl⟩ := list8 (hl.trans (by kernel_rfl))
  obtain ⟨x0, x1, x2, x3, x4, rfl⟩ := list5 hlen
  obtain ⟨m, rfl, hm⟩ := int_of (c := a) Try.underlying2 (by simpa [cz_k, cz_i, cz_u, cz_b, cz_s, cz_o, cz_a, cz_h] using hf 0 _ rfl) rfl
  obtain ⟨k, wd, nn, e1⟩ := on_of (cs := [b, c, d]) (by simpa [cz_k, cz_i, cz_u, cz_b, cz_s, cz_o, cz_a, cz_h] using hf 1 _ rfl)
  obtain ⟨s, c0, e2⟩ := at_of (cs := [e, f]) (by simpa [cz_k, cz_i, cz_u, cz_b, cz_s, cz_o, cz_a, cz_h] using hf 2 _ rfl)
  obtain ⟨v, rfl, _⟩ := int_of (c := g) Try.underlying2 (by simpa [cz_k, cz_i, cz_u, cz_b, cz_s, cz_o, cz_a, cz_h] using hf 3 _ rfl) rfl
  obtain ⟨ab, e3, _⟩ := DataW.trod_string (cs := [i]) Try.underlying9 (by simpa [cz_k, cz_i, cz_u, cz_b, cz_s, cz_o, cz_a, cz_h] using hf 4 _ rfl)
  have e1 : [b, c, d] = [Value.int .i64 k, .int .i64 wd, .int .i64 nn] := e1
  have e2 : [e, f] = [Value.int .i64 s, .int .u8 c0] := e2
  have e3 : [i] = [Value.string ab] := e3
  simp only [List.cons.injEq, and_true] at e1 e2 e3
  obtain ⟨rfl, rfl, rfl⟩ := e1
  obtain ⟨rfl, rfl⟩ := e2
  subst e3
  exact ⟨⟨m, k, wd, nn, s, c0, v, ab⟩, rfl, hm⟩
theorem foot_of {fuel : Nat} {cs : List Value} {y : DataW H × List MemPlace} (h : DataW.trod enc Try.prog w base spare held fuel 29 cs = some y) : ∃ F : Ft, cs = vF F ∧ (Lit.int .i64 F.a.m).wf = true ∧ (Lit.int .i64 F.b.m).wf = true := by
  obtain ⟨xs, n, _, _, hl, hlen, hf⟩ := DataW.trod_struct Try.underlying29 h
  obtain ⟨a, b, c, d, e, f, g, i, j, k, m, nn, o, p, q, r, s, t, u, rfl⟩ := list19 (hl.trans (by kernel_rfl))
  obtain ⟨x0, x1, x2, x3, x4, rfl⟩ := list5 hlen
  obtain ⟨z, e0, _⟩ := DataW.trod_bool (cs := [a]) Try.underlying4 (by simpa [cz_k, cz_i, cz_u, cz_b, cz_s, cz_o, cz_a, cz_h] using hf 0 _ rfl)
  obtain ⟨fr, rfl, _⟩ := int_of (c := b) Try.underlying2 (by simpa [cz_k, cz_i, cz_u, cz_b, cz_s, cz_o, cz_a, cz_h] using hf 1 _ rfl) rfl
  obtain ⟨off, rfl, _⟩ := int_of (c := c) Try.underlying2 (by simpa [cz_k, cz_i, cz_u, cz_b, cz_s, cz_o, cz_a, cz_h] using hf 2 _ rfl) rfl
  obtain ⟨A, e1, h1⟩ := half_of (cs := [d, e, f, g, i, j, k, m]) (by simpa [cz_k, cz_i, cz_u, cz_b, cz_s, cz_o, cz_a, cz_h] using hf 3 _ rfl)
  obtain ⟨B, e2, h2⟩ := half_of (cs := [nn, o, p, q, r, s, t, u]) (by simpa [cz_k, cz_i, cz_u, cz_b, cz_s, cz_o, cz_a, cz_h] using hf 4 _ rfl)
  have e0 : [a] = [Value.bool z] := e0
  have e1 : [d, e, f, g, i, j, k, m] = vH A := e1
  have e2 : [nn, o, p, q, r, s, t, u] = vH B := e2
  unfold vH at e1 e2
  simp only [List.cons.injEq, and_true] at e0 e1 e2
  obtain ⟨rfl, rfl, rfl, rfl, rfl, rfl, rfl, rfl⟩ := e1
  obtain ⟨rfl, rfl, rfl, rfl, rfl, rfl, rfl, rfl⟩ := e2
  subst e0
  exact ⟨⟨z, fr, off, A, B⟩, rfl, h1, h2⟩
set_option maxRecDepth 100000 in
theorem open_foot {r : Reach} {b0 : Nat} {v : Value} {d : DataW H} {p : List MemPlace} (hv : Value.okWide Try.prog w r b0 29 v) (h : DataW.Trod enc Try.prog w base spare held 29 v d p) : ∃ F : Ft, v = .agg (vF F).toArray ∧ (Lit.int .i64 F.a.m).wf = true ∧ (Lit.int .i64 F.b.m).wf = true := by
  have hs := Try.underlying29
  obtain ⟨cs, rfl, _⟩ := okWide_struct hs hv
  obtain ⟨fuel, hf⟩ := h
  obtain ⟨F, e, h1, h2⟩ := foot_of hf
  have e : cs.toList = vF F := e
  exact ⟨F, by rw [← e], h1, h2⟩
open A in
theorem rl_half (h : Hf) : RL noNames w (avH h) (vH h) :=
  .cons (.int _ _) (.cons (.int _ _) (.cons (.int _ _) (.cons (.int _ _) (.cons (.int _ _) (.cons (.int _ _) (.cons (.int _ _) (.cons (.str _) .nil)))))))
open A in
theorem rl_foot (F : Ft) : RL noNames w (avF F) (vF F) := by
  have h : RL noNames w ([.bool F.z, .int .i64 F.fr, .int .i64 F.off] ++ (avH F.a ++ avH F.b)) ([.bool F.z, .int .i64 F.fr, .int .i64 F.off] ++ (vH F.a ++ vH F.b)) :=
    RL.append (.cons (.bool _) (.cons (.int _ _) (.cons (.int _ _) .nil))) (RL.append (rl_half _) (rl_half _))
  exact h
end
end Go.Proofs.Ytlpnbbonbclddaa.P

/-
  Arguments that came in: a slice of numbers, as the machine wants it; arguments that read behind the call as they read before.
-/
import Derived.WalkKit
import Derived.ProofKit
import Derived.OpenShut
import Derived.Below
import Derived.Carry
import Derived.Lib.SmallJoins
namespace Go.Proofs.YtgccmnnenhncpaaGreatDoor
open Go Go.ChangeShapes Go.WideShapes Go.ChangeAt Go.RowKit Go.Deep Go.Joins
section
variable {H : Type} {enc : TypeId × Value → H} {P : Program}
theorem cell_block {w : World} {b o : Nat} {v : Value} (h : w.cell? ⟨b, o, none⟩ = some v) : b < w.heap.size := by
  rcases Nat.lt_or_ge b w.heap.size with hl | hl
  · exact hl
  · exfalso
    have e : w.heap[b]? = none := Array.getElem?_eq_none hl
    simp [World.cell?, e] at h
theorem row_of_ints {t e : TypeId} {W : World} {x : Option Addr} {n c : Nat} {d : DataW H} {ps : List MemPlace} (ht : P.underlying t = some (.slice e)) (he : P.underlying e = some (.int .i64)) (hc : P.cellsOf e = 1)
    (h : DataW.Trod enc P W 0 (fun _ => true) true t (.slice x n c) d ps) :
    ∃ zs : Nat → Int, n = 0 ∨ ∃ b0 o0, x = some ⟨b0, o0, none⟩ ∧ b0 < W.heap.size ∧ ∀ j, j < n → W.cell? ⟨b0, o0 + j, none⟩ = some (.int .i64 (zs j)) := by
  obtain ⟨fuel, hf⟩ := h
  rcases open_ints ht he hc hf with ⟨hcs, _⟩ | ⟨a, len, cap, zs, hcs, _, hl, _, hz, _, hcell, _⟩
  · have hcs : ([.slice x n c] : List Value) = [.slice none 0 0] := by simpa [Value.cells] using hcs
    simp only [List.cons.injEq, Value.slice.injEq, and_true] at hcs
    exact ⟨fun _ => 0, .inl hcs.2.1⟩
  · have hcs : ([.slice x n c] : List Value) = [.slice (some a) len cap] := by simpa [Value.cells] using hcs
    simp only [List.cons.injEq, Value.slice.injEq, and_true] at hcs
    obtain ⟨rfl, rfl, rfl⟩ := hcs
    have hz : zs.length = c := by simpa using hz
    refine ⟨fun j => zs.getD j 0, ?_⟩
    rcases Nat.eq_zero_or_pos n with h0 | h0
    · exact .inl h0
    · obtain ⟨b, off, rfl, hcc⟩ := ints_at hcell (by omega)
      exact .inr ⟨b, off, rfl, cell_block (hcc 0 (by omega)), fun j hj => hcc j (by omega)⟩
theorem array5 {α : Type} {cs : Array α} (h : cs.size = 5) : ∃ c0 c1 c2 c3 c4, cs = #[c0, c1, c2, c3, c4] := by
  obtain ⟨l⟩ := cs
  match l, h with
  | [c0, c1, c2, c3, c4], _ => exact ⟨c0, c1, c2, c3, c4, rfl⟩
/-- A struct of three numbers and two slices. -/
theorem script_of {r : Reach} {b0 : Nat} {W : World} {t e3 e4 : TypeId} {f0 f1 f2 f3 f4 : Field} {v : Value} {d : DataW H} {p : List MemPlace} (hs : P.underlying t = some (.struct #[f0, f1, f2, f3, f4])) (hone : oneCellFields P #[f0, f1, f2, f3, f4] = true) (hC : P.cellsOf t = 5)
    (h0 : P.underlying f0.type = some (.int .i64)) (h1 : P.underlying f1.type = some (.int .i64)) (h2 : P.underlying f2.type = some (.int .i64)) (h3 : P.underlying f3.type = some (.slice e3)) (h4 : P.underlying f4.type = some (.slice e4))
    (hv : Value.okWide P W r b0 t v) (h : DataW.Trod enc P W 0 (fun _ => true) true t v d p) :
    ∃ (b c d : Int) (p q : Value), v = .agg #[.int .i64 b, .int .i64 c, .int .i64 d, p, q] ∧ (∃ x n m, p = .slice x n m) ∧ (∃ x n m, q = .slice x n m) := by
  obtain ⟨cs, rfl, hsz⟩ := okWide_struct hs hv
  obtain ⟨c0, c1, c2, c3, c4, rfl⟩ := array5 (hsz.trans hC)
  obtain ⟨fuel, hf⟩ := h
  obtain ⟨xs, n, _, _, _, hlen, hx⟩ := DataW.trod_struct hs hf
  obtain ⟨o0, k0⟩ := hone_of hone 0 f0 rfl
  obtain ⟨o1, k1⟩ := hone_of hone 1 f1 rfl
  obtain ⟨o2, k2⟩ := hone_of hone 2 f2 rfl
  obtain ⟨o3, k3⟩ := hone_of hone 3 f3 rfl
  obtain ⟨o4, k4⟩ := hone_of hone 4 f4 rfl
  match xs, hlen, hx with
  | [y0, y1, y2, y3, y4], _, hx =>
    have t0 : DataW.trod enc P W 0 (fun _ => true) true n f0.type [c0] = some y0 := by simpa [Value.cells, o0, k0] using hx 0 f0 rfl
    have t1 : DataW.trod enc P W 0 (fun _ => true) true n f1.type [c1] = some y1 := by simpa [Value.cells, o1, k1] using hx 1 f1 rfl
    have t2 : DataW.trod enc P W 0 (fun _ => true) true n f2.type [c2] = some y2 := by simpa [Value.cells, o2, k2] using hx 2 f2 rfl
    have t3 : DataW.trod enc P W 0 (fun _ => true) true n f3.type [c3] = some y3 := by simpa [Value.cells, o3, k3] using hx 3 f3 rfl
    have t4 : DataW.trod enc P W 0 (fun _ => true) true n f4.type [c4] = some y4 := by simpa [Value.cells, o4, k4] using hx 4 f4 rfl
    obtain ⟨a0, e0, _, _⟩ := DataW.trod_int h0 t0
    obtain ⟨a1, e1, _, _⟩ := DataW.trod_int h1 t1
    obtain ⟨a2, e2, _, _⟩ := DataW.trod_int h2 t2
    obtain ⟨x3, n3, m3, e3⟩ := slice_form h3 t3
    obtain ⟨x4, n4, m4, e4⟩ := slice_form h4 t4
    simp only [List.cons.injEq, and_true] at e0 e1 e2 e3 e4
    subst e0; subst e1; subst e2; subst e3; subst e4
    exact ⟨a0, a1, a2, _, _, rfl, ⟨_, _, _, rfl⟩, ⟨_, _, _, rfl⟩⟩
end
end Go.Proofs.YtgccmnnenhncpaaGreatDoor

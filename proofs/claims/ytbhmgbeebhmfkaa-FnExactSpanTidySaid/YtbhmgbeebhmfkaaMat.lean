
import Derived.Test.YtbhmgbeebhmfkaaPAx0
import Derived.Deep.Matrix
import Derived.Laws.BytesArg
/- A parameter of rows of whole numbers, opened: what a walk wants of it. -/
set_option linter.unusedVariables false
set_option linter.unusedSimpArgs false
namespace Go.Proofs.Ytbhmgbeebhmfkaa.Mat
open Go.RowKit Go.Deep Go.Proofs.Ytbhmgbeebhmfkaa.PA Go.Proofs.YtbhmgbeebhmfkaaW.PrintWords Go.Proofs.YtbhmgbeebhmfkaaW.PrintLast Go.Proofs.YtbhmgbeebhmfkaaW.PrintMore

theorem mat_open {P : Program} {H : Type} {enc : TypeId × Value → H} {W : World} {held : Bool} {base fuel len cap : Nat} {a : Option Addr} {d : DataW H} {pl : List MemPlace} {t e q : TypeId}
    (ht : P.underlying t = some (.slice e)) (he : P.underlying e = some (.slice q)) (hq : P.underlying q = some (.int .i64)) (ce : P.cellsOf e = 1) (cq : P.cellsOf q = 1)
    (h : DataW.trod enc P W base (fun _ => true) held fuel t (Value.slice a len cap).cells.toList = some (d, pl)) :
    ∃ m : List (List Int), m.length = len ∧ len ≤ cap ∧ len ≤ maxLen ∧ (∀ r ∈ m, r.length ≤ maxLen) ∧ Kd.C (Kd.slice 3 (Kd.int .i64)) W a len m := by
  rcases open_int_rows ht he hq ce cq h with ⟨hcs, _⟩ | ⟨x, l, c, A, L, C, Z, hcs, _, hl, hm, _, hr⟩
  · simp [Value.cells] at hcs
    obtain ⟨rfl, rfl, rfl⟩ := hcs
    exact ⟨[], rfl, Nat.le_refl _, by decide, by simp, rfl, by decide, fun h => absurd h (Nat.lt_irrefl _)⟩
  · simp [Value.cells] at hcs
    obtain ⟨rfl, rfl, rfl⟩ := hcs
    have hrow : ∀ r, r < len → Kd.C (Kd.int .i64) W (A r) (L r) ((Z r).take (L r)) ∧ ((Z r).take (L r)).length = L r ∧ L r ≤ C r ∧ L r ≤ maxLen := fun r h0 => by
      obtain ⟨h1, h2, h3, h4, h5, h6, h7⟩ := hr r (by omega)
      have hlt : ((Z r).take (L r)).length = L r := by rw [List.length_take]; omega
      refine ⟨⟨hlt, by have := h3; unfold maxLen at this; omega, fun hn => ?_⟩, hlt, h2, by omega⟩
      cases hA : A r with
      | none => exact absurd (h6 hA) (by omega)
      | some a' =>
        refine ⟨a', rfl, fun j p hj => ⟨[.int .i64 p], rfl, rfl, fun i u hu => ?_⟩⟩
        have hjl : j < L r := by rw [← hlt]; exact (List.getElem?_eq_some_iff.1 hj).1
        have hc := (h7 a' hA).2 j (by omega)
        have hp : (Z r).getD j 0 = p := by
          rw [List.getElem?_take, if_pos hjl] at hj
          rw [List.getD_eq_getElem?_getD, hj]; rfl
        cases i with
        | zero =>
          simp at hu; subst hu
          rw [hp] at hc
          simpa [Kd.int, Kd.scalar] using hc
        | succ i => simp at hu
    refine ⟨(List.range len).map fun r => (Z r).take (L r), by simp, hl, by omega, fun r h0 => ?_, by simp, by have := hm; unfold maxLen at this; omega, fun hn => ⟨x, rfl, fun j p hj => ?_⟩⟩
    · obtain ⟨i, hi, rfl⟩ := List.mem_map.1 h0
      obtain ⟨_, h2, _, h3⟩ := hrow i (List.mem_range.1 hi)
      omega
    · have hjl : j < len := by
        have := (List.getElem?_eq_some_iff.1 hj).1
        simpa using this
      have hp : (Z j).take (L j) = p := by
        rw [List.getElem?_map, List.getElem?_range hjl] at hj
        simpa using hj
      subst hp
      obtain ⟨h1, h2, h3, h4⟩ := hrow j hjl
      refine ⟨[.slice (A j) (L j) (C j)], rfl, ⟨A j, C j, by rw [h2], by omega, by rw [h2]; exact h1⟩, fun i u hu => ?_⟩
      cases i with
      | zero =>
        simp at hu; subst hu
        have := (hr j (by omega)).1
        simpa [Kd.slice] using this
      | succ i => simp at hu
end Go.Proofs.Ytbhmgbeebhmfkaa.Mat

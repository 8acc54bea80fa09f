import Derived.Test.YtamaejafddmagaaPAx0
import Derived.Deep.Grids
import Derived.Laws.BytesArg
/- A parameter of bools, opened: what a walk wants of it. -/
set_option linter.unusedVariables false
set_option linter.unusedSimpArgs false
namespace Go.Proofs.Ytamaejafddmagaa.Mat
open Go.RowKit Go.Deep Go.Proofs.Ytamaejafddmagaa.PA Go.Proofs.YtamaejafddmagaaW.PrintWords Go.Proofs.YtamaejafddmagaaW.PrintLast Go.Proofs.YtamaejafddmagaaW.PrintMore

theorem bools_open {P : Program} {H : Type} {enc : TypeId × Value → H} {W : World} {held : Bool} {base fuel len cap : Nat} {a : Option Addr} {d : DataW H} {pl : List MemPlace} {t e : TypeId}
    (ht : P.underlying t = some (.slice e)) (he : P.underlying e = some .bool) (ce : P.cellsOf e = 1)
    (h : DataW.trod enc P W base (fun _ => true) held fuel t (Value.slice a len cap).cells.toList = some (d, pl)) :
    ∃ m : List Bool, m.length = len ∧ len ≤ cap ∧ len ≤ maxLen ∧ Kd.C Kd.bool W a len m := by
  rcases open_bools ht he ce h with ⟨hcs, _⟩ | ⟨x, l, c, B, hcs, _, hl, hm, _, hr⟩
  · simp [Value.cells] at hcs
    obtain ⟨rfl, rfl, rfl⟩ := hcs
    exact ⟨[], rfl, Nat.le_refl _, by decide, rfl, by decide, fun h => absurd h (Nat.lt_irrefl _)⟩
  · simp [Value.cells] at hcs
    obtain ⟨rfl, rfl, rfl⟩ := hcs
    refine ⟨(List.range len).map B, by simp, hl, by omega, by simp, by have := hm; unfold maxLen at this; omega, fun hn => ⟨x, rfl, fun j p hj => ?_⟩⟩
    have hjl : j < len := by
      have := (List.getElem?_eq_some_iff.1 hj).1
      simpa using this
    have hp : B j = p := by
      rw [List.getElem?_map, List.getElem?_range hjl] at hj
      simpa using hj
    subst hp
    refine ⟨[.bool (B j)], rfl, rfl, fun i u hu => ?_⟩
    cases i with
    | zero =>
      simp at hu; subst hu
      have := hr j (by omega)
      simpa [Kd.bool, Kd.scalar] using this
    | succ i => simp at hu
end Go.Proofs.Ytamaejafddmagaa.Mat

/- impl_span_less's contract where the span is a variable of the caller's own: its rows and pivots are told at the world that stands. -/
import Derived.Test.YtfgpffocieegdaaPAx0
import Derived.Test.YtfgpffocieegdaaPAx4
import Derived.Test.YtfgpffocieegdaaPAx4d
import Derived.Below
set_option linter.unusedVariables false
namespace Go.Proofs.Ytfgpffocieegdaa.PA
open Go.RowKit Go.Proofs.Ytfgpffocieegdaa.PA Go.Proofs.YtfgpffocieegdaaW.PrintWords Go.Proofs.YtfgpffocieegdaaW.PrintLast Go.Proofs.YtfgpffocieegdaaW.PrintMore

theorem own_open {α : Type} {d : Kd α} {t : TypeId} {W : World} {base : Nat} {ok : Nat → Prop} {v : Value} {xs : List α} (h : Kd.R d t W base ok v xs) : ∃ A c, v = .slice A xs.length c ∧ xs.length ≤ c ∧ Kd.C d W A xs.length xs := by
  obtain ⟨A, c, rfl⟩ := Kd.R_slice h; exact ⟨A, c, rfl, (Kd.R_reads' h).2.1, (Kd.R_reads' h).2.2⟩
theorem impl_span_lessB.calls (k : Nat) {g : Nat} (v0 : Value) (l0 : List S81) (v1 : Value) (l1 : List Int) (a1_0 : Int) (a1_1 : Int) (a1_2 : Int) (a1_3 : Int) (a1_4 : Int) (a1_5 : Int) (a1_6 : Int) (a1_7 : Int) (a1_8 : Int) (a1_9 : Int) (a1_10 : Int) (a1_11 : Int) (r1 : Int) (r2 : Int) (r3 : Int) (r4 : Int) (r5 : Int) (r6 : Int) (r7 : Int) (r8 : Int) (r9 : Int) (r10 : Int) (r11 : Int) (r12 : Int) (w : World) (hb : w.heap[g]? = some (.cells #[v0, v1] 79 (0, 0))) (h0 : ∃ A0 c0, v0 = .slice A0 l0.length c0 ∧ l0.length ≤ c0 ∧ Kd.C k81 w A0 l0.length l0) (h1 : ∃ A1 c1, v1 = .slice A1 l1.length c1 ∧ l1.length ≤ c1 ∧ Kd.C (Kd.int .i64) w A1 l1.length l1) (h : impl_span_less.f k l0 l1 a1_0 a1_1 a1_2 a1_3 a1_4 a1_5 a1_6 a1_7 a1_8 a1_9 a1_10 a1_11 = some (r1, r2, r3, r4, r5, r6, r7, r8, r9, r10, r11, r12)) :
  Calls Try.prog 55 #[.pointer (some ⟨g, 0, none⟩), .agg #[.int .i64 a1_0, .int .i64 a1_1, .int .i64 a1_2, .int .i64 a1_3, .int .i64 a1_4, .int .i64 a1_5, .int .i64 a1_6, .int .i64 a1_7, .int .i64 a1_8, .int .i64 a1_9, .int .i64 a1_10, .int .i64 a1_11]] w fun e w' => e = .returned (.agg #[.int .i64 r1, .int .i64 r2, .int .i64 r3, .int .i64 r4, .int .i64 r5, .int .i64 r6, .int .i64 r7, .int .i64 r8, .int .i64 r9, .int .i64 r10, .int .i64 r11, .int .i64 r12]) ∧ Below w.heap.size w w' := by
 obtain ⟨A0, c0, rfl, hc0, hr0⟩ := h0
 obtain ⟨A1, c1, rfl, hc1, hr1⟩ := h1
 exact (impl_span_less.calls k g l0 l1 a1_0 a1_1 a1_2 a1_3 a1_4 a1_5 a1_6 a1_7 a1_8 a1_9 a1_10 a1_11 r1 r2 r3 r4 r5 r6 r7 r8 r9 r10 r11 r12 w w ⟨A0, c0, A1, c1, hb, trivial, hr0, hr1⟩ (Below.refl _ _) h).mono fun e w' hh => ⟨hh.1, hh.2.2.1⟩
end Go.Proofs.Ytfgpffocieegdaa.PA

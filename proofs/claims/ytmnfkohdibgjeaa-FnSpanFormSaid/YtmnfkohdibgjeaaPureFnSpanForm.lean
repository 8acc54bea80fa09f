import Derived.Test.YtmnfkohdibgjeaaPCx0
import Derived.Test.YtmnfkohdibgjeaaPCx8
import Derived.Test.YtmnfkohdibgjeaaMatEv
import Derived.OpenShut
import Derived.Test.YtmnfkohdibgjeaaPCx8
/- What is left of the law FnSpanForm once its walk is told: a statement over lists of numbers alone, proved; no condition. -/
set_option linter.unusedVariables false
set_option linter.unusedSimpArgs false
namespace Go.Proofs.Ytmnfkohdibgjeaa.Pure
open Go.RowKit Go.Proofs.Ytmnfkohdibgjeaa.PC Go.Proofs.YtmnfkohdibgjeaaW.PrintWords Go.Proofs.YtmnfkohdibgjeaaW.PrintLast Go.Proofs.YtmnfkohdibgjeaaW.PrintMore Go.Proofs.Ytmnfkohdibgjeaa.Lin Go.Proofs.Ytmnfkohdibgjeaa.Sc

theorem u8_all {l : List Int} (h : ∀ x ∈ l, (Lit.int .u8 x).wf = true) : ∀ x ∈ l, 0 ≤ x ∧ x ≤ 255 := fun x hx => bounds_u8 (h x hx)
theorem mok_take {m : List (List Int)} (h : mok m = true) (n : Nat) : mok (m.take n) = true := by
  obtain ⟨h1, h2⟩ := mok_iff.1 h
  exact mok_iff.2 ⟨by rw [List.length_take]; omega, fun r hr => h2 r (List.mem_of_mem_take hr)⟩
theorem mok_drop {m : List (List Int)} (h : mok m = true) (n : Nat) : mok (m.drop n) = true := by
  obtain ⟨h1, h2⟩ := mok_iff.1 h
  exact mok_iff.2 ⟨by rw [List.length_drop]; omega, fun r hr => h2 r (List.mem_of_mem_drop hr)⟩
theorem FnSpanForm : laws_FnSpanForm.Pure := by
  intro l l1 hm hl hw hm1 hl1 hw1
  refine Evp.rounds ?_
  have key1 : ∀ (m : List (List Int)) (c : Bool), Dm m → (c = false → mok m = true) → Evp (fun k => laws_FnSpanForm.j1 k l1 m (mok m) c) (· = true) := fun m c hd hc => by
    have d2 : ∀ r ∈ m, r.length ≤ 1048576 := fun r hr => by have := hd.2 r hr; omega
    have d1 := hd.1
    refine Evp.step (fun k => by rw [laws_FnSpanForm.j1]) ?_
    refine Evp.ite (fun _ => ?_) fun h => ?_
    · refine Evp.bind (spec_SpanOk_ev (by omega) d2) fun t ht => ?_
      subst ht
      exact Evp.some' (by simp)
    · have ho := hc (by simpa using h)
      obtain ⟨h8, hv⟩ := mok_iff.1 ho
      simp only [show wrap64 ((m.length : Int) + 1) = (m.length : Int) + 1 from Go.Proofs.Ytmnfkohdibgjeaa.Sc.wrap_small (by omega)]
      have hi : 0 ≤ (l1.length : Int) % ((m.length : Int) + 1) ∧ (l1.length : Int) % ((m.length : Int) + 1) < (m.length : Int) + 1 := ⟨Int.emod_nonneg _ (by omega), Int.emod_lt_of_pos _ (by omega)⟩
      generalize (l1.length : Int) % ((m.length : Int) + 1) = i at *
      refine Evp.neg (by omega) ?_
      simp only [Option.bind_some, List.nil_append, List.length_nil]
      have ht : (m.take i.toNat).length ≤ m.length := by rw [List.length_take]; omega
      refine Evp.pos hi.1 (Evp.pos (by omega) (Evp.pos (by omega) (Evp.pos (by omega) ?_)))
      refine Evp.bind (impl_SpanOk_ev (by omega)) fun t h1 => ?_
      subst h1
      refine Evp.pos (mok_take ho _) ?_
      refine Evp.bind (impl_SpanOk_ev (by rw [List.length_drop]; omega)) fun t h1 => ?_
      subst h1
      refine Evp.pos (mok_drop ho _) ?_
      refine Evp.bind (impl_SpanOk_ev (by simp only [List.length_append, List.length_cons, List.length_nil]; omega)) fun t h1 => ?_
      subst h1
      have hf : mok (m.take i.toNat ++ [[1, 2, 3]]) = false := by
        rw [Bool.eq_false_iff]
        intro hc2
        have := (mok_iff.1 hc2).2 [1, 2, 3] (by simp)
        exact absurd this (by decide)
      rw [hf]
      exact Evp.neg (by simp) (Evp.some' (by simp; omega))
  have key0 : ∀ c : Bool, Evp (fun k => laws_FnSpanForm.j0 k l l1 c) (· = true) := fun c => by
    refine Evp.step (fun k => by rw [laws_FnSpanForm.j0]) ?_
    refine Evp.ite (fun _ => Evp.some' rfl) fun h => ?_
    refine Evp.bind (drawSpanOk_ev (u8_all hw)) fun m hd => ?_
    have d2 : ∀ r ∈ m, r.length ≤ 1048576 := fun r hr => by have := hd.2 r hr; omega
    have d1 := hd.1
    refine Evp.bind (impl_SpanOk_ev (by omega)) fun t ht => ?_
    subst ht
    refine Evp.bind (spec_SpanOk_ev (by omega) d2) fun t ht => ?_
    subst ht
    refine Evp.ite (fun _ => key1 m true hd (by simp)) fun _ => key1 m _ hd (fun h2 => by simpa using h2)
  unfold laws_FnSpanForm.f
  exact Evp.ite (fun _ => key0 _) fun _ => key0 _
end Go.Proofs.Ytmnfkohdibgjeaa.Pure

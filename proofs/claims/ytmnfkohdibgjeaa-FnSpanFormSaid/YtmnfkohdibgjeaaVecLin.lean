import Derived.Test.YtmnfkohdibgjeaaList
/- Plain mathematics: what the functions over rows answer. -/
set_option linter.unusedVariables false
set_option linter.unusedSimpArgs false
namespace Go.Proofs.Ytmnfkohdibgjeaa.Lin

def ldot (a b : List Int) : Int := (List.zipWith (fun x y => x * y) a b).foldl (fun n x => (n + x) % 31) 0
def vsum (a b : List Int) : List Int := if vok a && vok b then lsum a b else []
def vscale (v : List Int) (c : Int) : List Int := if vok v && ok c then lscale v c else []
def vdot (a b : List Int) : Int := if vok a && vok b then ldot a b else 0
def vlead (v : List Int) : Int := if vok v then llead v else -1
def vunit (at_ : Int) : List Int × Bool := if decide (0 ≤ at_) && decide (at_ ≤ 3) then ([0, 0, 0, 0].set at_.toNat 1, true) else ([], false)
theorem vok_four {l : List Int} (h : vok l = true) : ∃ a b c d, l = [a, b, c, d] ∧ ok a = true ∧ ok b = true ∧ ok c = true ∧ ok d = true := by
  obtain ⟨h4, hc⟩ := vok_iff.1 h
  match l, h4 with
  | [a, b, c, d], _ => exact ⟨a, b, c, d, rfl, hc a (by simp), hc b (by simp), hc c (by simp), hc d (by simp)⟩
theorem vok_mk {a b c d : Int} (ha : ok a = true) (hb : ok b = true) (hc : ok c = true) (hd : ok d = true) : vok [a, b, c, d] = true := by
  unfold vok; simp [ha, hb, hc, hd]
theorem ldot_four (a0 a1 a2 a3 b0 b1 b2 b3 : Int) : ldot [a0, a1, a2, a3] [b0, b1, b2, b3] = (a0 * b0 + a1 * b1 + a2 * b2 + a3 * b3) % 31 := by
  simp only [ldot, List.zipWith_cons_cons, List.zipWith_nil_left, List.foldl_cons, List.foldl_nil]; omega
theorem lsum_four (a0 a1 a2 a3 b0 b1 b2 b3 : Int) : lsum [a0, a1, a2, a3] [b0, b1, b2, b3] = [(a0 + b0) % 31, (a1 + b1) % 31, (a2 + b2) % 31, (a3 + b3) % 31] := rfl
theorem lscale_four (a0 a1 a2 a3 c : Int) : lscale [a0, a1, a2, a3] c = [a0 * c % 31, a1 * c % 31, a2 * c % 31, a3 * c % 31] := rfl
theorem vok_vsum {a b : List Int} (ha : vok a = true) (hb : vok b = true) : vok (vsum a b) = true := by
  unfold vsum; rw [ha, hb]; exact vok_lsum (vok_iff.1 ha).1 (vok_iff.1 hb).1
theorem vok_vscale {a : List Int} (ha : vok a = true) {c : Int} (hc : ok c = true) : vok (vscale a c) = true := by
  unfold vscale; rw [ha, hc]; exact vok_lscale (vok_iff.1 ha).1 c
theorem ldot_range (a b : List Int) : 0 ≤ ldot a b ∧ ldot a b < 31 := by
  unfold ldot
  generalize List.zipWith (fun x y => x * y) a b = l
  have key : ∀ (l : List Int) (n : Int), 0 ≤ n ∧ n < 31 → 0 ≤ l.foldl (fun n x => (n + x) % 31) n ∧ l.foldl (fun n x => (n + x) % 31) n < 31 := by
    intro l
    induction l with
    | nil => intro n h; exact h
    | cons x l ih => intro n h; exact ih ((n + x) % 31) (by omega)
  exact key l 0 (by omega)
/-- the row of a number that the laws draw -/
def lkvec (n : Int) : List Int := [n % 31, n * 3 % 31, (n * n + 1) % 31, (n + 7) % 31]
theorem vok_lkvec (n : Int) : vok (lkvec n) = true := vok_mk (mod_ok _) (mod_ok _) (mod_ok _) (mod_ok _)
theorem vlead_of {v : List Int} (h : vok v = true) : vlead v = llead v := by unfold vlead; rw [if_pos h]
theorem vsum_of {a b : List Int} (ha : vok a = true) (hb : vok b = true) : vsum a b = lsum a b := by unfold vsum; rw [ha, hb]; rfl
theorem vscale_of {v : List Int} (h : vok v = true) {c : Int} (hc : ok c = true) : vscale v c = lscale v c := by unfold vscale; rw [h, hc]; rfl
theorem vdot_of {a b : List Int} (ha : vok a = true) (hb : vok b = true) : vdot a b = ldot a b := by unfold vdot; rw [ha, hb]; rfl
end Go.Proofs.Ytmnfkohdibgjeaa.Lin

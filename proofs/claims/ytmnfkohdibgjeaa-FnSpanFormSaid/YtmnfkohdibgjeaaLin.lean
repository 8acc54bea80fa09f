/- Plain mathematics of the field of 31 elements and of rows over it: no program in sight. -/
set_option linter.unusedVariables false
set_option linter.unusedSimpArgs false
namespace Go.Proofs.Ytmnfkohdibgjeaa.Lin

/-! ### numbers -/
abbrev F := Fin 31
/-- a number modulo 31 -/
def toF (a : Int) : F := ⟨(a % 31).toNat, by omega⟩
theorem toF_val (a : Int) : ((toF a).val : Int) = a % 31 := by unfold toF; simp only; omega
theorem toF_eq {a b : Int} : toF a = toF b ↔ a % 31 = b % 31 := by
  constructor
  · intro h; have := toF_val a; have h2 := toF_val b; rw [h] at this; omega
  · intro h; unfold toF; simp only [h]
theorem toF_mod (a : Int) : toF (a % 31) = toF a := by rw [toF_eq]; omega
theorem toF_zero : toF 0 = 0 := rfl
theorem toF_one : toF 1 = 1 := rfl
theorem toF_add (a b : Int) : toF (a + b) = toF a + toF b := by
  apply Fin.ext
  rw [Fin.val_add]
  have h1 := toF_val a; have h2 := toF_val b; have h3 := toF_val (a + b)
  omega
theorem toF_mul (a b : Int) : toF (a * b) = toF a * toF b := by
  apply Fin.ext
  rw [Fin.val_mul]
  have h1 := toF_val a; have h2 := toF_val b; have h3 := toF_val (a * b)
  have h4 : (((toF a).val * (toF b).val % 31 : Nat) : Int) = (a * b) % 31 := by
    rw [Int.natCast_emod, Int.natCast_mul, h1, h2]
    rw [show ((31 : Nat) : Int) = 31 from rfl, ← Int.mul_emod]
  omega
theorem toF_inj {a b : Int} (ha : 0 ≤ a ∧ a < 31) (hb : 0 ≤ b ∧ b < 31) (h : toF a = toF b) : a = b := by
  rw [toF_eq] at h; omega
theorem toF_ne_zero {a : Int} (ha : 0 ≤ a ∧ a < 31) : toF a = 0 ↔ a = 0 := by
  rw [← toF_zero, toF_eq]; omega
theorem toF_neg1 : toF 30 = -1 := rfl

/-- is it a number of the field? -/
def ok (a : Int) : Bool := decide (0 ≤ a) && decide (a < 31)
theorem ok_iff {a : Int} : ok a = true ↔ 0 ≤ a ∧ a < 31 := by simp [ok]
theorem ok_false {a : Int} : ok a = false ↔ ¬ (0 ≤ a ∧ a < 31) := by
  rw [← ok_iff]; simp
/-- the inverse, by a table -/
def inv (a : Int) : Int := [0, 1, 16, 21, 8, 25, 26, 9, 4, 7, 28, 17, 13, 12, 20, 29, 2, 11, 19, 18, 14, 3, 24, 27, 22, 5, 6, 23, 10, 15, 30].getD a.toNat 0
theorem inv_all : ∀ a : Fin 31, a ≠ 0 → (a.val : Int) * inv (a.val : Int) % 31 = 1 ∧ 0 < inv (a.val : Int) ∧ inv (a.val : Int) < 31 ∧ inv (inv (a.val : Int)) = a.val := by decide
theorem inv_ok {a : Int} (h : ok a = true) (h0 : a ≠ 0) : a * inv a % 31 = 1 ∧ 0 < inv a ∧ inv a < 31 ∧ inv (inv a) = a := by
  rw [ok_iff] at h
  have := inv_all ⟨a.toNat, by omega⟩ (by intro e; have := congrArg Fin.val e; simp at this; omega)
  have e : ((a.toNat : Nat) : Int) = a := by omega
  simp only [e] at this
  exact this
theorem inv_toF {a : Int} (h : ok a = true) (h0 : a ≠ 0) : toF a * toF (inv a) = 1 := by
  rw [← toF_mul, ← toF_one, toF_eq, (inv_ok h h0).1]; rfl
theorem inv_zero : inv 0 = 0 := rfl
theorem inv_range (a : Int) : 0 ≤ inv a ∧ inv a < 31 := by
  by_cases h : ok a = true
  · by_cases h0 : a = 0
    · subst h0; decide
    · have := inv_ok h h0; omega
  · by_cases hn : a < 0
    · have : a.toNat = 0 := by omega
      unfold inv; rw [this]; decide
    · have : 31 ≤ a.toNat := by rw [ok_iff] at h; omega
      unfold inv
      rw [List.getD_eq_getElem?_getD, List.getElem?_eq_none (by simpa using this)]
      decide
def finv (c : F) : F := toF (inv c.val)
theorem finv_mul : ∀ c : F, c ≠ 0 → c * finv c = 1 := by decide
theorem finv_toF {a : Int} (h : ok a = true) : finv (toF a) = toF (inv a) := by
  unfold finv
  rw [toF_val]; rw [ok_iff] at h
  rw [show a % 31 = a by omega]

def fsum (a b : Int) : Int := if ok a && ok b then (a + b) % 31 else 0
def fdif (a b : Int) : Int := if ok a && ok b then (a - b) % 31 else 0
def fmul (a b : Int) : Int := if ok a && ok b then a * b % 31 else 0
theorem fsum_ok {a b : Int} (ha : ok a = true) (hb : ok b = true) : fsum a b = (a + b) % 31 := by simp [fsum, ha, hb]
theorem fdif_ok {a b : Int} (ha : ok a = true) (hb : ok b = true) : fdif a b = (a - b) % 31 := by simp [fdif, ha, hb]
theorem fmul_ok {a b : Int} (ha : ok a = true) (hb : ok b = true) : fmul a b = a * b % 31 := by simp [fmul, ha, hb]
theorem mod_ok (a : Int) : ok (a % 31) = true := by rw [ok_iff]; omega
theorem fsum_range (a b : Int) : ok (fsum a b) = true := by unfold fsum; split; exact mod_ok _; decide
theorem fmul_range (a b : Int) : ok (fmul a b) = true := by unfold fmul; split; exact mod_ok _; decide
theorem fdif_range (a b : Int) : ok (fdif a b) = true := by unfold fdif; split; exact mod_ok _; decide
theorem fmul_zero_iff {a b : Int} (ha : ok a = true) (hb : ok b = true) : a * b % 31 = 0 ↔ a = 0 ∨ b = 0 := by
  have key : ∀ x y : F, x * y = 0 ↔ x = 0 ∨ y = 0 := by decide
  have h1 : a * b % 31 = 0 ↔ toF (a * b) = 0 := by rw [← toF_zero, toF_eq]; omega
  rw [h1, toF_mul, key, toF_ne_zero (ok_iff.1 ha), toF_ne_zero (ok_iff.1 hb)]
theorem mod_eq_of_toF {a b : Int} (h : toF a = toF b) : a % 31 = b % 31 := toF_eq.1 h
theorem mul_assoc_mod (a b c : Int) : (a * b % 31) * c % 31 = a * (b * c % 31) % 31 := by
  apply mod_eq_of_toF; simp only [toF_mul, toF_mod]; grind
theorem mul_comm_mod (a b : Int) : a * b % 31 = b * a % 31 := by rw [Int.mul_comm]
theorem mul_add_mod (a b c : Int) : a * ((b + c) % 31) % 31 = (a * b % 31 + a * c % 31) % 31 := by
  apply mod_eq_of_toF; simp only [toF_mul, toF_mod, toF_add]; grind
end Go.Proofs.Ytmnfkohdibgjeaa.Lin

import Derived.Test.YtamaejafddmagaaGw
import Derived.Shelf.SlSortCmp.SmallK
import Derived.Shelf.Small.Bits
import Derived.Shelf.SlSortCmp.QuietGrown
import Derived.Shelf.Lay
import Derived.Ground.SlsfProg
import Derived.Ground.NamesProg
import Derived.Sort.OwnSorted
/- slices.SortFunc at rows of four numbers, told by their beginnings: its contract (rows of at most twelve). -/
set_option linter.unusedVariables false
set_option linter.unusedSimpArgs false
namespace Go.Proofs.Ytamaejafddmagaa.So
open Go.Shelf Go.RowKit Go.Lib Go.Sort Go.Proofs.Ytamaejafddmagaa.PA Go.Proofs.YtamaejafddmagaaW.PrintWords
shelf_lay_g SlLaysF0.n14 Slsf 14 at Try 120 as sortV
shelf_lay Lays.n125 Nm 125 at Try as bitsLen

/-- a row's four cells -/
def enc4 (x : S70) : List Value := [.int .i64 x.f0, .int .i64 x.f1, .int .i64 x.f2, .int .i64 x.f3]
def ldv (x : S70) : Int := Lin.llead [x.f0, x.f1, x.f2, x.f3]
def cfv (x y : S70) : Int := ldv x - ldv y
instance : Inhabited S70 := ⟨⟨0, 0, 0, 0⟩⟩
theorem ldv_range (x : S70) : -1 ≤ ldv x ∧ ldv x ≤ 3 := by
  unfold ldv
  rcases Lin.llead_cases [x.f0, x.f1, x.f2, x.f3] with ⟨h, _⟩ | ⟨p, h1, h2, _⟩
  · rw [h]; decide
  · rw [h2]; simp at h1; omega
theorem g_leadW (x : S70) (w : World) : Calls Try.prog 60 #[.agg #[.int .i64 x.f0, .int .i64 x.f1, .int .i64 x.f2, .int .i64 x.f3]] w fun e w' => e = .returned (.int .i64 (ldv x)) ∧ ∃ q os', w' = grow (w.drewN q) os' := by
  unfold ldv
  generalize hz : Lin.llead [x.f0, x.f1, x.f2, x.f3] = z
  have HZ := Aside0.mk hz
  clear hz
  go_enter Try.func60, Try.ntmps60
  go_wp2_with (go_at_call 99; refine (g_IndexLead _ x.f0 x.f1 x.f2 x.f3 _ (by simp) (by simp) (by simp) (by simp)).mono ?_; rintro e w' ⟨rfl, rfl⟩; rw [HZ.out])
  go_ret
  exact ⟨rfl, 0, _, (alloc_eq_grow _ _).trans (by cases w; rfl)⟩
set_option maxHeartbeats 1000000 in
set_option maxRecDepth 100000 in
theorem g_tidy1 (x y : S70) (w : World) : Calls Try.prog 95 #[.agg #[.int .i64 x.f0, .int .i64 x.f1, .int .i64 x.f2, .int .i64 x.f3], .agg #[.int .i64 y.f0, .int .i64 y.f1, .int .i64 y.f2, .int .i64 y.f3]] w fun e w' => e = .returned (.int .i64 (cfv x y)) ∧ ∃ q os', w' = grow (w.drewN q) os' := by
  have h1 := ldv_range x
  have h2 := ldv_range y
  unfold cfv
  have c1 := fun W => g_leadW x W
  have c2 := fun W => g_leadW y W
  generalize ldv x = a at h1 c1 ⊢
  generalize ldv y = b at h2 c2 ⊢
  go_enter Try.func95, Try.ntmps95
  go_wp2_with fail
  generalize hW : World.alloc _ _ = W
  have hg : W = grow w #[.cells #[.int .i64 x.f0, .int .i64 x.f1, .int .i64 x.f2, .int .i64 x.f3] 70, .cells #[.int .i64 y.f0, .int .i64 y.f1, .int .i64 y.f2, .int .i64 y.f3] 70] := by
    rw [← hW, alloc_eq_grow, alloc_eq_grow, grow_grow]; rfl
  have gx : ∀ (j : Nat) (v : Value), ([.int .i64 x.f0, .int .i64 x.f1, .int .i64 x.f2, .int .i64 x.f3] : List Value)[j]? = some v → ∀ n os, (grow (W.drewN n) os).cell? ⟨w.heap.size, j, none⟩ = some v := by
    intro j v hv n os
    subst hg
    simp only [World.cell?, grow, World.drewN]
    rw [Array.getElem?_append_left (by simp), Array.getElem?_append_right (Nat.le_refl _)]
    simpa using hv
  have gy : ∀ (j : Nat) (v : Value), ([.int .i64 y.f0, .int .i64 y.f1, .int .i64 y.f2, .int .i64 y.f3] : List Value)[j]? = some v → ∀ n os, (grow (W.drewN n) os).cell? ⟨w.heap.size + 1, j, none⟩ = some v := by
    intro j v hv n os
    subst hg
    simp only [World.cell?, grow, World.drewN]
    rw [Array.getElem?_append_left (by simp), Array.getElem?_append_right (by omega)]
    simpa using hv
  have x0 := gx 0 _ rfl
  have x1 := gx 1 _ rfl
  have x2 := gx 2 _ rfl
  have x3 := gx 3 _ rfl
  have y0 := gy 0 _ rfl
  have y1 := gy 1 _ rfl
  have y2 := gy 2 _ rfl
  have y3 := gy 3 _ rfl
  clear gx gy hW
  have HG := Aside0.mk hg
  have mixed : Try.prog.follows .mixedOrders = true := by kernel_rfl
  clear hg
  go_quiet_grown (first | (go_at_call 60; refine Calls.grown_of (c1 _)) | (go_at_call 60; refine Calls.grown_of (c2 _)))
  go_wp2_with fail
  go_ret
  refine ⟨?_, nq, #[.cells #[.int .i64 x.f0, .int .i64 x.f1, .int .i64 x.f2, .int .i64 x.f3] 70, .cells #[.int .i64 y.f0, .int .i64 y.f1, .int .i64 y.f2, .int .i64 y.f3] 70] ++ osq, ?_⟩
  · have e : IntKind.i64.wrap (a - b) = a - b := (IntKind.wrap_i64 (a - b)).trans (by omega)
    refine Eq.trans (b := Ending.returned (Value.int .i64 (IntKind.i64.wrap (a - b)))) rfl ?_
    rw [e]
  · rw [HG.out, ← grow_grow]; rfl
theorem cmpV (blk off size : Nat) (w : World) : CmpLays Try.prog 95 #[] enc4 4 cfv blk off size w := fun m os dk _ x y => g_tidy1 x y _

/-! ### the row, flat -/
theorem fl_get (xs : List S70) : ∀ t, (xs.flatMap enc4)[t]? = (xs[t / 4]?).bind fun x => (enc4 x)[t % 4]? := by
  induction xs with
  | nil => intro t; simp
  | cons x xs ih =>
    intro t
    rw [List.flatMap_cons]
    rcases Nat.lt_or_ge t 4 with h | h
    · rw [List.getElem?_append_left (by simpa [enc4] using h), Nat.div_eq_of_lt h, Nat.mod_eq_of_lt h]; rfl
    · rw [List.getElem?_append_right (by simpa [enc4] using h), show t - (enc4 x).length = t - 4 from rfl, ih (t - 4)]
      obtain ⟨u, rfl⟩ : ∃ u, t = u + 4 := ⟨t - 4, by omega⟩
      rw [Nat.add_sub_cancel, Nat.add_div_right u (by decide), Nat.add_mod_right, List.getElem?_cons_succ]
theorem fl_len (xs : List S70) : (xs.flatMap enc4).length = xs.length * 4 := by
  induction xs with
  | nil => rfl
  | cons x xs ih => rw [List.flatMap_cons, List.length_append, ih, List.length_cons]; simp [enc4]; omega
theorem flat_eq (xs : List S70) : flatK enc4 4 xs.toArray = (xs.flatMap enc4).toArray := by
  refine ext_get! (by rw [size_flatK, List.size_toArray, List.size_toArray, fl_len]) fun t ht => ?_
  have h2 : t < xs.length * 4 := by rw [size_flatK] at ht; simpa using ht
  have h3 : t / 4 < xs.length := by omega
  rw [get_flatK _ _ _ _ (by simpa using h2)]
  have e := fl_get xs t
  rw [List.getElem?_eq_getElem h3, Option.bind_some] at e
  have e2 : (xs.flatMap enc4).toArray[t]! = ((xs.flatMap enc4)[t]?).getD default := by
    rw [getElem!_def]; simp only [List.getElem?_toArray]; cases (xs.flatMap enc4)[t]? <;> rfl
  have e3 : xs.toArray[t / 4]! = xs[t / 4] := by rw [getElem!_pos _ _ (by simpa using h3)]; simp
  rw [e2, e, e3, getElem!_def]
  cases (enc4 xs[t / 4])[t % 4]? <;> rfl
theorem openV {w : World} {base : Nat} {ok : Nat → Prop} {x : S70} {cs : List Value} (h : k70.M w base ok x cs) : cs = enc4 x := by
  obtain ⟨_, _, rfl, rfl, _, _, rfl, rfl, _, _, rfl, rfl, rfl⟩ := h
  rfl
theorem reps_fl {w : World} {base : Nat} {ok : Nat → Prop} : ∀ {xs : List S70} {inner : List Value}, Reps (k70.M w base ok) 4 xs inner → inner = xs.flatMap enc4 := by
  intro xs
  induction xs with
  | nil => rintro inner ⟨h, _⟩; exact List.eq_nil_of_length_eq_zero (by simpa using h)
  | cons x xs ih =>
    intro inner h
    have h0 := openV (h.2 0 x rfl)
    have h1 := ih (inner := inner.drop 4) ⟨by rw [List.length_drop, h.1]; simp; omega, fun j p hp => by
      have := h.2 (j + 1) p (by simpa using hp)
      rwa [List.drop_drop, show 4 + j * 4 = (j + 1) * 4 by omega]⟩
    rw [List.flatMap_cons, ← h1]
    have h2 : inner.take 4 = enc4 x := by simpa using h0
    rw [← h2, List.take_append_drop]
theorem fl_reps (w : World) (base : Nat) (ok : Nat → Prop) (xs : List S70) : Reps (k70.M w base ok) 4 xs (xs.flatMap enc4) := by
  refine ⟨fl_len xs, fun j p hp => ?_⟩
  have e : ((xs.flatMap enc4).drop (j * 4)).take 4 = enc4 p := by
    refine List.ext_getElem? fun t => ?_
    rcases Nat.lt_or_ge t 4 with h | h
    · rw [List.getElem?_take_of_lt h, List.getElem?_drop, fl_get, show (j * 4 + t) / 4 = j by omega, show (j * 4 + t) % 4 = t by omega, hp]; rfl
    · rw [List.getElem?_take_eq_none h, List.getElem?_eq_none (by simpa [enc4] using h)]
  rw [e]
  exact ⟨[.int .i64 p.f0], [.int .i64 p.f1, .int .i64 p.f2, .int .i64 p.f3], rfl, rfl, ⟨[.int .i64 p.f1], [.int .i64 p.f2, .int .i64 p.f3], rfl, rfl, ⟨[.int .i64 p.f2], [.int .i64 p.f3], rfl, rfl, rfl⟩⟩⟩
/-- the sorted row -/
def vsort (xs : List S70) : List S70 := (Sort.insertionSort (ltOf cfv) xs.toArray 0 xs.length).toList
theorem ltV (x y : S70) : ltOf cfv x y = decide (ldv x < ldv y) := by
  unfold ltOf cfv
  rw [decide_eq_decide]; omega
theorem cfv_swo : SWO (ltOf cfv) where
  irrefl x := by rw [ltV]; simp
  trans x y z h1 h2 := by rw [ltV] at *; simp at *; omega
  ntrans x y z h1 h2 := by rw [ltV] at *; simp at *; omega
theorem vsort_spec (xs : List S70) : (vsort xs).Perm xs ∧ (vsort xs).Pairwise (fun x y => ldv x ≤ ldv y) := by
  obtain ⟨⟨h1, h2, h3⟩, h4⟩ := insertionSort_holds (lt := ltOf cfv) cfv_swo xs.toArray 0 xs.length (Nat.zero_le _) (by simp)
  have hl : (vsort xs).length = xs.length := by
    show (Sort.insertionSort (ltOf cfv) xs.toArray 0 xs.length).toList.length = _
    rw [Array.length_toList, h1, List.size_toArray]
  constructor
  · have e1 : ((Sort.insertionSort (ltOf cfv) xs.toArray 0 xs.length).extract 0 xs.length).toList = vsort xs := by
      rw [Array.toList_extract]
      show List.extract (vsort xs) 0 xs.length = _
      rw [← hl]; simp
    have e2 : (xs.toArray.extract 0 xs.length).toList = xs := by rw [Array.toList_extract]; simp
    rw [e1, e2] at h3
    exact h3
  · refine List.pairwise_iff_getElem.2 fun i j hi hj hij => ?_
    have h5 := h4 i j (Nat.zero_le _) hij (by omega)
    rw [ltV] at h5
    have g : ∀ k (hk : k < (vsort xs).length), (Sort.insertionSort (ltOf cfv) xs.toArray 0 xs.length)[k]! = (vsort xs)[k] := fun k hk => by
      rw [getElem!_pos _ _ (by simpa [vsort] using hk)]; rfl
    rw [g i hi, g j hj] at h5
    simp at h5
    exact h5
theorem vsort_len (xs : List S70) : (vsort xs).length = xs.length := (vsort_spec xs).1.length_eq
set_option maxHeartbeats 1000000 in
theorem g_SortFunc (blk cap : Nat) (xs : List S70) (w : World) (hH : HoldsK enc4 4 w blk 0 xs.toArray) (hblk : blk < w.heap.size) (h12 : xs.length ≤ 12) :
    Calls Try.prog 94 #[.slice (some ⟨blk, 0, none⟩) xs.length cap, .func (.func 95) #[] #[]] w fun e w' => e = .returned (.tuple #[]) ∧ ∃ n os, w' = sortWorldK enc4 4 w blk 0 n (vsort xs).toArray os := by
  have eg : ∀ args w, (callFunc 95 args).run Try.prog w = .ok (.enter 95 args) w := enters_of Try.func95 (by kernel_rfl) rfl
  have hp := fun lim => AnyQ.pdqsortCmpFunc_small sortV 4 Try.isAgg70 Try.sizeOf70 enc4 (fun _ => rfl) (fun x v hv => by simp [enc4] at hv; rcases hv with rfl | rfl | rfl | rfl <;> rfl) cfv 95 #[] blk 0 cap 0 xs.length lim xs.toArray w eg (cmpV blk 0 _ w) hH hblk (Nat.zero_le _) (by simp) (by simp; omega) (by omega)
  have hl := Any.bits_Len bitsLen (xs.length : Int) w (by omega) (by omega)
  rw [List.size_toArray] at hp
  change ∀ lim, Calls Try.prog 120 _ _ _ at hp
  change Calls Try.prog 121 _ _ _ at hl
  clear hH
  have hu : (xs.length : Int) % 18446744073709551616 = xs.length := by omega
  go_enter Try.func94, Try.ntmps94
  go_wp2_with (first | (go_at_call 121; refine hl.mono ?_; rintro e w' ⟨rfl, rfl⟩) | (go_at_call 120; refine (hp _).mono ?_; rintro e w' ⟨rfl, n, os, rfl⟩))
  go_end0
  exact ⟨rfl, n, os, by simp [vsort]⟩
set_option maxHeartbeats 1000000 in
theorem g_InsNil (w : World) : Calls Try.prog 130 #[.slice none 0 0, .int .i64 0, .int .i64 0, .func (.func 95) #[] #[]] w fun e w' => e = .returned (.tuple #[]) ∧ w = w' := by
  go_enter Try.func130, Try.ntmps130
  go_wp2_with fail
  refine wp_loop_rounds 1 ?_
  rw [rounds_succ]
  go_wp2_with fail
  go_end0
  exact ⟨rfl, rfl⟩
set_option maxHeartbeats 1000000 in
theorem g_PdqNil (lim : Int) (w : World) : Calls Try.prog 120 #[.slice none 0 0, .int .i64 0, .int .i64 0, .int .i64 lim, .func (.func 95) #[] #[]] w fun e w' => e = .returned (.tuple #[]) ∧ w = w' := by
  go_enter Try.func120, Try.ntmps120
  go_wp2
  refine wp_loop_rounds 1 ?_
  rw [rounds_succ]
  go_wp2_with (go_at_call 130; refine (g_InsNil _).mono ?_; rintro e w' ⟨rfl, rfl⟩)
  (try simp only [Exit.inBlock, Exit.then]); refine bodyPost_ret (results_none rfl _ _ _) rfl ?_
  exact ⟨rfl, rfl⟩
theorem g_SortNil (w : World) : Calls Try.prog 94 #[.slice none 0 0, .func (.func 95) #[] #[]] w fun e w' => e = .returned (.tuple #[]) ∧ w = w' := by
  have hl := Any.bits_Len bitsLen 0 w (by omega) (by omega)
  change Calls Try.prog 121 _ _ _ at hl
  go_enter Try.func94, Try.ntmps94
  go_wp2_with (first | (go_at_call 121; refine hl.mono ?_; rintro e w' ⟨rfl, rfl⟩) | (go_at_call 120; refine (g_PdqNil _ _).mono ?_; rintro e w' ⟨rfl, rfl⟩))
  go_end0
  exact ⟨rfl, rfl⟩
def srt (xs : List S70) : Option (List S70) := if xs.length ≤ 12 then some (vsort xs) else none
theorem srt_some {xs r : List S70} (h : srt xs = some r) : xs.length ≤ 12 ∧ vsort xs = r := by
  unfold srt at h
  split at h
  · exact ⟨by assumption, Option.some.inj h⟩
  · cases h
/-! ### the row as the caller owns it -/
theorem heap_sortV {w : World} {g n : Nat} {os : Array Obj} {cur : Array Value} {e : TypeId} {fr : Nat × Nat} (d : Array S70) (hb : w.heap[g]? = some (.cells cur e fr)) :
    (sortWorldK enc4 4 w g 0 n d os).heap[g]? = some (.cells (putCells id 0 (flatK enc4 4 d) cur) e fr) := by
  have hg : g < w.heap.size := (Array.getElem?_eq_some_iff.1 hb).1
  unfold sortWorldK putRowK
  rw [heap_grow_old _ _ (by simpa using hg)]
  simp [putRow, mapBlock, Sort.ahead, Array.getElem?_modify, hb, onCells]
theorem other_sortV {w : World} {g n : Nat} {os : Array Obj} (d : Array S70) (k : Nat) (hk : k < w.heap.size) (hne : k ≠ g) : (sortWorldK enc4 4 w g 0 n d os).heap[k]? = w.heap[k]? := by
  unfold sortWorldK putRowK
  rw [heap_grow_old _ _ (by simpa using hk)]
  simp [putRow, mapBlock, Sort.ahead, Array.getElem?_modify, hne.symm]
theorem take_putV (cur : Array Value) (F : List Value) (h : F.length ≤ cur.size) : (putCells id 0 F.toArray cur).toList.take F.length = F := by
  apply List.ext_getElem?
  intro j
  by_cases hj : j < F.length
  · rw [List.getElem?_take_of_lt hj, Array.getElem?_toList]
    simp [putCells, hj, show j < cur.size by omega]
  · rw [List.getElem?_take_eq_none (by omega), List.getElem?_eq_none (by omega)]
/-- slices.SortFunc over a row of the caller's own -/
theorem SortFuncR (base : Nat) (ok : Nat → Prop) (A : Option Addr) (cap : Nat) (xs : List S70) (w : World) (h12 : xs.length ≤ 12) (hr : Kd.R k70 70 w base ok (.slice A xs.length cap) xs) :
    Calls Try.prog 94 #[.slice A xs.length cap, .func (.func 95) #[] #[]] w fun e w' => e = .returned (.tuple #[]) ∧ Kd.R k70 70 w' base ok (.slice A xs.length cap) (vsort xs) ∧ ∀ b, b ≤ base → Below b w w' := by
  obtain ⟨h0, inner, ⟨hl, ho⟩, hR⟩ := hr
  rcases ho with ⟨hv, hn⟩ | ⟨g, c, cur, hv, hg, hb, h1, h2, h3, h4⟩
  · have hx : xs = [] := List.eq_nil_of_length_eq_zero hn
    subst hx
    simp only [Value.slice.injEq] at hv
    obtain ⟨rfl, -, rfl⟩ := hv
    refine (g_SortNil w).mono ?_
    rintro e w' ⟨rfl, rfl⟩
    rw [List.eq_nil_of_length_eq_zero (vsort_len [])]
    exact ⟨rfl, Kd.R_nil _ _ _ _ _, fun b _ => Below.refl _ _⟩
  · simp only [Value.slice.injEq] at hv
    obtain ⟨rfl, -, rfl⟩ := hv
    have hin := reps_fl hR
    subst hin
    have hH : HoldsK enc4 4 w g 0 xs.toArray := by
      unfold HoldsK
      rw [flat_eq]
      intro j hj
      have hj' : j < xs.length * 4 := by rw [List.size_toArray, fl_len] at hj; exact hj
      refine ⟨?_, by simp [World.frozen?, hb]⟩
      have e1 : (cur.toList.take (xs.length * 4))[j]? = (xs.flatMap enc4)[j]? := by rw [show xs.length * 4 = xs.length * (k70).sz from rfl, h4]
      rw [List.getElem?_take_of_lt hj'] at e1
      simp only [World.cell?, hb, Nat.zero_add]
      simp only [Option.isSome_none, Bool.false_eq_true, if_false]
      rw [← Array.getElem?_toList, e1, getElem!_pos (xs.flatMap enc4).toArray j hj]
      simp
    refine (g_SortFunc g cap xs w hH (Array.getElem?_eq_some_iff.1 hb).1 h12).mono ?_
    rintro e w' ⟨rfl, n, os, rfl⟩
    have hf : flatK enc4 4 (vsort xs).toArray = ((vsort xs).flatMap enc4).toArray := flat_eq _
    refine ⟨rfl, ⟨h0, (vsort xs).flatMap enc4, ⟨by rw [fl_len]; rfl, .inr ⟨g, cap, _, by rw [vsort_len], hg, heap_sortV _ hb, by rw [vsort_len]; exact h1, h2, ?_, ?_⟩⟩, fl_reps _ _ _ _⟩, fun b hbb => ⟨rfl, rfl, rfl, ?_, fun k hk => ?_⟩⟩
    · rw [hf]; simp [putCells, h3]
    · rw [hf]
      have := take_putV cur ((vsort xs).flatMap enc4) (by rw [fl_len, vsort_len, h3]; exact Nat.mul_le_mul_right 4 h1)
      rw [fl_len] at this
      exact this
    · unfold sortWorldK putRowK; simp
    · have hgs := (Array.getElem?_eq_some_iff.1 hb).1
      exact other_sortV _ k (by omega) (by omega)
end Go.Proofs.Ytamaejafddmagaa.So

import Derived.Test.YtfgpffocieegdaaGw
import Derived.Test.YtfgpffocieegdaaGm
import Derived.Laws.EntriesVeiled
import Derived.Test.YtfgpffocieegdaaPAx0
/- impl.chosen: its contract, for whatever test it is handed: the sets of so many numbers of a row are tried, the first ones first; by hand. -/
set_option linter.unusedVariables false
set_option linter.unusedSimpArgs false
namespace Go.Proofs.Ytfgpffocieegdaa.PA
open Go.RowKit Go.Proofs.YtfgpffocieegdaaW.PrintWords Go.Proofs.YtfgpffocieegdaaW.PrintLast Go.Proofs.YtfgpffocieegdaaW.PrintMore

theorem zshq {α : Type} {l : List α} {i : Nat} {a : α} : l.toArray.setIfInBounds i a = (l.set i a).toArray := List.setIfInBounds_toArray _ _ _
theorem zchq {α : Type} {x : α} {xs : List α} {a : α} : (x :: xs).set 0 a = a :: xs := List.set_cons_zero
theorem zdhq {α : Type} {x : α} {xs : List α} {n : Nat} {a : α} : (x :: xs).set (n + 1) a = x :: xs.set n a := List.set_cons_succ
/-- the first set of so many more of a row that a test takes; what is there already stands ahead -/
def comb (p : List Int → Bool) : List Int → Nat → List Int → Option (List Int)
  | _, 0, xs => if p xs = true then some xs else none
  | [], _ + 1, _ => none
  | y :: ys, r + 1, xs => (comb p ys r (xs ++ [y])).orElse fun _ => comb p ys (r + 1) xs
theorem comb_zero (p : List Int → Bool) (ys xs : List Int) : comb p ys 0 xs = if p xs = true then some xs else none := by cases ys <;> rfl
theorem comb_nil (p : List Int → Bool) (r : Nat) (xs : List Int) : comb p [] (r + 1) xs = none := rfl
theorem comb_cons (p : List Int → Bool) (y : Int) (ys : List Int) (r : Nat) (xs : List Int) : comb p (y :: ys) (r + 1) xs = (comb p ys r (xs ++ [y])).orElse fun _ => comb p ys (r + 1) xs := rfl
theorem grown_low {w0 W W' : World} {row : Option Nat} (h : w0.grownBy W row) (hb : Below w0.heap.size W W') : w0.grownBy W' row :=
  ⟨hb.os.trans h.os, hb.tape.trans h.tape, hb.output.trans h.output, Nat.le_trans h.size hb.size, fun i hi hr => (hb.block i hi).trans (h.block i hi hr)⟩
theorem grown_then {w0 W W' : World} {row : Option Nat} (h : w0.grownBy W row) (hb : W.grownBy W' row) : w0.grownBy W' row :=
  ⟨hb.os.trans h.os, hb.tape.trans h.tape, hb.output.trans h.output, Nat.le_trans h.size hb.size, fun i hi hr => (hb.block i (Nat.lt_of_lt_of_le hi h.size) hr).trans (h.block i hi hr)⟩
/-- what chosen's own variables hold: the set so far is xs -/
def ChI (w0 : World) (row : Option Nat) (sh : List Int) (many : Nat) (A : Option Addr) (c bx bm bc bs bf : Nat) (cv : Value) (xs : List Int) (w : World) : Prop :=
  w0.grownBy w row ∧ (∃ v, w.heap[bx]? = some (.cells #[v] 28 (0, 0)) ∧ Kd.R (Kd.int .i64) 3 w w0.heap.size (fun k => w0.heap.size ≤ k ∧ k ≠ bm) v xs) ∧ w.heap[bm]? = some (.cells #[.int .i64 (many : Int)] 3 (0, 0)) ∧ w.heap[bc]? = some (.cells #[cv] 61 (0, 0)) ∧ w.heap[bs]? = some (.cells #[.slice A sh.length c] 28 (0, 0)) ∧ w.heap[bf]? = some (.cells #[.func (.func 48) #[] #[.pointer (some ⟨bx, 0, none⟩), .pointer (some ⟨bm, 0, none⟩), .pointer (some ⟨bc, 0, none⟩), .pointer (some ⟨bs, 0, none⟩), .pointer (some ⟨bf, 0, none⟩)]] 40 (0, 0))
def ChPost (w0 : World) (row : Option Nat) (I Q : World → Prop) (F : List Int → World → Prop) (r : Option (List Int)) (e : Ending) (w' : World) : Prop :=
  match r with
  | none => e = .returned (.bool false) ∧ I w' ∧ Q w'
  | some ys => e = .returned (.bool true) ∧ w0.grownBy w' row ∧ F ys w'
theorem ch_push {w0 W w1 : World} {row : Option Nat} {sh : List Int} {many : Nat} {A : Option Addr} {c bx bm bc bs bf : Nat} {cv v v1 : Value} {xs : List Int} {y : Int} (hbx : w0.heap.size ≤ bx) (hne : bx ≠ bs) (hbm : bx ≠ bm) (hI : ChI w0 row sh many A c bx bm bc bs bf cv xs W) (hxb : W.heap[bx]? = some (.cells #[v] 28 (0, 0))) (hR : Kd.R (Kd.int .i64) 3 W w0.heap.size (fun k => w0.heap.size ≤ k ∧ k ≠ bm) v xs)
    (ho : Kd.R (Kd.int .i64) 3 w1 w0.heap.size (fun k => w0.heap.size ≤ k ∧ k ≠ bm) v1 (xs ++ [y])) (hb : Below w0.heap.size W w1) (hg : W.grownBy w1 v.ownBlock) : w1.heap[bx]? = some (.cells #[v] 28 (0, 0)) ∧ w1.heap[bs]? = some (.cells #[.slice A sh.length c] 28 (0, 0)) ∧ w0.grownBy w1 row ∧ ChI w0 row sh many A c bx bm bc bs bf cv (xs ++ [y]) (w1.setCell ⟨bx, 0, none⟩ v1) := by
  obtain ⟨hgr, _, hmb, hcb, hsb, hfb⟩ := hI
  have hx1 := blk_grown hxb hg (Kd.R_ne hR hxb (by decide))
  have hs1 := blk_grown hsb hg (Kd.R_ne hR hsb (by decide))
  have hm1 := blk_grown hmb hg (Kd.R_away hR (fun _ hk => hk.2))
  have hc1 := blk_grown hcb hg (Kd.R_ne hR hcb (by decide))
  have hf1 := blk_grown hfb hg (Kd.R_ne hR hfb (by decide))
  have hg1 := grown_low hgr hb
  refine ⟨hx1, hs1, hg1, grown_low hg1 ((Below.refl _ _).setCell hbx _), ⟨v1, one_setCell hx1, Kd.R_mono (Kd.R_far (p := ⟨bx, 0, none⟩) (Kd.R_types ho hx1 (by decide)) (fun _ hk => hk.2) v1) (fun _ hk => hk.1)⟩, blk_far hm1 (fun h => hbm h.symm) _, blk_far hc1 (blk_ne hc1 hx1 (by decide)) _, blk_far hs1 (fun h => hne h.symm) _, blk_far hf1 (blk_ne hf1 hx1 (by decide)) _⟩
theorem ch_pop {w0 W : World} {row : Option Nat} {sh : List Int} {many : Nat} {A A2 : Option Addr} {c c2 bx bm bc bs bf : Nat} {cv : Value} {xs : List Int} {y : Int} (hbx : w0.heap.size ≤ bx) (hne : bx ≠ bs) (hbm : bx ≠ bm) (hI : ChI w0 row sh many A c bx bm bc bs bf cv (xs ++ [y]) W) (hxb : W.heap[bx]? = some (.cells #[.slice A2 (xs ++ [y]).length c2] 28 (0, 0))) (hR : Kd.R (Kd.int .i64) 3 W w0.heap.size (fun k => w0.heap.size ≤ k ∧ k ≠ bm) (.slice A2 (xs ++ [y]).length c2) (xs ++ [y])) :
    ChI w0 row sh many A c bx bm bc bs bf cv xs (W.setCell ⟨bx, 0, none⟩ (.slice A2 xs.length c2)) := by
  obtain ⟨hgr, _, hmb, hcb, hsb, hfb⟩ := hI
  have hR2 := Kd.R_take hR (m := xs.length) (by simp)
  rw [List.take_left] at hR2; refine ⟨grown_low hgr ((Below.refl _ _).setCell hbx _), ⟨_, one_setCell hxb, Kd.R_mono (Kd.R_far (p := ⟨bx, 0, none⟩) (Kd.R_types hR2 hxb (by decide)) (fun _ hk => hk.2) _) (fun _ hk => hk.1)⟩, blk_far hmb (fun h => hbm h.symm) _, blk_far hcb (blk_ne hcb hxb (by decide)) _, blk_far hsb (fun h => hne h.symm) _, blk_far hfb (blk_ne hfb hxb (by decide)) _⟩
theorem ch_drew {w0 W : World} {row : Option Nat} {sh : List Int} {many : Nat} {A : Option Addr} {c bx bm bc bs bf : Nat} {cv : Value} {xs : List Int} (hI : ChI w0 row sh many A c bx bm bc bs bf cv xs W) : ChI w0 row sh many A c bx bm bc bs bf cv xs W.drew := by
  obtain ⟨hgr, ⟨v, hxb, hR⟩, hmb, hcb, hsb, hfb⟩ := hI; exact ⟨grown_low hgr (below_drew (Below.refl _ _)), ⟨v, hxb, Kd.R_drew hR⟩, hmb, hcb, hsb, hfb⟩
theorem ch_grown {w0 W W' : World} {row : Option Nat} {sh : List Int} {many : Nat} {A : Option Addr} {c bx bm bc bs bf : Nat} {cv : Value} {xs : List Int} (hrow : ∀ k, row = some k → k < w0.heap.size) (hbx : w0.heap.size ≤ bx) (hbm : w0.heap.size ≤ bm) (hbc : w0.heap.size ≤ bc) (hbs : w0.heap.size ≤ bs) (hbf : w0.heap.size ≤ bf) (hI : ChI w0 row sh many A c bx bm bc bs bf cv xs W) (hg : W.grownBy W' row) : ChI w0 row sh many A c bx bm bc bs bf cv xs W' := by
  obtain ⟨hgr, ⟨v, hxb, hR⟩, hmb, hcb, hsb, hfb⟩ := hI
  have ne : ∀ b, w0.heap.size ≤ b → some b ≠ row := fun b hb h => by have := hrow b h.symm; omega
  exact ⟨grown_then hgr hg, ⟨v, blk_grown hxb hg (ne _ hbx), Kd.R_step hR (fun k hk hlt => hg.block k hlt (ne k hk.1))⟩, blk_grown hmb hg (ne _ hbm), blk_grown hcb hg (ne _ hbc), blk_grown hsb hg (ne _ hbs), blk_grown hfb hg (ne _ hbf)⟩
set_option maxHeartbeats 8000000 in
set_option maxRecDepth 100000 in
theorem ch_from (w0 : World) (row : Option Nat) (hrow : ∀ k, row = some k → k < w0.heap.size) (sh : List Int) (hsh : sh.length ≤ 1000) (many : Nat) (hmany : many ≤ 1000) (A : Option Addr) (c bx bm bc bs bf : Nat) (hbx : w0.heap.size ≤ bx) (hbm : w0.heap.size ≤ bm) (hbc : w0.heap.size ≤ bc) (hbs : w0.heap.size ≤ bs) (hbf : w0.heap.size ≤ bf) (hne : bx ≠ bs) (hnm : bx ≠ bm) (capt : Array Value)
    (hC : ∀ W, w0.grownBy W row → Kd.C (Kd.int .i64) W A sh.length sh) (hc : sh.length ≤ c) (p : List Int → Bool) (V : List Int → Prop) (Q : World → Prop) (F : List Int → World → Prop) (hV : ∀ xs y, V xs → y ∈ sh → V (xs ++ [y])) (hQ : ∀ W W', Q W → Below w0.heap.size W W' → Q W') (hF : ∀ ys W W', F ys W → Below W.heap.size W W' → F ys W')
    (hcall : ∀ xs A' c' W, V xs → xs.length = many → Q W → xs.length ≤ c' → Kd.C (Kd.int .i64) W A' xs.length xs → Calls Try.prog 40 (#[.slice A' xs.length c'] ++ capt) W fun e W' => e = .returned (.bool (p xs)) ∧ W.grownBy W' row ∧ (if p xs = true then F xs W' else Q W')) :
    ∀ (m next : Nat) (nx : Int) (xs : List Int) (w : World), nx = (next : Int) → sh.length ≤ next + m → next ≤ sh.length → xs.length ≤ many → V xs → ChI w0 row sh many A c bx bm bc bs bf (.func (.func 40) #[] capt) xs w → Q w →
    Calls Try.prog 48 #[.int .i64 nx, .pointer (some ⟨bx, 0, none⟩), .pointer (some ⟨bm, 0, none⟩), .pointer (some ⟨bc, 0, none⟩), .pointer (some ⟨bs, 0, none⟩), .pointer (some ⟨bf, 0, none⟩)] w (ChPost w0 row (ChI w0 row sh many A c bx bm bc bs bf (.func (.func 40) #[] capt) xs) Q F (comb p (sh.drop next) (many - xs.length) xs)) := by
  intro m
  induction m using Nat.strongRecOn with
  | ind m ih =>
    intro next nx xs w hnx hm hn hx hv hI hq; subst hnx
    by_cases hl : xs.length = many
    · obtain ⟨hg, ⟨v, hxb, hR⟩, hmb, hcb, hsb, hfb⟩ := hI
      obtain ⟨As, cs, rfl⟩ := Kd.R_slice hR; have hI : ChI w0 row sh many A c bx bm bc bs bf (.func (.func 40) #[] capt) xs w := ⟨hg, ⟨_, hxb, hR⟩, hmb, hcb, hsb, hfb⟩
      have cx := cell_of_one hxb
      have cm := cell_of_one hmb
      have cc := cell_of_one hcb
      have hcl := hcall xs As cs w hv hl hq (Kd.R_reads' hR).2.1 (Kd.R_reads' hR).2.2
      subst hl
      have he : ((xs.length : Int) == (xs.length : Int)) = true := beq_self_eq_true _
      rw [Nat.sub_self, comb_zero]; clear hC hV hQ hF hcall ih hq
      have HI := Aside0.mk hI
      clear hI hR
      cases hp : p xs with
      | true =>
        rw [if_pos rfl]; rw [hp] at hcl
        have HCL := Aside0.mk hcl
        clear hcl; go_enter Try.func48, Try.ntmps48
        go_wp2_with (go_at_call 40; refine HCL.out.mono ?_; rintro e w' ⟨rfl, hgr, hpq⟩)
        go_ret; exact ⟨rfl, grown_then hg hgr, by simpa using hpq⟩
      | false =>
        rw [if_neg (by decide)]; rw [hp] at hcl
        have HCL := Aside0.mk hcl
        clear hcl; go_enter Try.func48, Try.ntmps48
        go_wp2_with (go_at_call 40; refine HCL.out.mono ?_; rintro e w' ⟨rfl, hgr, hpq⟩)
        go_ret; exact ⟨rfl, ch_grown hrow hbx hbm hbc hbs hbf HI.out hgr, by simpa using hpq⟩
    · obtain ⟨r, hr⟩ : ∃ r, many - xs.length = r + 1 := ⟨many - xs.length - 1, by omega⟩
      have hl' : (xs ++ [(0 : Int)]).length ≤ many := by simp; omega
      rw [hr]
      obtain ⟨res, hres⟩ : ∃ z, comb p (sh.drop next) (r + 1) xs = z := ⟨_, rfl⟩
      rw [hres]; obtain ⟨hg, ⟨v, hxb, hR⟩, hmb, hcb, hsb, hfb⟩ := hI; obtain ⟨As, cs, rfl⟩ := Kd.R_slice hR; have hI : ChI w0 row sh many A c bx bm bc bs bf (.func (.func 40) #[] capt) xs w := ⟨hg, ⟨_, hxb, hR⟩, hmb, hcb, hsb, hfb⟩
      have cx := cell_of_one hxb
      have cm := cell_of_one hmb
      have he : ((xs.length : Int) == (many : Int)) = false := by rw [beq_eq_false_iff_ne]; omega
      have HI := Aside0.mk hI
      have HQ := Aside0.mk hq
      have HC := Aside0.mk hC
      have HV := Aside0.mk hV
      have HQQ := Aside0.mk hQ
      have HIH := Aside0.mk ih
      have HVX := Aside0.mk hv
      have HM := Aside0.mk hm
      have HN0 := Aside0.mk hn
      have HRES := Aside0.mk hres
      clear hI hq hC hV hQ hF hcall ih hR hg hv hm hres; go_enter Try.func48, Try.ntmps48
      go_wp2
      go_loopg [8] (sh.length - next) (fun kq v8 w' => ∃ i : Nat, v8 = .int .i64 (i : Int) ∧ Aside0 (next ≤ i ∧ i ≤ sh.length ∧ kq = sh.length - i) ∧ Aside0 (comb p (sh.drop i) (r + 1) xs = res) ∧ Aside0 (ChI w0 row sh many A c bx bm bc bs bf (.func (.func 40) #[] capt) xs w') ∧ Aside0 (Q w'))
      case atStart => exact ⟨next, rfl, ⟨Nat.le_refl _, hn, rfl⟩, HRES, HI, HQ⟩
      case round =>
        clear HI HQ hxb hmb hcb hsb hfb cx cm HRES; obtain ⟨i, rfl, HN, HRES, HI, HQ⟩ := hrel; obtain ⟨hg, ⟨v, hxb, hR⟩, hmb, hcb, hsb, hfb⟩ := HI.out; obtain ⟨As, cs, rfl⟩ := Kd.R_slice hR
        have cx := cell_of_one hxb
        have fx := free_of_one hxb
        have csb := cell_of_one hsb
        by_cases hlt : i < sh.length
        · have hd : decide ((i : Int) < (sh.length : Int)) = true := decide_eq_true (by omega)
          obtain ⟨ad, ea, hel⟩ := Kd.at_int (HC.out wr hg) (i : Int) (by omega) (by omega); subst ea
          obtain ⟨y, hy⟩ : ∃ y, rd sh (i : Int) = y := ⟨_, rfl⟩
          rw [hy, Int.toNat_natCast] at hel
          have hymem : y ∈ sh := by rw [← hy]; unfold rd; rw [Int.toNat_natCast, List.getD_eq_getElem?_getD, List.getElem?_eq_getElem hlt]; exact List.getElem_mem hlt
          have hdrop : sh.drop i = y :: sh.drop (i + 1) := by rw [List.drop_eq_getElem_cons hlt, ← hy]; unfold rd; rw [Int.toNat_natCast, List.getD_eq_getElem?_getD, List.getElem?_eq_getElem hlt]; rfl
          have HY := Aside0.mk hy
          have HYM := Aside0.mk hymem
          have HD := Aside0.mk hdrop
          have hI2 : ChI w0 row sh many (some ad) c bx bm bc bs bf (.func (.func 40) #[] capt) xs wr := HI.out
          have hI3 := ch_drew hI2
          have HR := Aside0.mk (Kd.R_drew hR)
          have hq3 := HQQ.out _ _ HQ.out (below_drew (Below.refl _ wr))
          have HI3 := Aside0.mk hI3
          have HQ3 := Aside0.mk hq3
          have p1 : (0 ≤ (i : Int)) = True := eq_true (by omega)
          have p2 : ((i : Int) < (sh.length : Int)) = True := eq_true (by omega)
          clear hI2 hI3 hq3 hR hy hymem hdrop
          go_wp2
          refine start_ (n := 8) (S := fun w' => w'.cell? ⟨bx, 0, none⟩ = some (.slice As xs.length cs) ∧ w'.cell? ⟨bs, 0, none⟩ = some (.slice (some ad) sh.length c) ∧ w'.cell? (ad.add i) = some (.int .i64 y)) (ds := [7]) #[false, false, false, false, false, false, false, false] (by kernel_rfl) rfl rfl ⟨cx, csb, hel⟩ (fun hHeld => ?_); have hxb2 : wr.drew.heap[bx]? = some (.cells #[.slice As xs.length cs] 28 (0, 0)) := hxb; clear HI HQ hxb hsb hmb hcb hfb cx fx csb hel hg; generalize wr.drew = wd at HI3 HQ3 HR hxb2 hHeld ⊢; refine take_ (i := 0) (N := some 23) (v := ?_) (a' := ?_) #[true, false, false, false, false, false, false, false] rfl rfl (by kernel_rfl) (fun _ _ _ h => h) (Or.inl ⟨by rfl, ?_⟩) hHeld ?_ ?_; rotate_left
          · rintro w' ⟨s0, s1, s2⟩
            go_simp
            with_reducible rfl
          rotate_left
          · simp only [Act.put, zshq, zchq, zdhq, i64_w, i32_w]
            rfl
          refine take_ (i := 1) (N := some 24) (v := ?_) (a' := ?_) #[true, true, false, false, false, false, false, false] rfl rfl (by kernel_rfl) (fun _ _ _ h => h) (Or.inl ⟨by rfl, ?_⟩) hHeld ?_ ?_; rotate_left
          · rintro w' ⟨s0, s1, s2⟩
            go_simp
            with_reducible rfl
          rotate_left
          · simp only [Act.put, zshq, zchq, zdhq, i64_w, i32_w]
            rfl
          refine pure_ (i := 2) (N := some 25) (v := ?_) (a' := ?_) #[true, true, true, false, false, false, false, false] rfl rfl (by kernel_rfl) (fun _ _ _ h => h) (Or.inl ⟨by rfl, ?_⟩) ?_ ?_; rotate_left
          · intro w'
            go_simp
            with_reducible rfl
          rotate_left
          · simp only [Act.put, zshq, zchq, zdhq, i64_w, i32_w]
            rfl
          refine pure_ (i := 3) (N := some 26) (v := ?_) (a' := ?_) #[true, true, true, true, false, false, false, false] rfl rfl (by kernel_rfl) (fun _ _ _ h => h) (Or.inl ⟨by rfl, ?_⟩) ?_ ?_; rotate_left
          · intro w'
            go_simp
            with_reducible rfl
          rotate_left
          · simp only [Act.put, zshq, zchq, zdhq, i64_w, i32_w]
            rfl
          refine take_ (i := 4) (N := some 27) (v := ?_) (a' := ?_) #[true, true, true, true, true, false, false, false] rfl rfl (by kernel_rfl) (fun _ _ _ h => h) (Or.inl ⟨by rfl, ?_⟩) hHeld ?_ ?_; rotate_left
          · rintro w' ⟨s0, s1, s2⟩
            go_simp
            with_reducible rfl
          rotate_left
          · simp only [Act.put, zshq, zchq, zdhq, i64_w, i32_w]
            rfl
          refine one_ (i := 5) (N := some 28) #[true, true, true, true, true, true, false, false] rfl rfl (by kernel_rfl) (by decide) (fun K hK => ?_); refine value_ (w1 := ?_) (v := ?_) (by rfl) rfl ?_ ?_; rotate_left 2
          · go_simp
            constructor
            · rfl
            · rfl
          have hbA := below_alloc (Below.refl wd.heap.size wd) (.cells #[.int .i64 y] 3)
          refine hK.out _ _ ⟨pw_cell_below hbA hHeld.1, pw_cell_below hbA hHeld.2.1, pw_cell_below hbA hHeld.2.2⟩ (fun hHeld => ?_); clear hK K hbA; refine norm_ (a' := ?_) ?_ ?_; rotate_left
          · show Act.put _ (some 28) _ = _
            simp only [Act.put, zshq, zchq, zdhq, i64_w, i32_w]
            rfl
          refine one_ (i := 6) (N := some 29) #[true, true, true, true, true, true, true, false] rfl rfl (by kernel_rfl) (by decide) (fun K hK => ?_); refine Kd.R_append_step (Kd.int .i64) (w0 := wd) w0.heap.size (by rfl) (.tmp 23) (.tmp 28) 28 3 (.int .i64 0) 8 rfl Try.underlying28 info3 rfl (by decide) (by omega) (.slice As xs.length cs) xs y [.int .i64 y] (fun k => w0.heap.size ≤ k ∧ k ≠ bm) (fun _ => False) rfl rfl ?aP (fun _ hk => hk.elim) ?aF ?aO ?aB ?aS ?aL ?_; (case aP => exact rfl); (case aB => exact Below.refl _ _); (case aF => exact fun k hk => ⟨by have := HI3.out.1.size; omega, by have := blk_lt HI3.out.2.2.1; omega⟩); (case aO => exact HR.out); (case aS => exact HI3.out.1.size); (case aL => have := hl'; simp at this; omega); intro v1 w1 ho hb hgr hat; obtain ⟨A1, c1, rfl⟩ := Kd.R_slice ho; obtain ⟨hx1, hs1, hg1, hI4⟩ := ch_push hbx hne hnm HI3.out hxb2 HR.out ho hb hgr
          have hq4 := HQQ.out _ _ HQ3.out (hb.setCell (p := ⟨bx, 0, none⟩) hbx (.slice A1 (xs ++ [y]).length c1))
          have hlen : (xs ++ [y]).length = xs.length + 1 := by simp
          rw [hlen] at hI4 hq4
          have HI4 := Aside0.mk hI4
          have HQ4 := Aside0.mk hq4
          clear hlen; obtain ⟨ad', e', hel1⟩ := Kd.at_int (HC.out w1 hg1) (i : Int) (by omega) (by omega)
          cases e'
          rw [HY.out, Int.toNat_natCast] at hel1; clear hI4 hq4 ho hb hgr hat hHeld hxb2; refine hK.out _ _ ⟨cell_of_one hx1, cell_of_one hs1, hel1⟩ (fun hHeld => ?_); clear hK K; refine norm_ (a' := ?_) ?_ ?_; rotate_left
          · show Act.put _ (some 29) _ = _
            simp only [Act.put, zshq, zchq, zdhq, i64_w, i32_w]
            rfl
          refine last_ (i := 7) (N := none) #[true, true, true, true, true, true, true, true] rfl rfl (by kernel_rfl) (by decide) (fun K hK => ?_)
          have cx := cell_of_one hx1
          have fx := free_of_one hx1
          refine skip_ (w1 := ?_) (by rfl) rfl ?_ ?_; rotate_left
          · go_simp
            rfl
          refine hK.out _ _ ?_; clear hK K hHeld; refine done_ (by kernel_rfl) ?_; generalize World.setCell w1 _ _ = w3 at HI4 HQ4 ⊢
          cases hcb : comb p (sh.drop (i + 1)) r (xs ++ [y]) with
          | some ys =>
            have hz : res = some ys := by rw [← HRES.out, HD.out, comb_cons, hcb]; rfl
            subst hz
            have hr' : many - (xs ++ [y]).length = r := by simp; omega
            have hih := HIH.out (sh.length - (i + 1)) (by have := HN.out; have := HM.out; omega) (i + 1) ((i : Int) + 1) (xs ++ [y]) w3 (by omega) (by omega) (by omega) (by simp; omega) (HV.out _ _ HVX.out HYM.out) HI4.out HQ4.out
            rw [hr', hcb] at hih; obtain ⟨_, _, _, _, _, hfb⟩ := HI4.out
            have cf := cell_of_one hfb
            have HIH2 := Aside0.mk hih
            clear hih hfb
            go_wp2_with (go_at_call 48; refine HIH2.out.mono ?_; rintro e w4 ⟨rfl, hgr4, hF4⟩)
            go_ret; exact ⟨rfl, hgr4, hF4⟩
          | none =>
            have hr' : many - (xs ++ [y]).length = r := by simp; omega
            have hih := HIH.out (sh.length - (i + 1)) (by have := HN.out; have := HM.out; omega) (i + 1) ((i : Int) + 1) (xs ++ [y]) w3 (by omega) (by omega) (by omega) (by simp; omega) (HV.out _ _ HVX.out HYM.out) HI4.out HQ4.out
            rw [hr', hcb] at hih; obtain ⟨_, _, _, _, _, hfb⟩ := HI4.out
            have cf := cell_of_one hfb
            have HIH2 := Aside0.mk hih
            clear hih hfb
            go_wp2_with fail
            refine HIH2.out.mono ?_
            rintro e w4 ⟨rfl, hI5, hq5⟩
            obtain ⟨hg5, ⟨v5, hxb5, hR5⟩, hmb5, hcb5, hsb5, hfb5⟩ := hI5; obtain ⟨A5, c5, rfl⟩ := Kd.R_slice hR5; have hI5 : ChI w0 row sh many (some ad) c bx bm bc bs bf (.func (.func 40) #[] capt) (xs ++ [y]) w4 := ⟨hg5, ⟨_, hxb5, hR5⟩, hmb5, hcb5, hsb5, hfb5⟩
            have hI6 := ch_pop hbx hne hnm hI5 hxb5 hR5
            have hq6 := HQQ.out _ _ hq5 ((Below.refl _ w4).setCell (p := ⟨bx, 0, none⟩) hbx (.slice A5 xs.length c5))
            have hlen : (xs ++ [y]).length = xs.length + 1 := by simp
            have hc5 := (Kd.R_reads' hR5).2.1
            rw [hlen] at hxb5 hc5
            have cx5 := cell_of_one hxb5
            have fx5 := free_of_one hxb5
            have HI6 := Aside0.mk hI6
            have HQ6 := Aside0.mk hq6
            clear hg5 hR5 hmb5 hcb5 hsb5 hfb5 hI5 hI6 hq6 hq5 hlen hxb5
            dsimp only
            go_wp2
            go_roundg (sh.length - (i + 1))
            case measure => have := HN.out; omega
            case rel => exact ⟨i + 1, by first | rfl | (simp; done), ⟨by have := HN.out; omega⟩, ⟨by rw [← HRES.out, HD.out, comb_cons, hcb]; rfl⟩, HI6, HQ6⟩
        · have hd : decide ((i : Int) < (sh.length : Int)) = false := decide_eq_false (by omega)
          have hi : i = sh.length := by have := HN.out; omega
          have hz : res = none := by rw [← HRES.out, hi, List.drop_length, comb_nil]
          subst hz; clear hR
          go_wp2
          go_ret; exact ⟨rfl, HI.out, HQ.out⟩
set_option maxHeartbeats 1000000 in
set_option maxRecDepth 100000 in
theorem impl_chosen.calls (w : World) (row : Option Nat) (hrow : ∀ k, row = some k → k < w.heap.size) (sh : List Int) (hsh : sh.length ≤ 1000) (many : Nat) (hmany : many ≤ 1000) (A : Option Addr) (c : Nat) (capt : Array Value)
  (hC : ∀ W, w.grownBy W row → Kd.C (Kd.int .i64) W A sh.length sh) (hc : sh.length ≤ c) (p : List Int → Bool) (V : List Int → Prop) (Q : World → Prop) (F : List Int → World → Prop) (hV0 : V []) (hV : ∀ xs y, V xs → y ∈ sh → V (xs ++ [y])) (hQ0 : Q w) (hQ : ∀ W W', Q W → Below w.heap.size W W' → Q W') (hF : ∀ ys W W', F ys W → Below W.heap.size W W' → F ys W')
  (hcall : ∀ xs A' c' W, V xs → xs.length = many → Q W → xs.length ≤ c' → Kd.C (Kd.int .i64) W A' xs.length xs → Calls Try.prog 40 (#[.slice A' xs.length c'] ++ capt) W fun e W' => e = .returned (.bool (p xs)) ∧ W.grownBy W' row ∧ (if p xs = true then F xs W' else Q W')) :
  Calls Try.prog 39 #[.slice A sh.length c, .int .i64 (many : Int), .func (.func 40) #[] capt] w (ChPost w row (fun w' => w.grownBy w' row) Q F (comb p sh many [])) := by
 have hmf : ∀ (fn : Fn) (first cap : Array Value) (w : World), (Instr.makeFunc fn first cap).run Try.prog w = .ok (.func fn first cap) w := fun _ _ _ _ => rfl
 have HC := Aside0.mk hC
 have HQ0 := Aside0.mk hQ0
 have HQQ := Aside0.mk hQ
 have HFF := Aside0.mk hF
 have HFR := Aside0.mk (fun bx bm bc bs bf hbx hbm hbc hbs hbf hne hnm w' => ch_from w row hrow sh hsh many hmany A c bx bm bc bs bf hbx hbm hbc hbs hbf hne hnm capt hC hc p V Q F hV hQ hF hcall sh.length 0 0 [] w' rfl (by omega) (Nat.zero_le _) (Nat.zero_le _) hV0)
 clear hC hQ0 hQ hF hcall hV
 go_enter Try.func39, Try.ntmps39
 cases hcb : comb p sh many [] with
 | none =>
  go_wp2_with (first | ((with_reducible refine gate_dst (N := 3) rfl ?_); refine box_event ?hg (N := 3) ?hd (cs := #[.slice A sh.length c]) (t := 28) ?hr ?_; (case hd => rfl); (case hg => rfl); (case hr => first | (go_simp; done) | (go_simp; rfl)); intro bs e_bs w1 h_bs b1; have E_bs := Aside0.mk e_bs; clear e_bs; skip) | ((with_reducible refine gate_dst (N := 4) rfl ?_); refine box_event ?hg (N := 4) ?hd (cs := #[.int .i64 (many : Int)]) (t := 3) ?hr ?_; (case hd => rfl); (case hg => rfl); (case hr => first | (go_simp; done) | (go_simp; rfl)); intro bm e_bm w2 h_bm b2; have E_bm := Aside0.mk e_bm; clear e_bm; skip) | ((with_reducible refine gate_dst (N := 5) rfl ?_); refine box_event ?hg (N := 5) ?hd (cs := #[.func (.func 40) #[] capt]) (t := 61) ?hr ?_; (case hd => rfl); (case hg => rfl); (case hr => first | (go_simp; done) | (go_simp; rfl)); intro bc e_bc w3 h_bc b3; have E_bc := Aside0.mk e_bc; clear e_bc; have cm3 := cell_of_one (blk_below h_bm b3)) | ((with_reducible refine gate_dst (N := 10) rfl ?_); refine R_make0 (Kd.int .i64) _ 3 rfl (N := 10) rfl 28 _ _ rfl (many : Int) rfl rfl Try.underlying28 (.int .i64 0) 8 info3 (by decide) (ok := fun _ => True) (okp := fun _ => True) (fun _ hk => hk) trivial (by omega) (by omega) (Below.refl _ _) (Nat.le_refl _) ?_; intro vr w4 hr4 b4 hg4 hnew4) | ((with_reducible refine gate_dst (N := 7) rfl ?_); refine box_event ?hg (N := 7) ?hd (cs := #[.slice none 0 0]) (t := 28) ?hr ?_; (case hd => rfl); (case hg => rfl); (case hr => first | (go_simp; done) | (go_simp; rfl)); intro bx e_bx w5 h_bx b5; have E_bx := Aside0.mk e_bx; clear e_bx; have cx5 := cell_of_one h_bx; have fx5 := free_of_one h_bx; obtain ⟨Ar, cr, rfl⟩ := Kd.R_slice hr4) | ((with_reducible refine gate_dst (N := 8) rfl ?_); refine box_event ?hg (N := 8) ?hd (cs := #[.nilFunc]) (t := 40) ?hr ?_; (case hd => rfl); (case hg => rfl); (case hr => first | (go_simp; done) | (go_simp; rfl)); intro bf e_bf w6 h_bf b6; have E_bf := Aside0.mk e_bf; clear e_bf; have cf6 := cell_of_one h_bf; have ff6 := free_of_one h_bf; have B1 := b1; have B2 := below_step B1 b2; have B3 := below_step B2 b3; have B4 := below_step B3 b4; have B5 := below_step B4 b5; have l1 := E_bs.out; have l2 := E_bm.out; have l3 := E_bc.out; have l4 := E_bx.out; have l5 := E_bf.out; have s1 := B1.size; have s2 := B2.size; have s3 := B3.size; have s4 := B4.size; have s5 := B5.size; have t2 := b2.size; have t3 := b3.size; have t4 := b4.size; have t5 := b5.size; have t6 := b6.size; have u1 := blk_lt h_bs; have u2 := blk_lt h_bm; have u3 := blk_lt h_bc; have u5 := blk_lt h_bx; have gx : w.heap.size ≤ bx := (by omega); skip; have zf : w5.heap.size ≤ bf := (by rw [l5] <;> simp [World.setCell]); have gf : w.heap.size ≤ bf := (by omega); have B6 := below_step (B5.setCell (p := ⟨bx, 0, none⟩) gx (.slice Ar 0 cr)) b6; have nxs : bs ≠ bx := (by omega); have nxm : bm ≠ bx := (by omega); have nxc : bc ≠ bx := (by omega); have nfs : bs ≠ bf := (by omega); have nfm : bm ≠ bf := (by omega); have nfc : bc ≠ bf := (by omega); have nfx : bx ≠ bf := (by omega); have fs := blk_far (p := ⟨bf, 0, none⟩) (blk_below (blk_far (p := ⟨bx, 0, none⟩) (blk_below (blk_below (blk_below (blk_below h_bs b2) b3) b4) b5) nxs (.slice Ar 0 cr)) b6) nfs (.func (.func 48) #[] #[.pointer (some ⟨bx, 0, none⟩), .pointer (some ⟨bm, 0, none⟩), .pointer (some ⟨bc, 0, none⟩), .pointer (some ⟨bs, 0, none⟩), .pointer (some ⟨bf, 0, none⟩)]); have fm := blk_far (p := ⟨bf, 0, none⟩) (blk_below (blk_far (p := ⟨bx, 0, none⟩) (blk_below (blk_below (blk_below h_bm b3) b4) b5) nxm (.slice Ar 0 cr)) b6) nfm (.func (.func 48) #[] #[.pointer (some ⟨bx, 0, none⟩), .pointer (some ⟨bm, 0, none⟩), .pointer (some ⟨bc, 0, none⟩), .pointer (some ⟨bs, 0, none⟩), .pointer (some ⟨bf, 0, none⟩)]); have fc := blk_far (p := ⟨bf, 0, none⟩) (blk_below (blk_far (p := ⟨bx, 0, none⟩) (blk_below (blk_below h_bc b4) b5) nxc (.slice Ar 0 cr)) b6) nfc (.func (.func 48) #[] #[.pointer (some ⟨bx, 0, none⟩), .pointer (some ⟨bm, 0, none⟩), .pointer (some ⟨bc, 0, none⟩), .pointer (some ⟨bs, 0, none⟩), .pointer (some ⟨bf, 0, none⟩)]); have fx1 := blk_below (one_setCell (u := .slice Ar 0 cr) h_bx) b6; have fx := blk_far (p := ⟨bf, 0, none⟩) fx1 nfx (.func (.func 48) #[] #[.pointer (some ⟨bx, 0, none⟩), .pointer (some ⟨bm, 0, none⟩), .pointer (some ⟨bc, 0, none⟩), .pointer (some ⟨bs, 0, none⟩), .pointer (some ⟨bf, 0, none⟩)]); have ffb := one_setCell (u := .func (.func 48) #[] #[.pointer (some ⟨bx, 0, none⟩), .pointer (some ⟨bm, 0, none⟩), .pointer (some ⟨bc, 0, none⟩), .pointer (some ⟨bs, 0, none⟩), .pointer (some ⟨bf, 0, none⟩)]) h_bf; have r1 : Kd.R (Kd.int .i64) 3 w4 w.heap.size (fun k => w.heap.size ≤ k ∧ k ≠ bm) (.slice Ar 0 cr) [] := Kd.R_lower (Kd.R_mono (Kd.R_bound hr4) (fun k hk => ⟨by have := hk.2.1; omega, by have := hk.2.1; omega⟩)) s3; have r2 := Kd.R_below r1 b5; have r3 := Kd.R_mono (Kd.R_far (p := ⟨bx, 0, none⟩) (Kd.R_types r2 h_bx (by decide)) (fun _ hk => hk.2) (.slice Ar 0 cr)) (fun _ hk => hk.1); have r4 := Kd.R_below r3 b6; have r5 := Kd.R_mono (Kd.R_far (p := ⟨bf, 0, none⟩) (Kd.R_types r4 h_bf (by decide)) (fun _ hk => hk.2) (.func (.func 48) #[] #[.pointer (some ⟨bx, 0, none⟩), .pointer (some ⟨bm, 0, none⟩), .pointer (some ⟨bc, 0, none⟩), .pointer (some ⟨bs, 0, none⟩), .pointer (some ⟨bf, 0, none⟩)])) (fun _ hk => hk.1); have B7 := B6.setCell (p := ⟨bf, 0, none⟩) gf (.func (.func 48) #[] #[.pointer (some ⟨bx, 0, none⟩), .pointer (some ⟨bm, 0, none⟩), .pointer (some ⟨bc, 0, none⟩), .pointer (some ⟨bs, 0, none⟩), .pointer (some ⟨bf, 0, none⟩)]); have hq7 := HQQ.out _ _ HQ0.out B7; have hcl := HFR.out bx bm bc bs bf gx (by omega) (by omega) (by omega) gf (fun h => nxs h.symm) (fun h => nxm h.symm) (World.setCell w6 ⟨bf, 0, none⟩ (.func (.func 48) #[] #[.pointer (some ⟨bx, 0, none⟩), .pointer (some ⟨bm, 0, none⟩), .pointer (some ⟨bc, 0, none⟩), .pointer (some ⟨bs, 0, none⟩), .pointer (some ⟨bf, 0, none⟩)])) ⟨⟨B7.os, B7.tape, B7.output, B7.size, fun i hi _ => B7.block i hi⟩, ⟨_, fx, r5⟩, fm, fc, fs, ffb⟩ hq7; simp only [List.drop_zero, List.length_nil, Nat.sub_zero] at hcl; rw [hcb] at hcl; have HCL := Aside0.mk hcl; clear hcl hq7 B1 B2 B3 B4 B5 B6 B7 l1 l2 l3 l4 l5 s1 s2 s3 s4 s5 t2 t3 t4 t5 t6 u1 u2 u3 u5 gx gf zf nxs nxm nxc nfs nfm nfc nfx fs fm fc fx1 fx ffb r1 r2 r3 r4 r5) | (go_at_call 48; refine HCL.out.mono ?_; rintro e w7 ⟨rfl, hI7, hq7⟩))
  go_ret; exact ⟨rfl, hI7.1, hq7⟩
 | some ys =>
  go_wp2_with (first | ((with_reducible refine gate_dst (N := 3) rfl ?_); refine box_event ?hg (N := 3) ?hd (cs := #[.slice A sh.length c]) (t := 28) ?hr ?_; (case hd => rfl); (case hg => rfl); (case hr => first | (go_simp; done) | (go_simp; rfl)); intro bs e_bs w1 h_bs b1; have E_bs := Aside0.mk e_bs; clear e_bs; skip) | ((with_reducible refine gate_dst (N := 4) rfl ?_); refine box_event ?hg (N := 4) ?hd (cs := #[.int .i64 (many : Int)]) (t := 3) ?hr ?_; (case hd => rfl); (case hg => rfl); (case hr => first | (go_simp; done) | (go_simp; rfl)); intro bm e_bm w2 h_bm b2; have E_bm := Aside0.mk e_bm; clear e_bm; skip) | ((with_reducible refine gate_dst (N := 5) rfl ?_); refine box_event ?hg (N := 5) ?hd (cs := #[.func (.func 40) #[] capt]) (t := 61) ?hr ?_; (case hd => rfl); (case hg => rfl); (case hr => first | (go_simp; done) | (go_simp; rfl)); intro bc e_bc w3 h_bc b3; have E_bc := Aside0.mk e_bc; clear e_bc; have cm3 := cell_of_one (blk_below h_bm b3)) | ((with_reducible refine gate_dst (N := 10) rfl ?_); refine R_make0 (Kd.int .i64) _ 3 rfl (N := 10) rfl 28 _ _ rfl (many : Int) rfl rfl Try.underlying28 (.int .i64 0) 8 info3 (by decide) (ok := fun _ => True) (okp := fun _ => True) (fun _ hk => hk) trivial (by omega) (by omega) (Below.refl _ _) (Nat.le_refl _) ?_; intro vr w4 hr4 b4 hg4 hnew4) | ((with_reducible refine gate_dst (N := 7) rfl ?_); refine box_event ?hg (N := 7) ?hd (cs := #[.slice none 0 0]) (t := 28) ?hr ?_; (case hd => rfl); (case hg => rfl); (case hr => first | (go_simp; done) | (go_simp; rfl)); intro bx e_bx w5 h_bx b5; have E_bx := Aside0.mk e_bx; clear e_bx; have cx5 := cell_of_one h_bx; have fx5 := free_of_one h_bx; obtain ⟨Ar, cr, rfl⟩ := Kd.R_slice hr4) | ((with_reducible refine gate_dst (N := 8) rfl ?_); refine box_event ?hg (N := 8) ?hd (cs := #[.nilFunc]) (t := 40) ?hr ?_; (case hd => rfl); (case hg => rfl); (case hr => first | (go_simp; done) | (go_simp; rfl)); intro bf e_bf w6 h_bf b6; have E_bf := Aside0.mk e_bf; clear e_bf; have cf6 := cell_of_one h_bf; have ff6 := free_of_one h_bf; have B1 := b1; have B2 := below_step B1 b2; have B3 := below_step B2 b3; have B4 := below_step B3 b4; have B5 := below_step B4 b5; have l1 := E_bs.out; have l2 := E_bm.out; have l3 := E_bc.out; have l4 := E_bx.out; have l5 := E_bf.out; have s1 := B1.size; have s2 := B2.size; have s3 := B3.size; have s4 := B4.size; have s5 := B5.size; have t2 := b2.size; have t3 := b3.size; have t4 := b4.size; have t5 := b5.size; have t6 := b6.size; have u1 := blk_lt h_bs; have u2 := blk_lt h_bm; have u3 := blk_lt h_bc; have u5 := blk_lt h_bx; have gx : w.heap.size ≤ bx := (by omega); skip; have zf : w5.heap.size ≤ bf := (by rw [l5] <;> simp [World.setCell]); have gf : w.heap.size ≤ bf := (by omega); have B6 := below_step (B5.setCell (p := ⟨bx, 0, none⟩) gx (.slice Ar 0 cr)) b6; have nxs : bs ≠ bx := (by omega); have nxm : bm ≠ bx := (by omega); have nxc : bc ≠ bx := (by omega); have nfs : bs ≠ bf := (by omega); have nfm : bm ≠ bf := (by omega); have nfc : bc ≠ bf := (by omega); have nfx : bx ≠ bf := (by omega); have fs := blk_far (p := ⟨bf, 0, none⟩) (blk_below (blk_far (p := ⟨bx, 0, none⟩) (blk_below (blk_below (blk_below (blk_below h_bs b2) b3) b4) b5) nxs (.slice Ar 0 cr)) b6) nfs (.func (.func 48) #[] #[.pointer (some ⟨bx, 0, none⟩), .pointer (some ⟨bm, 0, none⟩), .pointer (some ⟨bc, 0, none⟩), .pointer (some ⟨bs, 0, none⟩), .pointer (some ⟨bf, 0, none⟩)]); have fm := blk_far (p := ⟨bf, 0, none⟩) (blk_below (blk_far (p := ⟨bx, 0, none⟩) (blk_below (blk_below (blk_below h_bm b3) b4) b5) nxm (.slice Ar 0 cr)) b6) nfm (.func (.func 48) #[] #[.pointer (some ⟨bx, 0, none⟩), .pointer (some ⟨bm, 0, none⟩), .pointer (some ⟨bc, 0, none⟩), .pointer (some ⟨bs, 0, none⟩), .pointer (some ⟨bf, 0, none⟩)]); have fc := blk_far (p := ⟨bf, 0, none⟩) (blk_below (blk_far (p := ⟨bx, 0, none⟩) (blk_below (blk_below h_bc b4) b5) nxc (.slice Ar 0 cr)) b6) nfc (.func (.func 48) #[] #[.pointer (some ⟨bx, 0, none⟩), .pointer (some ⟨bm, 0, none⟩), .pointer (some ⟨bc, 0, none⟩), .pointer (some ⟨bs, 0, none⟩), .pointer (some ⟨bf, 0, none⟩)]); have fx1 := blk_below (one_setCell (u := .slice Ar 0 cr) h_bx) b6; have fx := blk_far (p := ⟨bf, 0, none⟩) fx1 nfx (.func (.func 48) #[] #[.pointer (some ⟨bx, 0, none⟩), .pointer (some ⟨bm, 0, none⟩), .pointer (some ⟨bc, 0, none⟩), .pointer (some ⟨bs, 0, none⟩), .pointer (some ⟨bf, 0, none⟩)]); have ffb := one_setCell (u := .func (.func 48) #[] #[.pointer (some ⟨bx, 0, none⟩), .pointer (some ⟨bm, 0, none⟩), .pointer (some ⟨bc, 0, none⟩), .pointer (some ⟨bs, 0, none⟩), .pointer (some ⟨bf, 0, none⟩)]) h_bf; have r1 : Kd.R (Kd.int .i64) 3 w4 w.heap.size (fun k => w.heap.size ≤ k ∧ k ≠ bm) (.slice Ar 0 cr) [] := Kd.R_lower (Kd.R_mono (Kd.R_bound hr4) (fun k hk => ⟨by have := hk.2.1; omega, by have := hk.2.1; omega⟩)) s3; have r2 := Kd.R_below r1 b5; have r3 := Kd.R_mono (Kd.R_far (p := ⟨bx, 0, none⟩) (Kd.R_types r2 h_bx (by decide)) (fun _ hk => hk.2) (.slice Ar 0 cr)) (fun _ hk => hk.1); have r4 := Kd.R_below r3 b6; have r5 := Kd.R_mono (Kd.R_far (p := ⟨bf, 0, none⟩) (Kd.R_types r4 h_bf (by decide)) (fun _ hk => hk.2) (.func (.func 48) #[] #[.pointer (some ⟨bx, 0, none⟩), .pointer (some ⟨bm, 0, none⟩), .pointer (some ⟨bc, 0, none⟩), .pointer (some ⟨bs, 0, none⟩), .pointer (some ⟨bf, 0, none⟩)])) (fun _ hk => hk.1); have B7 := B6.setCell (p := ⟨bf, 0, none⟩) gf (.func (.func 48) #[] #[.pointer (some ⟨bx, 0, none⟩), .pointer (some ⟨bm, 0, none⟩), .pointer (some ⟨bc, 0, none⟩), .pointer (some ⟨bs, 0, none⟩), .pointer (some ⟨bf, 0, none⟩)]); have hq7 := HQQ.out _ _ HQ0.out B7; have hcl := HFR.out bx bm bc bs bf gx (by omega) (by omega) (by omega) gf (fun h => nxs h.symm) (fun h => nxm h.symm) (World.setCell w6 ⟨bf, 0, none⟩ (.func (.func 48) #[] #[.pointer (some ⟨bx, 0, none⟩), .pointer (some ⟨bm, 0, none⟩), .pointer (some ⟨bc, 0, none⟩), .pointer (some ⟨bs, 0, none⟩), .pointer (some ⟨bf, 0, none⟩)])) ⟨⟨B7.os, B7.tape, B7.output, B7.size, fun i hi _ => B7.block i hi⟩, ⟨_, fx, r5⟩, fm, fc, fs, ffb⟩ hq7; simp only [List.drop_zero, List.length_nil, Nat.sub_zero] at hcl; rw [hcb] at hcl; have HCL := Aside0.mk hcl; clear hcl hq7 B1 B2 B3 B4 B5 B6 B7 l1 l2 l3 l4 l5 s1 s2 s3 s4 s5 t2 t3 t4 t5 t6 u1 u2 u3 u5 gx gf zf nxs nxm nxc nfs nfm nfc nfx fs fm fc fx1 fx ffb r1 r2 r3 r4 r5) | (go_at_call 48; refine HCL.out.mono ?_; rintro e w7 ⟨rfl, hI7, hq7⟩))
  go_ret; exact ⟨rfl, hI7, hq7⟩
end Go.Proofs.Ytfgpffocieegdaa.PA

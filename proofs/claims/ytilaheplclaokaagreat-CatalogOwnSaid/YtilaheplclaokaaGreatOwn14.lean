/-
Walks of package frac: Check and reduce, where the denominator is positive; cross.
Walks of package frac: cross, and what Add calculates.
Walks of package frac: Make, Of, both, Add, where there is no error.
-/
import Derived.Test.YtilaheplclaokaaGreatOwn13
set_option linter.unusedVariables false
set_option linter.unusedSimpArgs false
namespace Go.Proofs.YtilaheplclaokaaGreat
open Go.RowKit Go.Shelf
attribute [local go_sem] Oper.semAt_some

/-- A fraction's numbers. -/
def FracPost (x y : Int) (w : World) (e : Ending) (w' : World) : Prop := ∃ an aA am ac bn bA bm bc, e = .returned (.agg #[.bool an, .slice aA am ac, .bool bn, .slice bA bm bc]) ∧ WD w' an aA am ac x ∧ WD w' bn bA bm bc y ∧ Below w.heap.size w w'
theorem wpOp_wanted {P : Program} {ops : Array Oper} {i : Nat} {o : Oper} {a : Act} {w : World} {K : Act → World → Prop} {Q : Exit → Act → World → Prop} (hi : ops[i]? = some o) (hg : Region.wanted o (yielded ops a.tmps) = true) (h : ∀ K' : Act → World → Prop, (∀ a w, K a w → K' a w) → o.wp P a w K' Q) : wpOp P ops Q i K a w := by
  unfold wpOp
  simp only [hi]
  rw [if_pos hg]
  exact .inl (h K fun _ _ h => h)
theorem fit1 : Num.fit 1 = 1 ∧ Num.ferr 1 = 0 := by
  have h : Num.fits 1 = true := by
    have := Num.P_pos 4095
    simp only [Num.fits, decide_eq_true_eq, show Num.P 4096 = Num.P 4095 * Num.B from Num.P_succ 4095, Num.B]
    omega
  exact ⟨Num.fit_of h, by unfold Num.ferr; rw [h]; rfl⟩

set_option maxRecDepth 100000 in
set_option maxHeartbeats 400000 in
theorem fcheck_calls (w : World) (an bn : Bool) (aA bA : Option Addr) (am ac bm bc : Nat) (x y : Int) (ha : WD w an aA am ac x) (hb : WD w bn bA bm bc y) (hy : 0 < y) (hg : Int.gcd x y = 1) :
    Calls Tryz.prog 117 #[.agg #[.bool an, .slice aA am ac, .bool bn, .slice bA bm bc]] w (OkPost (.int .i64 0) w) := by
  have hbn : bn = false := by
    cases bn with
    | false => rfl
    | true => have := hb.neg_iff.1 rfl; omega
  subst hbn
  have HE := Lib.hid ((((Env.start w).wd ha).wd hb).alloc #[.bool an, .slice aA am ac, .bool false, .slice bA bm bc] 127)
  have HZ : Hid (decide (y = 0) = false) := Lib.hid (decide_eq_false (by omega))
  have CG := Lib.hid fun w' a b => Gcd_calls w' an false aA bA am bm ac bc x y a b
  rw [hg] at CG
  have h11 : (((1 : Nat) : Int)) = 1 := rfl
  unfold NumPost at CG
  rw [h11, fit1.1, fit1.2] at CG
  clear ha hb hy hg h11
  go_enter Tryz.func117, Tryz.ntmps117
  go_wp2_with fail
  go_at_call 136
  refine (CG.out _ HE.out.wds.2.1 HE.out.wds.1).mono ?_
  rintro e W1 ⟨_, rfl, ⟨gn, gA, gm, gc, rfl, hg⟩, hb1⟩
  replace HE := Lib.hid ((HE.out.below hb1).wd hg)
  clear hg hb1
  go_wp2_with fail
  have E2 := HE.out.alloc #[.bool gn, .slice gA gm gc] 78
  clear HE
  generalize W1.alloc (.cells #[.bool gn, .slice gA gm gc] 78) = V at *
  generalize W1.heap.size = b3 at *
  have HE := Lib.hid E2
  clear E2
  refine region_start (S := fun W' => Env w [(b3, #[.bool gn, .slice gA gm gc], 78), (w.heap.size, #[.bool an, .slice aA am ac, .bool false, .slice bA bm bc], 127)] [(gn, gA, gm, gc, 1), (false, bA, bm, bc, y), (an, aA, am, ac, x)] W') (by kernel_rfl) ?_
  intro W hW
  have E := HE.out.drew
  rw [← hW] at E
  clear hW HE
  have hS := E
  refine wpAnyH_take (i := 0) (v := .int .i64 0) rfl (by kernel_rfl) (by kernel_rfl) (by kernel_rfl) (fun _ _ _ h => h) (.inl ⟨rfl, fun w0 hw0 => ?a0⟩) hS ?_
  case a0 =>
    have g := hw0.blks; have e0 := g.1.c0; have e1 := g.1.c1; have e2 : w0.cell? ⟨w.heap.size, 2, none⟩ = some (.bool false) := g.2.1.at 2; have e3 : w0.cell? ⟨w.heap.size, 3, none⟩ = some (.slice bA bm bc) := g.2.1.at 3
    go_simp
  refine wpAnyH_take (i := 1) (v := .bool false) rfl (by kernel_rfl) (by kernel_rfl) (by kernel_rfl) (fun _ _ _ h => h) (.inl ⟨rfl, fun w0 hw0 => ?a1⟩) hS ?_
  case a1 =>
    have g := hw0.blks; have e0 := g.1.c0; have e1 := g.1.c1; have e2 : w0.cell? ⟨w.heap.size, 2, none⟩ = some (.bool false) := g.2.1.at 2; have e3 : w0.cell? ⟨w.heap.size, 3, none⟩ = some (.slice bA bm bc) := g.2.1.at 3
    go_simp
  refine wpAnyH_take (i := 2) (v := .bool false) rfl (by kernel_rfl) (by kernel_rfl) (by kernel_rfl) (fun _ _ _ h => h) (.inl ⟨rfl, fun w0 hw0 => ?a2⟩) hS ?_
  case a2 =>
    have g := hw0.blks; have e0 := g.1.c0; have e1 := g.1.c1; have e2 : w0.cell? ⟨w.heap.size, 2, none⟩ = some (.bool false) := g.2.1.at 2; have e3 : w0.cell? ⟨w.heap.size, 3, none⟩ = some (.slice bA bm bc) := g.2.1.at 3
    go_simp
  try simp only [Act.put, List.getElem_toArray, List.getElem_cons_zero, List.getElem_cons_succ, List.setIfInBounds_toArray, List.set_cons_zero, List.set_cons_succ]
  refine wpAnyH_take (i := 3) (v := .pointer (some ⟨w.heap.size, 2, none⟩)) rfl (by kernel_rfl) (by kernel_rfl) (by kernel_rfl) (fun _ _ _ h => h) (.inl ⟨rfl, fun w0 hw0 => ?a3⟩) hS ?_
  case a3 =>
    have g := hw0.blks; have e0 := g.1.c0; have e1 := g.1.c1; have e2 : w0.cell? ⟨w.heap.size, 2, none⟩ = some (.bool false) := g.2.1.at 2; have e3 : w0.cell? ⟨w.heap.size, 3, none⟩ = some (.slice bA bm bc) := g.2.1.at 3
    go_simp
  try simp only [Act.put, List.getElem_toArray, List.getElem_cons_zero, List.getElem_cons_succ, List.setIfInBounds_toArray, List.set_cons_zero, List.set_cons_succ]
  refine wpAnyH_take (i := 4) (v := .pointer (some ⟨w.heap.size, 2, none⟩)) rfl (by kernel_rfl) (by kernel_rfl) (by kernel_rfl) (fun _ _ _ h => h) (.inl ⟨rfl, fun w0 hw0 => ?a4⟩) hS ?_
  case a4 =>
    have g := hw0.blks; have e0 := g.1.c0; have e1 := g.1.c1; have e2 : w0.cell? ⟨w.heap.size, 2, none⟩ = some (.bool false) := g.2.1.at 2; have e3 : w0.cell? ⟨w.heap.size, 3, none⟩ = some (.slice bA bm bc) := g.2.1.at 3
    go_simp
  try simp only [Act.put, List.getElem_toArray, List.getElem_cons_zero, List.getElem_cons_succ, List.setIfInBounds_toArray, List.set_cons_zero, List.set_cons_succ]
  refine wpAnyH_take (i := 5) (v := .bool false) rfl (by kernel_rfl) (by kernel_rfl) (by kernel_rfl) (fun _ _ _ h => h) (.inl ⟨rfl, fun w0 hw0 => ?a5⟩) hS ?_
  case a5 =>
    have g := hw0.blks; have e0 := g.1.c0; have e1 := g.1.c1; have e2 : w0.cell? ⟨w.heap.size, 2, none⟩ = some (.bool false) := g.2.1.at 2; have e3 : w0.cell? ⟨w.heap.size, 3, none⟩ = some (.slice bA bm bc) := g.2.1.at 3
    go_simp
  try simp only [Act.put, List.getElem_toArray, List.getElem_cons_zero, List.getElem_cons_succ, List.setIfInBounds_toArray, List.set_cons_zero, List.set_cons_succ]
  refine wpAnyH_take (i := 6) (v := .bool false) rfl (by kernel_rfl) (by kernel_rfl) (by kernel_rfl) (fun _ _ _ h => h) (.inl ⟨rfl, fun w0 hw0 => ?a6⟩) hS ?_
  case a6 =>
    have g := hw0.blks; have e0 := g.1.c0; have e1 := g.1.c1; have e2 : w0.cell? ⟨w.heap.size, 2, none⟩ = some (.bool false) := g.2.1.at 2; have e3 : w0.cell? ⟨w.heap.size, 3, none⟩ = some (.slice bA bm bc) := g.2.1.at 3
    go_simp
  try simp only [Act.put, List.getElem_toArray, List.getElem_cons_zero, List.getElem_cons_succ, List.setIfInBounds_toArray, List.set_cons_zero, List.set_cons_succ]
  refine wpAnyH_take (i := 7) (v := .bool false) rfl (by kernel_rfl) (by kernel_rfl) (by kernel_rfl) (fun _ _ _ h => h) (.inl ⟨rfl, fun w0 hw0 => ?a7⟩) hS ?_
  case a7 =>
    have g := hw0.blks; have e0 := g.1.c0; have e1 := g.1.c1; have e2 : w0.cell? ⟨w.heap.size, 2, none⟩ = some (.bool false) := g.2.1.at 2; have e3 : w0.cell? ⟨w.heap.size, 3, none⟩ = some (.slice bA bm bc) := g.2.1.at 3
    go_simp
  try simp only [Act.put, List.getElem_toArray, List.getElem_cons_zero, List.getElem_cons_succ, List.setIfInBounds_toArray, List.set_cons_zero, List.set_cons_succ]
  refine wpAnyH_take (i := 8) (v := .pointer (some ⟨w.heap.size, 2, none⟩)) rfl (by kernel_rfl) (by kernel_rfl) (by kernel_rfl) (fun _ _ _ h => h) (.inl ⟨rfl, fun w0 hw0 => ?a8⟩) hS ?_
  case a8 =>
    have g := hw0.blks; have e0 := g.1.c0; have e1 := g.1.c1; have e2 : w0.cell? ⟨w.heap.size, 2, none⟩ = some (.bool false) := g.2.1.at 2; have e3 : w0.cell? ⟨w.heap.size, 3, none⟩ = some (.slice bA bm bc) := g.2.1.at 3
    go_simp
  try simp only [Act.put, List.getElem_toArray, List.getElem_cons_zero, List.getElem_cons_succ, List.setIfInBounds_toArray, List.set_cons_zero, List.set_cons_succ]
  refine wpAnyH_take (i := 9) (v := .agg #[.bool false, .slice bA bm bc]) rfl (by kernel_rfl) (by kernel_rfl) (by kernel_rfl) (fun _ _ _ h => h) (.inl ⟨rfl, fun w0 hw0 => ?a9⟩) hS ?_
  case a9 =>
    have g := hw0.blks; have e0 := g.1.c0; have e1 := g.1.c1; have e2 : w0.cell? ⟨w.heap.size, 2, none⟩ = some (.bool false) := g.2.1.at 2; have e3 : w0.cell? ⟨w.heap.size, 3, none⟩ = some (.slice bA bm bc) := g.2.1.at 3
    go_simp
  try simp only [Act.put, List.getElem_toArray, List.getElem_cons_zero, List.getElem_cons_succ, List.setIfInBounds_toArray, List.set_cons_zero, List.set_cons_succ]
  clear hS
  refine wpAnyH_all (rs := [10]) (by kernel_rfl) (by simp) ?_
  intro i0 hi0
  obtain rfl : i0 = 10 := by simpa using hi0
  refine wpOp_wanted rfl rfl fun K' hK' => ?_
  go_simp
  refine (zero_calls _ false bA bm bc y E.wds.2.1).mono ?_
  rw [HZ.out]
  rintro e W2 ⟨rfl, hb2⟩
  replace E := E.below hb2
  clear hb2
  refine hK' _ _ ⟨E, ?_⟩
  clear hK' K'
  try simp only [Act.put, List.getElem_toArray, List.getElem_cons_zero, List.getElem_cons_succ, List.setIfInBounds_toArray, List.set_cons_zero, List.set_cons_succ]
  have hS := E
  refine wpAnyH_take (i := 11) (v := .bool false) rfl (by kernel_rfl) (by kernel_rfl) (by kernel_rfl) (fun _ _ _ h => h) (.inl ⟨rfl, fun w0 hw0 => ?a11⟩) hS ?_
  case a11 =>
    have g := hw0.blks; have e0 := g.1.c0; have e1 := g.1.c1; have e2 : w0.cell? ⟨w.heap.size, 2, none⟩ = some (.bool false) := g.2.1.at 2; have e3 : w0.cell? ⟨w.heap.size, 3, none⟩ = some (.slice bA bm bc) := g.2.1.at 3
    go_simp
  try simp only [Act.put, List.getElem_toArray, List.getElem_cons_zero, List.getElem_cons_succ, List.setIfInBounds_toArray, List.set_cons_zero, List.set_cons_succ]
  refine wpAnyH_take (i := 12) (v := .bool false) rfl (by kernel_rfl) (by kernel_rfl) (by kernel_rfl) (fun _ _ _ h => h) (.inl ⟨rfl, fun w0 hw0 => ?a12⟩) hS ?_
  case a12 =>
    have g := hw0.blks; have e0 := g.1.c0; have e1 := g.1.c1; have e2 : w0.cell? ⟨w.heap.size, 2, none⟩ = some (.bool false) := g.2.1.at 2; have e3 : w0.cell? ⟨w.heap.size, 3, none⟩ = some (.slice bA bm bc) := g.2.1.at 3
    go_simp
  try simp only [Act.put, List.getElem_toArray, List.getElem_cons_zero, List.getElem_cons_succ, List.setIfInBounds_toArray, List.set_cons_zero, List.set_cons_succ]
  refine wpAnyH_take (i := 13) (v := .agg #[.bool gn, .slice gA gm gc]) rfl (by kernel_rfl) (by kernel_rfl) (by kernel_rfl) (fun _ _ _ h => h) (.inl ⟨rfl, fun w0 hw0 => ?a13⟩) hS ?_
  case a13 =>
    have g := hw0.blks; have e0 := g.1.c0; have e1 := g.1.c1; have e2 : w0.cell? ⟨w.heap.size, 2, none⟩ = some (.bool false) := g.2.1.at 2; have e3 : w0.cell? ⟨w.heap.size, 3, none⟩ = some (.slice bA bm bc) := g.2.1.at 3
    go_simp
  try simp only [Act.put, List.getElem_toArray, List.getElem_cons_zero, List.getElem_cons_succ, List.setIfInBounds_toArray, List.set_cons_zero, List.set_cons_succ]
  clear hS
  refine wpAnyH_all (rs := [14]) (by kernel_rfl) (by simp) ?_
  intro i0 hi0
  obtain rfl : i0 = 14 := by simpa using hi0
  refine wpOp_wanted rfl rfl fun K' hK' => ?_
  go_simp
  refine (one_calls _).mono ?_
  rintro e W3 ⟨on, oA, om, oc, rfl, ho, hb3'⟩
  replace E := (E.below hb3').wd ho
  clear ho hb3'
  refine hK' _ _ ⟨E.dropN, ?_⟩
  clear hK' K'
  try simp only [Act.put, List.getElem_toArray, List.getElem_cons_zero, List.getElem_cons_succ, List.setIfInBounds_toArray, List.set_cons_zero, List.set_cons_succ]
  refine wpAnyH_all (rs := [15]) (by kernel_rfl) (by simp) ?_
  intro i0 hi0
  obtain rfl : i0 = 15 := by simpa using hi0
  refine wpOp_wanted rfl rfl fun K' hK' => ?_
  go_simp
  refine (same_calls _ gn on gA oA gm om gc oc 1 1 E.wds.2.1 E.wds.1).mono ?_
  rw [show decide ((1 : Int) = 1) = true from rfl]
  rintro e W4 ⟨rfl, hb4⟩
  replace E := E.dropN.below hb4
  clear hb4
  refine hK' _ _ ⟨E, ?_⟩
  clear hK' K'
  try simp only [Act.put, List.getElem_toArray, List.getElem_cons_zero, List.getElem_cons_succ, List.setIfInBounds_toArray, List.set_cons_zero, List.set_cons_succ]
  have hS := E
  refine wpAnyH_take (i := 16) (v := .bool false) rfl (by kernel_rfl) (by kernel_rfl) (by kernel_rfl) (fun _ _ _ h => h) (.inl ⟨rfl, fun w0 hw0 => ?a16⟩) hS ?_
  case a16 =>
    have g := hw0.blks; have e0 := g.1.c0; have e1 := g.1.c1; have e2 : w0.cell? ⟨w.heap.size, 2, none⟩ = some (.bool false) := g.2.1.at 2; have e3 : w0.cell? ⟨w.heap.size, 3, none⟩ = some (.slice bA bm bc) := g.2.1.at 3
    go_simp
  try simp only [Act.put, List.getElem_toArray, List.getElem_cons_zero, List.getElem_cons_succ, List.setIfInBounds_toArray, List.set_cons_zero, List.set_cons_succ]
  refine wpAnyH_take (i := 17) (v := .bool false) rfl (by kernel_rfl) (by kernel_rfl) (by kernel_rfl) (fun _ _ _ h => h) (.inl ⟨rfl, fun w0 hw0 => ?a17⟩) hS ?_
  case a17 =>
    have g := hw0.blks; have e0 := g.1.c0; have e1 := g.1.c1; have e2 : w0.cell? ⟨w.heap.size, 2, none⟩ = some (.bool false) := g.2.1.at 2; have e3 : w0.cell? ⟨w.heap.size, 3, none⟩ = some (.slice bA bm bc) := g.2.1.at 3
    go_simp
  try simp only [Act.put, List.getElem_toArray, List.getElem_cons_zero, List.getElem_cons_succ, List.setIfInBounds_toArray, List.set_cons_zero, List.set_cons_succ]
  clear hS
  refine wpAnyH_done (by kernel_rfl) ?_ _
  have HB := Lib.hid E.bel
  clear E
  go_wp2
  go_ret
  exact ⟨rfl, HB.out⟩

theorem gcd_le {x y : Int} (hy : 0 < y) : 0 < ((Int.gcd x y : Nat) : Int) ∧ ((Int.gcd x y : Nat) : Int) ≤ y := by
  have h1 : Int.gcd x y ≠ 0 := by
    intro h
    have := (Int.gcd_eq_zero_iff.1 h).2
    omega
  have h2 : ((Int.gcd x y : Nat) : Int) ∣ y := Int.gcd_dvd_right ..
  exact ⟨by omega, Int.le_of_dvd hy h2⟩
theorem quot_exact {x g q r : Int} (hg : 0 < g) (hd : g ∣ x) (h : QuotRem x g q r) : q = x / g := by
  obtain ⟨h1, h2, _⟩ := h
  have h3 := h2 hg
  obtain ⟨c, rfl⟩ := hd
  rw [Int.mul_ediv_cancel_left _ (by omega)]
  have h4 : g * (c - q) = r := by rw [Int.mul_sub]; omega
  rcases Int.lt_trichotomy (c - q) 0 with h5 | h5 | h5
  · have : g * (c - q) ≤ g * (-1) := Int.mul_le_mul_of_nonneg_left (by omega) (by omega)
    omega
  · omega
  · have : g * 1 ≤ g * (c - q) := Int.mul_le_mul_of_nonneg_left (by omega) (by omega)
    omega

set_option maxRecDepth 100000 in
set_option maxHeartbeats 400000 in
theorem reduce_calls (w : World) (an bn : Bool) (aA bA : Option Addr) (am ac bm bc : Nat) (x y : Int) (ha : WD w an aA am ac x) (hb : WD w bn bA bm bc y) (hy : 0 < y) :
    Calls Tryz.prog 112 #[.agg #[.bool an, .slice aA am ac], .agg #[.bool bn, .slice bA bm bc]] w (FracPost (x / (Int.gcd x y : Nat)) (y / (Int.gcd x y : Nat)) w) := by
  have hbn : bn = false := by
    cases bn with
    | false => rfl
    | true => have := hb.neg_iff.1 rfl; omega
  subst hbn
  have hgl := gcd_le (x := x) hy
  have hbig := hb.big
  have hfit : Num.fits ((Int.gcd x y : Nat) : Int) = true := by
    have := Num.P_pos 4096
    simp only [Num.fits, decide_eq_true_eq]
    omega
  have hf1 := Num.fit_of hfit
  have hf2 : Num.ferr ((Int.gcd x y : Nat) : Int) = 0 := by unfold Num.ferr; rw [hfit]; rfl
  have hd1 : ((Int.gcd x y : Nat) : Int) ∣ x := Int.gcd_dvd_left ..
  have hd2 : ((Int.gcd x y : Nat) : Int) ∣ y := Int.gcd_dvd_right ..
  have E := (((((Env.start w).wd ha).wd hb).alloc #[.bool an, .slice aA am ac] 78).alloc #[.bool false, .slice bA bm bc] 78).alloc #[.bool false, .slice none 0 0, .bool false, .slice none 0 0] 127
  simp only [World.size_alloc] at E
  have HE := Lib.hid E
  have CG := Lib.hid fun w' a b => Gcd_calls w' an false aA bA am bm ac bc x y a b
  unfold NumPost at CG
  rw [hf1, hf2] at CG
  clear E ha hb hbig hfit hf1 hf2 hy
  generalize ((Int.gcd x y : Nat) : Int) = g at *
  have HD := Lib.hid (And.intro hgl (And.intro hd1 hd2))
  clear hgl hd1 hd2
  go_enter Tryz.func112, Tryz.ntmps112
  go_wp2_with fail
  go_at_call 136
  refine (CG.out _ HE.out.wds.2.1 HE.out.wds.1).mono ?_
  rintro e W1 ⟨_, rfl, ⟨gn, gA, gm, gc, rfl, hg⟩, hb1⟩
  replace HE := Lib.hid ((HE.out.below hb1).wd hg)
  clear hg hb1 CG
  go_wp2_with fail
  go_at_call 115
  refine (must0 _ gn gA gm gc g HE.out.wds.1).mono ?_
  rintro e W2 ⟨hn, hA, hm, hc, rfl, hh, hb2⟩
  replace HE := Lib.hid ((HE.out.below hb2).wd hh)
  clear hh hb2
  have e0 : W2.cell? ⟨w.heap.size + 1, 0, none⟩ = some (.bool false) := HE.out.blks.2.1.at 0
  have e1 : W2.cell? ⟨w.heap.size + 1, 1, none⟩ = some (.slice bA bm bc) := HE.out.blks.2.1.at 1
  have e2 : W2.cell? ⟨w.heap.size, 0, none⟩ = some (.bool an) := HE.out.blks.2.2.1.at 0
  have e3 : W2.cell? ⟨w.heap.size, 1, none⟩ = some (.slice aA am ac) := HE.out.blks.2.2.1.at 1
  have l1 : w.heap.size + 1 < W2.heap.size := HE.out.blks.2.1.lt
  have l2 : w.heap.size < W2.heap.size := HE.out.blks.2.2.1.lt
  go_wp2_with fail
  go_at_call 100
  have E3 := HE.out.alloc #[.bool hn, .slice hA hm hc] 78
  clear HE e0 e1 e2 e3
  refine (DivMod_calls _ an hn aA hA am hm ac hc x g E3.wds.2.2.2.1 E3.wds.1 (by have := HD.out.1.1; omega)).mono ?_
  rintro e W3 ⟨q1, r1, n1, A1, m1, c1, n2, A2, m2, c2, rfl, hq, hr, hqr, hb3⟩
  have hq1 := quot_exact HD.out.1.1 HD.out.2.1 hqr
  rw [hq1] at hq
  replace E3 := (E3.below hb3).wd hq
  generalize W2.heap.size = b5 at *
  have HE := Lib.hid E3
  clear hb3 hq hr hqr hq1 E3
  have e0 : W3.cell? ⟨w.heap.size + 1, 0, none⟩ = some (.bool false) := HE.out.blks.2.2.1.at 0
  have e1 : W3.cell? ⟨w.heap.size + 1, 1, none⟩ = some (.slice bA bm bc) := HE.out.blks.2.2.1.at 1
  have e2 : W3.cell? ⟨b5, 0, none⟩ = some (.bool hn) := HE.out.blks.1.at 0
  have e3 : W3.cell? ⟨b5, 1, none⟩ = some (.slice hA hm hc) := HE.out.blks.1.at 1
  have l3 : w.heap.size + 1 < W3.heap.size := HE.out.blks.2.2.1.lt
  have l4 : b5 < W3.heap.size := HE.out.blks.1.lt
  have l5 : w.heap.size + 1 < W3.heap.size + 1 := by omega
  have l6 : b5 < W3.heap.size + 1 := by omega
  go_wp2_with fail
  go_at_call 100
  have E4 := (HE.out.alloc #[.bool n1, .slice A1 m1 c1] 78).alloc #[.bool n2, .slice A2 m2 c2] 78
  simp only [World.size_alloc] at E4
  clear HE e0 e1 e2 e3
  refine (DivMod_calls _ false hn bA hA bm hm bc hc y g E4.wds.2.2.2.1 E4.wds.2.1 (by have := HD.out.1.1; omega)).mono ?_
  rintro e W4 ⟨q2, r2, n3, A3, m3, c3, n4, A4, m4, c4, rfl, hq, hr, hqr, hb4⟩
  have hq1 := quot_exact HD.out.1.1 HD.out.2.2 hqr
  rw [hq1] at hq
  replace E4 := (E4.below hb4).wd hq
  generalize W3.heap.size = b6 at *
  have HE := Lib.hid E4
  clear hb4 hq hr hqr hq1 E4
  have e0 : W4.cell? ⟨b6, 0, none⟩ = some (.bool n1) := HE.out.blks.2.1.at 0
  have e1 : W4.cell? ⟨b6, 1, none⟩ = some (.slice A1 m1 c1) := HE.out.blks.2.1.at 1
  have f0 : W4.cell? ⟨w.heap.size + 1 + 1, 0, none⟩ = some (.bool false) := HE.out.blks.2.2.2.1.at 0
  have f1 : W4.cell? ⟨w.heap.size + 1 + 1, 1, none⟩ = some (.slice none 0 0) := HE.out.blks.2.2.2.1.at 1
  have f2 : W4.cell? ⟨w.heap.size + 1 + 1, 2, none⟩ = some (.bool false) := HE.out.blks.2.2.2.1.at 2
  have f3 : W4.cell? ⟨w.heap.size + 1 + 1, 3, none⟩ = some (.slice none 0 0) := HE.out.blks.2.2.2.1.at 3
  have g0 := HE.out.blks.2.2.2.1.fr 0
  have g1 := HE.out.blks.2.2.2.1.fr 1
  have g2 := HE.out.blks.2.2.2.1.fr 2
  have g3 := HE.out.blks.2.2.2.1.fr 3
  have k1 : b6 < W4.heap.size := HE.out.blks.2.1.lt
  have k2 : w.heap.size + 1 + 1 < W4.heap.size := HE.out.blks.2.2.2.1.lt
  have k3 : b6 < W4.heap.size + 1 := by omega
  have k4 : w.heap.size + 1 + 1 < W4.heap.size + 1 := by omega
  go_wp2
  have E5 : Env w [(w.heap.size + 1 + 1, #[.bool false, .slice none 0 0, .bool false, .slice none 0 0], 127)] [(n3, A3, m3, c3, y / g), (n1, A1, m1, c1, x / g)] W4 := by
    obtain ⟨⟨_, _, _, g4, _⟩, ⟨h1, h2, _⟩, hl⟩ := HE.out
    exact ⟨⟨g4, trivial⟩, ⟨h1, h2, trivial⟩, hl⟩
  have E := (((((E5.setY (by omega) trivial rfl 0 (.bool n1)).setY (by omega) trivial rfl 1 (.slice A1 m1 c1)).setY (by omega) trivial rfl 2 (.bool n3)).setY (by omega) trivial rfl 3 (.slice A3 m3 c3)).alloc #[.bool n3, .slice A3 m3 c3] 78).alloc #[.bool n4, .slice A4 m4 c4] 78
  have r0 : _ = some (Value.bool n1) := E.blks.2.2.1.at 0
  have r1 : _ = some (Value.slice A1 m1 c1) := E.blks.2.2.1.at 1
  have r2 : _ = some (Value.bool n3) := E.blks.2.2.1.at 2
  have r3 : _ = some (Value.slice A3 m3 c3) := E.blks.2.2.1.at 3
  refine bodyPost_ret (v := .agg #[.bool n1, .slice A1 m1 c1, .bool n3, .slice A3 m3 c3]) (by simp [results, Tryz.results112, go_sem, r0, r1, r2, r3]) rfl ?_
  exact ⟨n1, A1, m1, c1, n3, A3, m3, c3, rfl, E.wds.2.1, E.wds.1, E.bel⟩

end Go.Proofs.YtilaheplclaokaaGreat
namespace Go.Proofs.YtilaheplclaokaaGreat
open Go.RowKit Go.Shelf
attribute [local go_sem] Oper.semAt_some

/-- A number and no error. -/
def NumOk (x : Int) (w : World) (e : Ending) (w' : World) : Prop := ∃ n A m c, e = .returned (.tuple #[.agg #[.bool n, .slice A m c], .int .i64 0]) ∧ WD w' n A m c x ∧ Below w.heap.size w w'
theorem num_ok {x : Int} (h : Num.fits x = true) {w : World} {e : Ending} {w' : World} (hp : NumPost x w e w') : NumOk x w e w' := by
  obtain ⟨_, rfl, ⟨n, A, m, c, rfl, hw⟩, hb⟩ := hp
  have h1 := Num.fit_of h
  have h2 : Num.ferr x = 0 := by unfold Num.ferr; rw [h]; rfl
  rw [h1] at hw
  rw [h2]
  exact ⟨n, A, m, c, rfl, hw, hb⟩

set_option maxRecDepth 100000 in
set_option maxHeartbeats 1000000 in
theorem cross_calls (w : World) (an abn : Bool) (aA abA : Option Addr) (am ac abm abc : Nat) (bn bbn : Bool) (bA bbA : Option Addr) (bm bc bbm bbc : Nat) (x1 y2 : Int) (ha : WD w an aA am ac x1) (hb : WD w bbn bbA bbm bbc y2) (hf : Num.fits (x1 * y2) = true) :
    Calls Tryz.prog 116 #[.agg #[.bool an, .slice aA am ac, .bool abn, .slice abA abm abc], .agg #[.bool bn, .slice bA bm bc, .bool bbn, .slice bbA bbm bbc]] w (WidPost (x1 * y2) w) := by
  have E := (((((Env.start w).wd ha).wd hb).alloc #[.bool an, .slice aA am ac, .bool abn, .slice abA abm abc] 127).alloc #[.bool bn, .slice bA bm bc, .bool bbn, .slice bbA bbm bbc] 127).alloc #[.bool false, .slice none 0 0] 78
  simp only [World.size_alloc] at E
  have HE := Lib.hid E
  have CM := Lib.hid fun w' p q => (Mul_calls w' an bbn aA bbA am bbm ac bbc x1 y2 p q).mono fun e w2 h => num_ok hf h
  clear E ha hb hf
  go_enter Tryz.func116, Tryz.ntmps116
  go_wp2_with fail
  go_at_call 77
  refine (CM.out _ HE.out.wds.2.1 HE.out.wds.1).mono ?_
  rintro e W1 ⟨n1, A1, m1, c1, rfl, h1, hb1⟩
  replace HE := Lib.hid ((HE.out.below hb1).wd h1)
  clear hb1 h1 CM
  go_wp2_with fail
  go_at_call 115
  refine (must0 _ n1 A1 m1 c1 (x1 * y2) HE.out.wds.1).mono ?_
  rintro e W2 ⟨n2, A2, m2, c2, rfl, h2, hb2⟩
  replace HE := Lib.hid ((HE.out.below hb2).wd h2)
  clear hb2 h2
  have f0 : W2.cell? ⟨w.heap.size + 1 + 1, 0, none⟩ = some (.bool false) := HE.out.blks.1.at 0
  have f1 : W2.cell? ⟨w.heap.size + 1 + 1, 1, none⟩ = some (.slice none 0 0) := HE.out.blks.1.at 1
  have g0 := HE.out.blks.1.fr 0
  have g1 := HE.out.blks.1.fr 1
  go_wp2
  have E := HE.out.set2 (by omega) (by simp [Free] <;> omega) (.bool n2) (.slice A2 m2 c2)
  have r0 : _ = some (Value.bool n2) := E.blks.1.at 0
  have r1 : _ = some (Value.slice A2 m2 c2) := E.blks.1.at 1
  refine bodyPost_ret (v := .agg #[.bool n2, .slice A2 m2 c2]) (by simp [results, Tryz.results116, go_sem, r0, r1]) rfl ?_
  exact ⟨n2, A2, m2, c2, rfl, E.wds.1, E.bel⟩

/-- Two numbers. -/
def TwoPost (x y : Int) (w : World) (e : Ending) (w' : World) : Prop := ∃ an aA am ac bn bA bm bc, e = .returned (.tuple #[.agg #[.bool an, .slice aA am ac], .agg #[.bool bn, .slice bA bm bc]]) ∧ WD w' an aA am ac x ∧ WD w' bn bA bm bc y ∧ Below w.heap.size w w'

set_option maxRecDepth 100000 in
set_option maxHeartbeats 2000000 in
theorem addFn_calls (w : World) (an abn : Bool) (aA abA : Option Addr) (am ac abm abc : Nat) (bn bbn : Bool) (bA bbA : Option Addr) (bm bc bbm bbc : Nat) (x1 y1 x2 y2 : Int) (h1 : WD w an aA am ac x1) (h2 : WD w abn abA abm abc y1) (h3 : WD w bn bA bm bc x2) (h4 : WD w bbn bbA bbm bbc y2) (hf1 : Num.fits (x1 * y2) = true) (hf2 : Num.fits (x2 * y1) = true) (hf3 : Num.fits (x1 * y2 + x2 * y1) = true) (hf4 : Num.fits (y1 * y2) = true) :
    Calls Tryz.prog 114 #[.agg #[.bool an, .slice aA am ac, .bool abn, .slice abA abm abc], .agg #[.bool bn, .slice bA bm bc, .bool bbn, .slice bbA bbm bbc]] w (TwoPost (x1 * y2 + x2 * y1) (y1 * y2) w) := by
  have E := ((((((((Env.start w).wd h1).wd h2).wd h3).wd h4).alloc #[.bool an, .slice aA am ac, .bool abn, .slice abA abm abc] 127).alloc #[.bool bn, .slice bA bm bc, .bool bbn, .slice bbA bbm bbc] 127).alloc #[.bool false, .slice none 0 0] 78).alloc #[.bool false, .slice none 0 0] 78
  simp only [World.size_alloc] at E
  have HE := Lib.hid E
  have C1 := Lib.hid fun w' p q => cross_calls w' an abn aA abA am ac abm abc bn bbn bA bbA bm bc bbm bbc x1 y2 p q hf1
  have C2 := Lib.hid fun w' p q => cross_calls w' bn bbn bA bbA bm bc bbm bbc an abn aA abA am ac abm abc x2 y1 p q hf2
  have CM := Lib.hid fun w' p q => (Mul_calls w' abn bbn abA bbA abm bbm abc bbc y1 y2 p q).mono fun e w2 h => num_ok hf4 h
  have CA := Lib.hid fun w' n A m c n' A' m' c' p q => (Add_calls w' n n' A A' m m' c c' (x1 * y2) (x2 * y1) p q).mono fun e w2 h => num_ok hf3 h
  clear E h1 h2 h3 h4 hf1 hf2 hf3 hf4
  go_enter Tryz.func114, Tryz.ntmps114
  go_wp2_with fail
  refine region_start (S := fun W' => Blk W' w.heap.size #[.bool an, .slice aA am ac, .bool abn, .slice abA abm abc] 127 ∧ Blk W' (w.heap.size + 1) #[.bool bn, .slice bA bm bc, .bool bbn, .slice bbA bbm bbc] 127) (by kernel_rfl) ?_
  intro W hW
  have E := HE.out.drew
  rw [← hW] at E
  clear hW HE
  have hS := And.intro E.blks.2.2.2.1 E.blks.2.2.1
  refine wpAnyH_take (i := 0) (v := .agg #[.bool an, .slice aA am ac, .bool abn, .slice abA abm abc]) rfl (by kernel_rfl) (by kernel_rfl) (by kernel_rfl) (fun _ _ _ h => h) (.inl ⟨rfl, fun w0 hw0 => ?a0⟩) hS ?_
  case a0 =>
    obtain ⟨ga, gb⟩ := hw0; have e0 : w0.cell? ⟨w.heap.size, 0, none⟩ = some (.bool an) := ga.at 0; have e1 : w0.cell? ⟨w.heap.size, 1, none⟩ = some (.slice aA am ac) := ga.at 1; have e2 : w0.cell? ⟨w.heap.size, 2, none⟩ = some (.bool abn) := ga.at 2; have e3 : w0.cell? ⟨w.heap.size, 3, none⟩ = some (.slice abA abm abc) := ga.at 3; have e4 : w0.cell? ⟨w.heap.size + 1, 0, none⟩ = some (.bool bn) := gb.at 0; have e5 : w0.cell? ⟨w.heap.size + 1, 1, none⟩ = some (.slice bA bm bc) := gb.at 1; have e6 : w0.cell? ⟨w.heap.size + 1, 2, none⟩ = some (.bool bbn) := gb.at 2; have e7 : w0.cell? ⟨w.heap.size + 1, 3, none⟩ = some (.slice bbA bbm bbc) := gb.at 3
    go_simp
  refine wpAnyH_take (i := 1) (v := .agg #[.bool bn, .slice bA bm bc, .bool bbn, .slice bbA bbm bbc]) rfl (by kernel_rfl) (by kernel_rfl) (by kernel_rfl) (fun _ _ _ h => h) (.inl ⟨rfl, fun w0 hw0 => ?a1⟩) hS ?_
  case a1 =>
    obtain ⟨ga, gb⟩ := hw0; have e0 : w0.cell? ⟨w.heap.size, 0, none⟩ = some (.bool an) := ga.at 0; have e1 : w0.cell? ⟨w.heap.size, 1, none⟩ = some (.slice aA am ac) := ga.at 1; have e2 : w0.cell? ⟨w.heap.size, 2, none⟩ = some (.bool abn) := ga.at 2; have e3 : w0.cell? ⟨w.heap.size, 3, none⟩ = some (.slice abA abm abc) := ga.at 3; have e4 : w0.cell? ⟨w.heap.size + 1, 0, none⟩ = some (.bool bn) := gb.at 0; have e5 : w0.cell? ⟨w.heap.size + 1, 1, none⟩ = some (.slice bA bm bc) := gb.at 1; have e6 : w0.cell? ⟨w.heap.size + 1, 2, none⟩ = some (.bool bbn) := gb.at 2; have e7 : w0.cell? ⟨w.heap.size + 1, 3, none⟩ = some (.slice bbA bbm bbc) := gb.at 3
    go_simp
  refine wpAnyH_take (i := 3) (v := .agg #[.bool bn, .slice bA bm bc, .bool bbn, .slice bbA bbm bbc]) rfl (by kernel_rfl) (by kernel_rfl) (by kernel_rfl) (fun _ _ _ h => h) (.inl ⟨rfl, fun w0 hw0 => ?a3⟩) hS ?_
  case a3 =>
    obtain ⟨ga, gb⟩ := hw0; have e0 : w0.cell? ⟨w.heap.size, 0, none⟩ = some (.bool an) := ga.at 0; have e1 : w0.cell? ⟨w.heap.size, 1, none⟩ = some (.slice aA am ac) := ga.at 1; have e2 : w0.cell? ⟨w.heap.size, 2, none⟩ = some (.bool abn) := ga.at 2; have e3 : w0.cell? ⟨w.heap.size, 3, none⟩ = some (.slice abA abm abc) := ga.at 3; have e4 : w0.cell? ⟨w.heap.size + 1, 0, none⟩ = some (.bool bn) := gb.at 0; have e5 : w0.cell? ⟨w.heap.size + 1, 1, none⟩ = some (.slice bA bm bc) := gb.at 1; have e6 : w0.cell? ⟨w.heap.size + 1, 2, none⟩ = some (.bool bbn) := gb.at 2; have e7 : w0.cell? ⟨w.heap.size + 1, 3, none⟩ = some (.slice bbA bbm bbc) := gb.at 3
    go_simp
  refine wpAnyH_take (i := 4) (v := .agg #[.bool an, .slice aA am ac, .bool abn, .slice abA abm abc]) rfl (by kernel_rfl) (by kernel_rfl) (by kernel_rfl) (fun _ _ _ h => h) (.inl ⟨rfl, fun w0 hw0 => ?a4⟩) hS ?_
  case a4 =>
    obtain ⟨ga, gb⟩ := hw0; have e0 : w0.cell? ⟨w.heap.size, 0, none⟩ = some (.bool an) := ga.at 0; have e1 : w0.cell? ⟨w.heap.size, 1, none⟩ = some (.slice aA am ac) := ga.at 1; have e2 : w0.cell? ⟨w.heap.size, 2, none⟩ = some (.bool abn) := ga.at 2; have e3 : w0.cell? ⟨w.heap.size, 3, none⟩ = some (.slice abA abm abc) := ga.at 3; have e4 : w0.cell? ⟨w.heap.size + 1, 0, none⟩ = some (.bool bn) := gb.at 0; have e5 : w0.cell? ⟨w.heap.size + 1, 1, none⟩ = some (.slice bA bm bc) := gb.at 1; have e6 : w0.cell? ⟨w.heap.size + 1, 2, none⟩ = some (.bool bbn) := gb.at 2; have e7 : w0.cell? ⟨w.heap.size + 1, 3, none⟩ = some (.slice bbA bbm bbc) := gb.at 3
    go_simp
  refine wpAnyH_take (i := 10) (v := .pointer (some ⟨w.heap.size, 2, none⟩)) rfl (by kernel_rfl) (by kernel_rfl) (by kernel_rfl) (fun _ _ _ h => h) (.inl ⟨rfl, fun w0 hw0 => ?a10⟩) hS ?_
  case a10 =>
    obtain ⟨ga, gb⟩ := hw0; have e0 : w0.cell? ⟨w.heap.size, 0, none⟩ = some (.bool an) := ga.at 0; have e1 : w0.cell? ⟨w.heap.size, 1, none⟩ = some (.slice aA am ac) := ga.at 1; have e2 : w0.cell? ⟨w.heap.size, 2, none⟩ = some (.bool abn) := ga.at 2; have e3 : w0.cell? ⟨w.heap.size, 3, none⟩ = some (.slice abA abm abc) := ga.at 3; have e4 : w0.cell? ⟨w.heap.size + 1, 0, none⟩ = some (.bool bn) := gb.at 0; have e5 : w0.cell? ⟨w.heap.size + 1, 1, none⟩ = some (.slice bA bm bc) := gb.at 1; have e6 : w0.cell? ⟨w.heap.size + 1, 2, none⟩ = some (.bool bbn) := gb.at 2; have e7 : w0.cell? ⟨w.heap.size + 1, 3, none⟩ = some (.slice bbA bbm bbc) := gb.at 3
    go_simp
  refine wpAnyH_take (i := 11) (v := .agg #[.bool abn, .slice abA abm abc]) rfl (by kernel_rfl) (by kernel_rfl) (by kernel_rfl) (fun _ _ _ h => h) (.inl ⟨rfl, fun w0 hw0 => ?a11⟩) hS ?_
  case a11 =>
    obtain ⟨ga, gb⟩ := hw0; have e0 : w0.cell? ⟨w.heap.size, 0, none⟩ = some (.bool an) := ga.at 0; have e1 : w0.cell? ⟨w.heap.size, 1, none⟩ = some (.slice aA am ac) := ga.at 1; have e2 : w0.cell? ⟨w.heap.size, 2, none⟩ = some (.bool abn) := ga.at 2; have e3 : w0.cell? ⟨w.heap.size, 3, none⟩ = some (.slice abA abm abc) := ga.at 3; have e4 : w0.cell? ⟨w.heap.size + 1, 0, none⟩ = some (.bool bn) := gb.at 0; have e5 : w0.cell? ⟨w.heap.size + 1, 1, none⟩ = some (.slice bA bm bc) := gb.at 1; have e6 : w0.cell? ⟨w.heap.size + 1, 2, none⟩ = some (.bool bbn) := gb.at 2; have e7 : w0.cell? ⟨w.heap.size + 1, 3, none⟩ = some (.slice bbA bbm bbc) := gb.at 3
    go_simp
  refine wpAnyH_take (i := 12) (v := .pointer (some ⟨w.heap.size + 1, 2, none⟩)) rfl (by kernel_rfl) (by kernel_rfl) (by kernel_rfl) (fun _ _ _ h => h) (.inl ⟨rfl, fun w0 hw0 => ?a12⟩) hS ?_
  case a12 =>
    obtain ⟨ga, gb⟩ := hw0; have e0 : w0.cell? ⟨w.heap.size, 0, none⟩ = some (.bool an) := ga.at 0; have e1 : w0.cell? ⟨w.heap.size, 1, none⟩ = some (.slice aA am ac) := ga.at 1; have e2 : w0.cell? ⟨w.heap.size, 2, none⟩ = some (.bool abn) := ga.at 2; have e3 : w0.cell? ⟨w.heap.size, 3, none⟩ = some (.slice abA abm abc) := ga.at 3; have e4 : w0.cell? ⟨w.heap.size + 1, 0, none⟩ = some (.bool bn) := gb.at 0; have e5 : w0.cell? ⟨w.heap.size + 1, 1, none⟩ = some (.slice bA bm bc) := gb.at 1; have e6 : w0.cell? ⟨w.heap.size + 1, 2, none⟩ = some (.bool bbn) := gb.at 2; have e7 : w0.cell? ⟨w.heap.size + 1, 3, none⟩ = some (.slice bbA bbm bbc) := gb.at 3
    go_simp
  refine wpAnyH_take (i := 13) (v := .agg #[.bool bbn, .slice bbA bbm bbc]) rfl (by kernel_rfl) (by kernel_rfl) (by kernel_rfl) (fun _ _ _ h => h) (.inl ⟨rfl, fun w0 hw0 => ?a13⟩) hS ?_
  case a13 =>
    obtain ⟨ga, gb⟩ := hw0; have e0 : w0.cell? ⟨w.heap.size, 0, none⟩ = some (.bool an) := ga.at 0; have e1 : w0.cell? ⟨w.heap.size, 1, none⟩ = some (.slice aA am ac) := ga.at 1; have e2 : w0.cell? ⟨w.heap.size, 2, none⟩ = some (.bool abn) := ga.at 2; have e3 : w0.cell? ⟨w.heap.size, 3, none⟩ = some (.slice abA abm abc) := ga.at 3; have e4 : w0.cell? ⟨w.heap.size + 1, 0, none⟩ = some (.bool bn) := gb.at 0; have e5 : w0.cell? ⟨w.heap.size + 1, 1, none⟩ = some (.slice bA bm bc) := gb.at 1; have e6 : w0.cell? ⟨w.heap.size + 1, 2, none⟩ = some (.bool bbn) := gb.at 2; have e7 : w0.cell? ⟨w.heap.size + 1, 3, none⟩ = some (.slice bbA bbm bbc) := gb.at 3
    go_simp
  clear hS
  refine wpAnyH_all (rs := [2]) (by kernel_rfl) (by simp) ?_
  intro i0 hi0
  obtain rfl : i0 = 2 := by simpa using hi0
  refine wpOp_plain rfl rfl fun K' hK' => ?_
  go_simp
  refine (C1.out _ E.wds.2.2.2.1 E.wds.1).mono ?_
  rintro e W2 ⟨pn, pA, pm, pc, rfl, hp, hb2⟩
  replace E := (E.below hb2).wd hp
  clear hp hb2
  refine hK' _ _ ⟨⟨E.blks.2.2.2.1, E.blks.2.2.1⟩, ?_⟩
  clear hK' K'
  refine wpAnyH_all (rs := [5]) (by kernel_rfl) (by simp) ?_
  intro i0 hi0
  obtain rfl : i0 = 5 := by simpa using hi0
  refine wpOp_plain rfl rfl fun K' hK' => ?_
  go_simp
  refine (C2.out _ E.wds.2.2.1 E.wds.2.2.2.1).mono ?_
  rintro e W3 ⟨qn, qA, qm, qc, rfl, hq, hb3⟩
  replace E := (E.below hb3).wd hq
  clear hq hb3
  refine hK' _ _ ⟨⟨E.blks.2.2.2.1, E.blks.2.2.1⟩, ?_⟩
  clear hK' K'
  refine wpAnyH_all (rs := [6]) (by kernel_rfl) (by simp) ?_
  intro i0 hi0
  obtain rfl : i0 = 6 := by simpa using hi0
  refine wpOp_plain rfl rfl fun K' hK' => ?_
  go_simp
  refine (CA.out _ pn pA pm pc qn qA qm qc E.wds.2.1 E.wds.1).mono ?_
  rintro e W4 ⟨rn, rA, rm, rc, rfl, hr, hb4⟩
  replace E := (E.below hb4).wd hr
  clear hr hb4
  refine hK' _ _ ⟨⟨E.blks.2.2.2.1, E.blks.2.2.1⟩, ?_⟩
  clear hK' K'
  have hS := And.intro E.blks.2.2.2.1 E.blks.2.2.1
  refine wpAnyH_take (i := 7) (v := .agg #[.bool rn, .slice rA rm rc]) rfl (by kernel_rfl) (by kernel_rfl) (by kernel_rfl) (fun _ _ _ h => h) (.inl ⟨rfl, fun w0 hw0 => ?a7⟩) hS ?_
  case a7 =>
    obtain ⟨ga, gb⟩ := hw0; have e0 : w0.cell? ⟨w.heap.size, 0, none⟩ = some (.bool an) := ga.at 0; have e1 : w0.cell? ⟨w.heap.size, 1, none⟩ = some (.slice aA am ac) := ga.at 1; have e2 : w0.cell? ⟨w.heap.size, 2, none⟩ = some (.bool abn) := ga.at 2; have e3 : w0.cell? ⟨w.heap.size, 3, none⟩ = some (.slice abA abm abc) := ga.at 3; have e4 : w0.cell? ⟨w.heap.size + 1, 0, none⟩ = some (.bool bn) := gb.at 0; have e5 : w0.cell? ⟨w.heap.size + 1, 1, none⟩ = some (.slice bA bm bc) := gb.at 1; have e6 : w0.cell? ⟨w.heap.size + 1, 2, none⟩ = some (.bool bbn) := gb.at 2; have e7 : w0.cell? ⟨w.heap.size + 1, 3, none⟩ = some (.slice bbA bbm bbc) := gb.at 3
    go_simp
  refine wpAnyH_take (i := 8) (v := .int .i64 0) rfl (by kernel_rfl) (by kernel_rfl) (by kernel_rfl) (fun _ _ _ h => h) (.inl ⟨rfl, fun w0 hw0 => ?a8⟩) hS ?_
  case a8 =>
    obtain ⟨ga, gb⟩ := hw0; have e0 : w0.cell? ⟨w.heap.size, 0, none⟩ = some (.bool an) := ga.at 0; have e1 : w0.cell? ⟨w.heap.size, 1, none⟩ = some (.slice aA am ac) := ga.at 1; have e2 : w0.cell? ⟨w.heap.size, 2, none⟩ = some (.bool abn) := ga.at 2; have e3 : w0.cell? ⟨w.heap.size, 3, none⟩ = some (.slice abA abm abc) := ga.at 3; have e4 : w0.cell? ⟨w.heap.size + 1, 0, none⟩ = some (.bool bn) := gb.at 0; have e5 : w0.cell? ⟨w.heap.size + 1, 1, none⟩ = some (.slice bA bm bc) := gb.at 1; have e6 : w0.cell? ⟨w.heap.size + 1, 2, none⟩ = some (.bool bbn) := gb.at 2; have e7 : w0.cell? ⟨w.heap.size + 1, 3, none⟩ = some (.slice bbA bbm bbc) := gb.at 3
    go_simp
  clear hS
  refine wpAnyH_all (rs := [9]) (by kernel_rfl) (by simp) ?_
  intro i0 hi0
  obtain rfl : i0 = 9 := by simpa using hi0
  refine wpOp_plain rfl rfl fun K' hK' => ?_
  go_simp
  refine (must0 _ rn rA rm rc (x1 * y2 + x2 * y1) E.wds.1).mono ?_
  rintro e W5 ⟨sn, sA, sm, sc, rfl, hs, hb5⟩
  replace E := (E.below hb5).wd hs
  clear hs hb5
  refine hK' _ _ ⟨⟨E.blks.2.2.2.1, E.blks.2.2.1⟩, ?_⟩
  clear hK' K'
  refine wpAnyH_all (rs := [14]) (by kernel_rfl) (by simp) ?_
  intro i0 hi0
  obtain rfl : i0 = 14 := by simpa using hi0
  refine wpOp_plain rfl rfl fun K' hK' => ?_
  go_simp
  refine (CM.out _ E.wds.2.2.2.2.2.2.1 E.wds.2.2.2.2.1).mono ?_
  rintro e W6 ⟨tn, tA, tm, tc, rfl, ht, hb6⟩
  replace E := (E.below hb6).wd ht
  clear ht hb6
  refine hK' _ _ ⟨⟨E.blks.2.2.2.1, E.blks.2.2.1⟩, ?_⟩
  clear hK' K'
  have hS := And.intro E.blks.2.2.2.1 E.blks.2.2.1
  refine wpAnyH_take (i := 15) (v := .agg #[.bool tn, .slice tA tm tc]) rfl (by kernel_rfl) (by kernel_rfl) (by kernel_rfl) (fun _ _ _ h => h) (.inl ⟨rfl, fun w0 hw0 => ?a15⟩) hS ?_
  case a15 =>
    obtain ⟨ga, gb⟩ := hw0; have e0 : w0.cell? ⟨w.heap.size, 0, none⟩ = some (.bool an) := ga.at 0; have e1 : w0.cell? ⟨w.heap.size, 1, none⟩ = some (.slice aA am ac) := ga.at 1; have e2 : w0.cell? ⟨w.heap.size, 2, none⟩ = some (.bool abn) := ga.at 2; have e3 : w0.cell? ⟨w.heap.size, 3, none⟩ = some (.slice abA abm abc) := ga.at 3; have e4 : w0.cell? ⟨w.heap.size + 1, 0, none⟩ = some (.bool bn) := gb.at 0; have e5 : w0.cell? ⟨w.heap.size + 1, 1, none⟩ = some (.slice bA bm bc) := gb.at 1; have e6 : w0.cell? ⟨w.heap.size + 1, 2, none⟩ = some (.bool bbn) := gb.at 2; have e7 : w0.cell? ⟨w.heap.size + 1, 3, none⟩ = some (.slice bbA bbm bbc) := gb.at 3
    go_simp
  refine wpAnyH_take (i := 16) (v := .int .i64 0) rfl (by kernel_rfl) (by kernel_rfl) (by kernel_rfl) (fun _ _ _ h => h) (.inl ⟨rfl, fun w0 hw0 => ?a16⟩) hS ?_
  case a16 =>
    obtain ⟨ga, gb⟩ := hw0; have e0 : w0.cell? ⟨w.heap.size, 0, none⟩ = some (.bool an) := ga.at 0; have e1 : w0.cell? ⟨w.heap.size, 1, none⟩ = some (.slice aA am ac) := ga.at 1; have e2 : w0.cell? ⟨w.heap.size, 2, none⟩ = some (.bool abn) := ga.at 2; have e3 : w0.cell? ⟨w.heap.size, 3, none⟩ = some (.slice abA abm abc) := ga.at 3; have e4 : w0.cell? ⟨w.heap.size + 1, 0, none⟩ = some (.bool bn) := gb.at 0; have e5 : w0.cell? ⟨w.heap.size + 1, 1, none⟩ = some (.slice bA bm bc) := gb.at 1; have e6 : w0.cell? ⟨w.heap.size + 1, 2, none⟩ = some (.bool bbn) := gb.at 2; have e7 : w0.cell? ⟨w.heap.size + 1, 3, none⟩ = some (.slice bbA bbm bbc) := gb.at 3
    go_simp
  clear hS
  refine wpAnyH_all (rs := [17]) (by kernel_rfl) (by simp) ?_
  intro i0 hi0
  obtain rfl : i0 = 17 := by simpa using hi0
  refine wpOp_plain rfl rfl fun K' hK' => ?_
  go_simp
  refine (must0 _ tn tA tm tc (y1 * y2) E.wds.1).mono ?_
  rintro e W7 ⟨un, uA, um, uc, rfl, hu, hb7⟩
  replace E := (E.below hb7).wd hu
  clear hu hb7
  refine hK' _ _ ⟨⟨E.blks.2.2.2.1, E.blks.2.2.1⟩, ?_⟩
  clear hK' K'
  have f0 : W7.cell? ⟨w.heap.size + 1 + 1, 0, none⟩ = some (.bool false) := E.blks.2.1.at 0
  have f1 : W7.cell? ⟨w.heap.size + 1 + 1, 1, none⟩ = some (.slice none 0 0) := E.blks.2.1.at 1
  have g0 := E.blks.2.1.fr 0
  have g1 := E.blks.2.1.fr 1
  refine wpAnyH_all (rs := [18]) (by kernel_rfl) (by simp) ?_
  intro i0 hi0
  obtain rfl : i0 = 18 := by simpa using hi0
  refine wpOp_plain rfl rfl fun K' hK' => ?_
  go_simp
  replace E := (E.swap.set2 (by omega) (by simp [Free] <;> omega) (.bool sn) (.slice sA sm sc)).swap
  clear f0 f1 g0 g1
  generalize (W7.setCell ⟨w.heap.size + 1 + 1, 0, none⟩ (.bool sn)).setCell ⟨w.heap.size + 1 + 1, 1, none⟩ (.slice sA sm sc) = W8 at *
  refine hK' _ _ ⟨⟨E.blks.2.2.2.1, E.blks.2.2.1⟩, ?_⟩
  clear hK' K'
  have f0 : W8.cell? ⟨w.heap.size + 1 + 1 + 1, 0, none⟩ = some (.bool false) := E.blks.1.at 0
  have f1 : W8.cell? ⟨w.heap.size + 1 + 1 + 1, 1, none⟩ = some (.slice none 0 0) := E.blks.1.at 1
  have g0 := E.blks.1.fr 0
  have g1 := E.blks.1.fr 1
  refine wpAnyH_all (rs := [19]) (by kernel_rfl) (by simp) ?_
  intro i0 hi0
  obtain rfl : i0 = 19 := by simpa using hi0
  refine wpOp_plain rfl rfl fun K' hK' => ?_
  go_simp
  replace E := E.set2 (by omega) (by simp [Free] <;> omega) (.bool un) (.slice uA um uc)
  clear f0 f1 g0 g1
  generalize (W8.setCell ⟨w.heap.size + 1 + 1 + 1, 0, none⟩ (.bool un)).setCell ⟨w.heap.size + 1 + 1 + 1, 1, none⟩ (.slice uA um uc) = W9 at *
  refine hK' _ _ ⟨⟨E.blks.2.2.2.1, E.blks.2.2.1⟩, wpAnyH_done (by kernel_rfl) ?_ _⟩
  clear hK' K'
  have r0 : W9.cell? ⟨w.heap.size + 1 + 1, 0, none⟩ = some (Value.bool sn) := E.blks.2.1.at 0
  have r1 : W9.cell? ⟨w.heap.size + 1 + 1, 1, none⟩ = some (Value.slice sA sm sc) := E.blks.2.1.at 1
  have r2 : W9.cell? ⟨w.heap.size + 1 + 1 + 1, 0, none⟩ = some (Value.bool un) := E.blks.1.at 0
  have r3 : W9.cell? ⟨w.heap.size + 1 + 1 + 1, 1, none⟩ = some (Value.slice uA um uc) := E.blks.1.at 1
  have HE := Lib.hid E
  clear E
  go_wp2
  refine bodyPost_ret (v := .tuple #[.agg #[.bool sn, .slice sA sm sc], .agg #[.bool un, .slice uA um uc]]) (by simp [results, Tryz.results114, go_sem, r0, r1, r2, r3]) rfl ?_
  exact ⟨sn, sA, sm, sc, un, uA, um, uc, rfl, HE.out.wds.2.2.1, HE.out.wds.1, HE.out.bel⟩

end Go.Proofs.YtilaheplclaokaaGreat
namespace Go.Proofs.YtilaheplclaokaaGreat
open Go.RowKit Go.Shelf
attribute [local go_sem] Oper.semAt_some

/-- A fraction and no error. -/
def MakePost (x y : Int) (w : World) (e : Ending) (w' : World) : Prop := ∃ an aA am ac bn bA bm bc, e = .returned (.tuple #[.agg #[.bool an, .slice aA am ac, .bool bn, .slice bA bm bc], .int .i64 0]) ∧ WD w' an aA am ac x ∧ WD w' bn bA bm bc y ∧ Below w.heap.size w w'

set_option maxRecDepth 100000 in
set_option maxHeartbeats 1000000 in
theorem make_calls (w : World) (an bn : Bool) (aA bA : Option Addr) (am ac bm bc : Nat) (x y : Int) (ha : WD w an aA am ac x) (hb : WD w bn bA bm bc y) (hy : 0 < y) :
    Calls Tryz.prog 78 #[.agg #[.bool an, .slice aA am ac], .agg #[.bool bn, .slice bA bm bc]] w (MakePost (x / (Int.gcd x y : Nat)) (y / (Int.gcd x y : Nat)) w) := by
  have E := ((((((Env.start w).wd ha).wd hb).alloc #[.bool an, .slice aA am ac] 78).alloc #[.bool bn, .slice bA bm bc] 78).alloc #[.bool false, .slice none 0 0, .bool false, .slice none 0 0] 127).alloc #[.int .i64 0] 27
  simp only [World.size_alloc] at E
  have HE := Lib.hid E
  have CR := Lib.hid fun w' p q => reduce_calls w' an bn aA bA am ac bm bc x y p q hy
  have HZ : Hid (decide (y = 0) = false) := Lib.hid (decide_eq_false (by omega))
  clear E ha hb hy
  generalize x / ((Int.gcd x y : Nat) : Int) = X at *
  generalize y / ((Int.gcd x y : Nat) : Int) = Y at *
  go_enter_defers Tryz.func78, Tryz.ntmps78
  go_wp2_with fail
  go_at_call 110
  refine (Check_calls _ an aA am ac x HE.out.wds.2.1).mono ?_
  rintro e W1 ⟨rfl, hb1⟩
  replace HE := Lib.hid (HE.out.below hb1)
  clear hb1
  go_wp2_with fail
  go_at_call 109
  refine (want0 _).mono ?_
  rintro e W2 ⟨rfl, rfl⟩
  have e0 : W1.cell? ⟨w.heap.size + 1, 0, none⟩ = some (.bool bn) := HE.out.blks.2.2.1.at 0
  have e1 : W1.cell? ⟨w.heap.size + 1, 1, none⟩ = some (.slice bA bm bc) := HE.out.blks.2.2.1.at 1
  go_wp2_with fail
  go_at_call 110
  refine (Check_calls _ bn bA bm bc y HE.out.wds.1).mono ?_
  rintro e W3 ⟨rfl, hb3⟩
  replace HE := Lib.hid (HE.out.below hb3)
  clear hb3 e0 e1
  go_wp2_with fail
  go_at_call 109
  refine (want0 _).mono ?_
  rintro e W4 ⟨rfl, rfl⟩
  have e0 : W3.cell? ⟨w.heap.size + 1, 0, none⟩ = some (.bool bn) := HE.out.blks.2.2.1.at 0
  have e1 : W3.cell? ⟨w.heap.size + 1, 1, none⟩ = some (.slice bA bm bc) := HE.out.blks.2.2.1.at 1
  go_wp2_with fail
  go_at_call 111
  refine (zero_calls _ bn bA bm bc y HE.out.wds.1).mono ?_
  rw [HZ.out]
  rintro e W5 ⟨rfl, hb5⟩
  replace HE := Lib.hid (HE.out.below hb5)
  clear hb5 e0 e1
  have e0 : W5.cell? ⟨w.heap.size + 1, 0, none⟩ = some (.bool bn) := HE.out.blks.2.2.1.at 0
  have e1 : W5.cell? ⟨w.heap.size + 1, 1, none⟩ = some (.slice bA bm bc) := HE.out.blks.2.2.1.at 1
  have e2 : W5.cell? ⟨w.heap.size, 0, none⟩ = some (.bool an) := HE.out.blks.2.2.2.1.at 0
  have e3 : W5.cell? ⟨w.heap.size, 1, none⟩ = some (.slice aA am ac) := HE.out.blks.2.2.2.1.at 1
  go_wp2_with fail
  go_at_call 112
  refine (CR.out _ HE.out.wds.2.1 HE.out.wds.1).mono ?_
  rintro e W6 ⟨n1, A1, m1, c1, n2, A2, m2, c2, rfl, h1, h2, hb6⟩
  replace HE := Lib.hid (((HE.out.below hb6).wd h1).wd h2)
  clear hb6 h1 h2 e0 e1 e2 e3
  have f0 : W6.cell? ⟨w.heap.size + 1 + 1, 0, none⟩ = some (.bool false) := HE.out.blks.2.1.at 0
  have f1 : W6.cell? ⟨w.heap.size + 1 + 1, 1, none⟩ = some (.slice none 0 0) := HE.out.blks.2.1.at 1
  have f2 : W6.cell? ⟨w.heap.size + 1 + 1, 2, none⟩ = some (.bool false) := HE.out.blks.2.1.at 2
  have f3 : W6.cell? ⟨w.heap.size + 1 + 1, 3, none⟩ = some (.slice none 0 0) := HE.out.blks.2.1.at 3
  have f4 : W6.cell? ⟨w.heap.size + 1 + 1 + 1, 0, none⟩ = some (.int .i64 0) := HE.out.blks.1.at 0
  have g0 := HE.out.blks.2.1.fr 0
  have g1 := HE.out.blks.2.1.fr 1
  have g2 := HE.out.blks.2.1.fr 2
  have g3 := HE.out.blks.2.1.fr 3
  have g4 := HE.out.blks.1.fr 0
  go_wp2
  have E := ((((((HE.out.swap.setY (by omega) (by simp [Free] <;> omega) rfl 0 (.bool n1)).setY (by omega) (by simp [Free] <;> omega) rfl 1 (.slice A1 m1 c1)).setY (by omega) (by simp [Free] <;> omega) rfl 2 (.bool n2)).setY (by omega) (by simp [Free] <;> omega) rfl 3 (.slice A2 m2 c2)).swap).setY (by omega) (by simp [Free] <;> omega) rfl 0 (.int .i64 0))
  have r0 : _ = some (Value.bool n1) := E.blks.2.1.at 0
  have r1 : _ = some (Value.slice A1 m1 c1) := E.blks.2.1.at 1
  have r2 : _ = some (Value.bool n2) := E.blks.2.1.at 2
  have r3 : _ = some (Value.slice A2 m2 c2) := E.blks.2.1.at 3
  have r4 : _ = some (Value.int .i64 0) := E.blks.1.at 0
  refine leaves_cons (f := 108) (args := #[.pointer (some ⟨w.heap.size + 1 + 1 + 1, 0, none⟩)]) (by simp) (by simp [go_sem]) ?_
  refine (catch_idle _ _).mono ?_
  rintro e u' w'' ⟨rfl, rfl, rfl⟩
  simp [Leaves, settle, results, Tryz.results78, go_sem, r0, r1, r2, r3, r4]
  exact ⟨n1, A1, m1, c1, n2, A2, m2, c2, rfl, E.wds.2.1, E.wds.1, E.bel⟩

set_option maxRecDepth 100000 in
set_option maxHeartbeats 1000000 in
theorem of_calls (w : World) (x y : Int) (hx0 : -9223372036854775808 ≤ x) (hx1 : x < 9223372036854775808) (hy : 0 < y) (hy1 : y < 9223372036854775808) :
    Calls Tryz.prog 79 #[.int .i64 x, .int .i64 y] w (MakePost (x / (Int.gcd x y : Nat)) (y / (Int.gcd x y : Nat)) w) := by
  have HE := Lib.hid ((Env.start w).alloc #[.bool false, .slice none 0 0, .bool false, .slice none 0 0] 127)
  have C1 := Lib.hid fun w' => From_calls w' x hx0 hx1
  have C2 := Lib.hid fun w' => From_calls w' y (by omega) hy1
  have CM := Lib.hid fun w' n A m c n' A' m' c' p q => make_calls w' n n' A A' m c m' c' x y p q hy
  generalize x / ((Int.gcd x y : Nat) : Int) = X at *
  generalize y / ((Int.gcd x y : Nat) : Int) = Y at *
  go_enter Tryz.func79, Tryz.ntmps79
  go_wp2_with fail
  go_at_call 40
  refine (C1.out _).mono ?_
  rintro e W1 ⟨n1, A1, m1, c1, rfl, h1, hb1⟩
  replace HE := Lib.hid ((HE.out.below hb1).wd h1)
  clear hb1 h1
  go_wp2_with fail
  go_at_call 40
  refine (C2.out _).mono ?_
  rintro e W2 ⟨n2, A2, m2, c2, rfl, h2, hb2⟩
  replace HE := Lib.hid ((HE.out.below hb2).wd h2)
  clear hb2 h2
  go_wp2_with fail
  go_at_call 78
  refine (CM.out _ n1 A1 m1 c1 n2 A2 m2 c2 HE.out.wds.2.1 HE.out.wds.1).mono ?_
  rintro e W3 ⟨n3, A3, m3, c3, n4, A4, m4, c4, rfl, h3, h4, hb3⟩
  replace HE := Lib.hid (((HE.out.below hb3).wd h3).wd h4)
  clear hb3 h3 h4
  have f0 : W3.cell? ⟨w.heap.size, 0, none⟩ = some (.bool false) := HE.out.blks.1.at 0
  have f1 : W3.cell? ⟨w.heap.size, 1, none⟩ = some (.slice none 0 0) := HE.out.blks.1.at 1
  have f2 : W3.cell? ⟨w.heap.size, 2, none⟩ = some (.bool false) := HE.out.blks.1.at 2
  have f3 : W3.cell? ⟨w.heap.size, 3, none⟩ = some (.slice none 0 0) := HE.out.blks.1.at 3
  have g0 := HE.out.blks.1.fr 0
  have g1 := HE.out.blks.1.fr 1
  have g2 := HE.out.blks.1.fr 2
  have g3 := HE.out.blks.1.fr 3
  go_wp2
  have E := (((HE.out.setY (Nat.le_refl _) trivial rfl 0 (.bool n3)).setY (Nat.le_refl _) trivial rfl 1 (.slice A3 m3 c3)).setY (Nat.le_refl _) trivial rfl 2 (.bool n4)).setY (Nat.le_refl _) trivial rfl 3 (.slice A4 m4 c4)
  have r0 : _ = some (Value.bool n3) := E.blks.1.at 0
  have r1 : _ = some (Value.slice A3 m3 c3) := E.blks.1.at 1
  have r2 : _ = some (Value.bool n4) := E.blks.1.at 2
  have r3 : _ = some (Value.slice A4 m4 c4) := E.blks.1.at 3
  refine bodyPost_ret (v := .tuple #[.agg #[.bool n3, .slice A3 m3 c3, .bool n4, .slice A4 m4 c4], .int .i64 0]) (by simp [results, Tryz.results79, go_sem, r0, r1, r2, r3]) rfl ?_
  exact ⟨n3, A3, m3, c3, n4, A4, m4, c4, rfl, E.wds.2.1, E.wds.1, E.bel⟩

/-- What a sum of fractions must be for nothing to be out of range. -/
structure AddOk (x1 y1 x2 y2 : Int) : Prop where
  p1 : 0 < y1
  p2 : 0 < y2
  g1 : Int.gcd x1 y1 = 1
  g2 : Int.gcd x2 y2 = 1
  f1 : Num.fits (x1 * y2) = true
  f2 : Num.fits (x2 * y1) = true
  f3 : Num.fits (x1 * y2 + x2 * y1) = true
  f4 : Num.fits (y1 * y2) = true

set_option maxRecDepth 100000 in
set_option maxHeartbeats 1000000 in
theorem both_calls (w : World) (an abn : Bool) (aA abA : Option Addr) (am ac abm abc : Nat) (bn bbn : Bool) (bA bbA : Option Addr) (bm bc bbm bbc : Nat) (x1 y1 x2 y2 : Int) (h1 : WD w an aA am ac x1) (h2 : WD w abn abA abm abc y1) (h3 : WD w bn bA bm bc x2) (h4 : WD w bbn bbA bbm bbc y2) (hok : AddOk x1 y1 x2 y2) :
    Calls Tryz.prog 113 #[.agg #[.bool an, .slice aA am ac, .bool abn, .slice abA abm abc], .agg #[.bool bn, .slice bA bm bc, .bool bbn, .slice bbA bbm bbc], .func (.func 114) #[] #[]] w (MakePost ((x1 * y2 + x2 * y1) / (Int.gcd (x1 * y2 + x2 * y1) (y1 * y2) : Nat)) ((y1 * y2) / (Int.gcd (x1 * y2 + x2 * y1) (y1 * y2) : Nat)) w) := by
  have E := ((((((((Env.start w).wd h1).wd h2).wd h3).wd h4).alloc #[.bool an, .slice aA am ac, .bool abn, .slice abA abm abc] 127).alloc #[.bool bn, .slice bA bm bc, .bool bbn, .slice bbA bbm bbc] 127).alloc #[.bool false, .slice none 0 0, .bool false, .slice none 0 0] 127).alloc #[.int .i64 0] 27
  simp only [World.size_alloc] at E
  have HE := Lib.hid E
  have CC1 := Lib.hid fun w' p q => fcheck_calls w' an abn aA abA am ac abm abc x1 y1 p q hok.p1 hok.g1
  have CC2 := Lib.hid fun w' p q => fcheck_calls w' bn bbn bA bbA bm bc bbm bbc x2 y2 p q hok.p2 hok.g2
  have CF := Lib.hid fun w' p q r s => addFn_calls w' an abn aA abA am ac abm abc bn bbn bA bbA bm bc bbm bbc x1 y1 x2 y2 p q r s hok.f1 hok.f2 hok.f3 hok.f4
  have CR := Lib.hid fun w' n A m c n' A' m' c' p q => reduce_calls w' n n' A A' m c m' c' (x1 * y2 + x2 * y1) (y1 * y2) p q (Int.mul_pos hok.p1 hok.p2)
  clear E h1 h2 h3 h4 hok
  generalize (x1 * y2 + x2 * y1) / ((Int.gcd (x1 * y2 + x2 * y1) (y1 * y2) : Nat) : Int) = X at *
  generalize (y1 * y2) / ((Int.gcd (x1 * y2 + x2 * y1) (y1 * y2) : Nat) : Int) = Y at *
  generalize x1 * y2 + x2 * y1 = S at *
  generalize y1 * y2 = D at *
  go_enter_defers Tryz.func113, Tryz.ntmps113
  go_wp2_with fail
  go_at_call 117
  refine (CC1.out _ HE.out.wds.2.2.2.1 HE.out.wds.2.2.1).mono ?_
  rintro e W1 ⟨rfl, hb1⟩
  replace HE := Lib.hid (HE.out.below hb1)
  clear hb1
  go_wp2_with fail
  go_at_call 109
  refine (want0 _).mono ?_
  rintro e W2 ⟨rfl, rfl⟩
  have e0 : W1.cell? ⟨w.heap.size + 1, 0, none⟩ = some (.bool bn) := HE.out.blks.2.2.1.at 0
  have e1 : W1.cell? ⟨w.heap.size + 1, 1, none⟩ = some (.slice bA bm bc) := HE.out.blks.2.2.1.at 1
  have e2 : W1.cell? ⟨w.heap.size + 1, 2, none⟩ = some (.bool bbn) := HE.out.blks.2.2.1.at 2
  have e3 : W1.cell? ⟨w.heap.size + 1, 3, none⟩ = some (.slice bbA bbm bbc) := HE.out.blks.2.2.1.at 3
  go_wp2_with fail
  go_at_call 117
  refine (CC2.out _ HE.out.wds.2.1 HE.out.wds.1).mono ?_
  rintro e W3 ⟨rfl, hb3⟩
  replace HE := Lib.hid (HE.out.below hb3)
  clear hb3 e0 e1 e2 e3
  go_wp2_with fail
  go_at_call 109
  refine (want0 _).mono ?_
  rintro e W4 ⟨rfl, rfl⟩
  have e0 : W3.cell? ⟨w.heap.size + 1, 0, none⟩ = some (.bool bn) := HE.out.blks.2.2.1.at 0
  have e1 : W3.cell? ⟨w.heap.size + 1, 1, none⟩ = some (.slice bA bm bc) := HE.out.blks.2.2.1.at 1
  have e2 : W3.cell? ⟨w.heap.size + 1, 2, none⟩ = some (.bool bbn) := HE.out.blks.2.2.1.at 2
  have e3 : W3.cell? ⟨w.heap.size + 1, 3, none⟩ = some (.slice bbA bbm bbc) := HE.out.blks.2.2.1.at 3
  have d0 : W3.cell? ⟨w.heap.size, 0, none⟩ = some (.bool an) := HE.out.blks.2.2.2.1.at 0
  have d1 : W3.cell? ⟨w.heap.size, 1, none⟩ = some (.slice aA am ac) := HE.out.blks.2.2.2.1.at 1
  have d2 : W3.cell? ⟨w.heap.size, 2, none⟩ = some (.bool abn) := HE.out.blks.2.2.2.1.at 2
  have d3 : W3.cell? ⟨w.heap.size, 3, none⟩ = some (.slice abA abm abc) := HE.out.blks.2.2.2.1.at 3
  go_wp2_with fail
  go_at_call 114
  refine (CF.out _ HE.out.wds.2.2.2.1 HE.out.wds.2.2.1 HE.out.wds.2.1 HE.out.wds.1).mono ?_
  rintro e W5 ⟨n3, A3, m3, c3, n4, A4, m4, c4, rfl, h3, h4, hb5⟩
  replace HE := Lib.hid (((HE.out.below hb5).wd h3).wd h4)
  clear hb5 h3 h4 e0 e1 e2 e3 d0 d1 d2 d3
  go_wp2_with fail
  go_at_call 112
  refine (CR.out _ n3 A3 m3 c3 n4 A4 m4 c4 HE.out.wds.2.1 HE.out.wds.1).mono ?_
  rintro e W6 ⟨n1, A1, m1, c1, n2, A2, m2, c2, rfl, h1, h2, hb6⟩
  replace HE := Lib.hid (((HE.out.below hb6).wd h1).wd h2)
  clear hb6 h1 h2
  have f0 : W6.cell? ⟨w.heap.size + 1 + 1, 0, none⟩ = some (.bool false) := HE.out.blks.2.1.at 0
  have f1 : W6.cell? ⟨w.heap.size + 1 + 1, 1, none⟩ = some (.slice none 0 0) := HE.out.blks.2.1.at 1
  have f2 : W6.cell? ⟨w.heap.size + 1 + 1, 2, none⟩ = some (.bool false) := HE.out.blks.2.1.at 2
  have f3 : W6.cell? ⟨w.heap.size + 1 + 1, 3, none⟩ = some (.slice none 0 0) := HE.out.blks.2.1.at 3
  have f4 : W6.cell? ⟨w.heap.size + 1 + 1 + 1, 0, none⟩ = some (.int .i64 0) := HE.out.blks.1.at 0
  have g0 := HE.out.blks.2.1.fr 0
  have g1 := HE.out.blks.2.1.fr 1
  have g2 := HE.out.blks.2.1.fr 2
  have g3 := HE.out.blks.2.1.fr 3
  have g4 := HE.out.blks.1.fr 0
  go_wp2
  have E := ((((((HE.out.swap.setY (by omega) (by simp [Free] <;> omega) rfl 0 (.bool n1)).setY (by omega) (by simp [Free] <;> omega) rfl 1 (.slice A1 m1 c1)).setY (by omega) (by simp [Free] <;> omega) rfl 2 (.bool n2)).setY (by omega) (by simp [Free] <;> omega) rfl 3 (.slice A2 m2 c2)).swap).setY (by omega) (by simp [Free] <;> omega) rfl 0 (.int .i64 0))
  have r0 : _ = some (Value.bool n1) := E.blks.2.1.at 0
  have r1 : _ = some (Value.slice A1 m1 c1) := E.blks.2.1.at 1
  have r2 : _ = some (Value.bool n2) := E.blks.2.1.at 2
  have r3 : _ = some (Value.slice A2 m2 c2) := E.blks.2.1.at 3
  have r4 : _ = some (Value.int .i64 0) := E.blks.1.at 0
  refine leaves_cons (f := 108) (args := #[.pointer (some ⟨w.heap.size + 1 + 1 + 1, 0, none⟩)]) (by simp) (by simp [go_sem]) ?_
  refine (catch_idle _ _).mono ?_
  rintro e u' w'' ⟨rfl, rfl, rfl⟩
  simp [Leaves, settle, results, Tryz.results113, go_sem, r0, r1, r2, r3, r4]
  exact ⟨n1, A1, m1, c1, n2, A2, m2, c2, rfl, E.wds.2.1, E.wds.1, E.bel⟩

set_option maxRecDepth 100000 in
set_option maxHeartbeats 1000000 in
theorem fadd_calls (w : World) (an abn : Bool) (aA abA : Option Addr) (am ac abm abc : Nat) (bn bbn : Bool) (bA bbA : Option Addr) (bm bc bbm bbc : Nat) (x1 y1 x2 y2 : Int) (h1 : WD w an aA am ac x1) (h2 : WD w abn abA abm abc y1) (h3 : WD w bn bA bm bc x2) (h4 : WD w bbn bbA bbm bbc y2) (hok : AddOk x1 y1 x2 y2) :
    Calls Tryz.prog 80 #[.agg #[.bool an, .slice aA am ac, .bool abn, .slice abA abm abc], .agg #[.bool bn, .slice bA bm bc, .bool bbn, .slice bbA bbm bbc]] w (MakePost ((x1 * y2 + x2 * y1) / (Int.gcd (x1 * y2 + x2 * y1) (y1 * y2) : Nat)) ((y1 * y2) / (Int.gcd (x1 * y2 + x2 * y1) (y1 * y2) : Nat)) w) := by
  have E := (((((((Env.start w).wd h1).wd h2).wd h3).wd h4).alloc #[.bool an, .slice aA am ac, .bool abn, .slice abA abm abc] 127).alloc #[.bool bn, .slice bA bm bc, .bool bbn, .slice bbA bbm bbc] 127).alloc #[.bool false, .slice none 0 0, .bool false, .slice none 0 0] 127
  simp only [World.size_alloc] at E
  have HE := Lib.hid E
  have CB := Lib.hid fun w' p q r s => both_calls w' an abn aA abA am ac abm abc bn bbn bA bbA bm bc bbm bbc x1 y1 x2 y2 p q r s hok
  clear E h1 h2 h3 h4 hok
  generalize (x1 * y2 + x2 * y1) / ((Int.gcd (x1 * y2 + x2 * y1) (y1 * y2) : Nat) : Int) = X at *
  generalize (y1 * y2) / ((Int.gcd (x1 * y2 + x2 * y1) (y1 * y2) : Nat) : Int) = Y at *
  go_enter Tryz.func80, Tryz.ntmps80
  go_wp2_with fail
  go_at_call 113
  refine (CB.out _ HE.out.wds.2.2.2.1 HE.out.wds.2.2.1 HE.out.wds.2.1 HE.out.wds.1).mono ?_
  rintro e W3 ⟨n3, A3, m3, c3, n4, A4, m4, c4, rfl, h3, h4, hb3⟩
  replace HE := Lib.hid (((HE.out.below hb3).wd h3).wd h4)
  clear hb3 h3 h4
  have f0 : W3.cell? ⟨w.heap.size + 1 + 1, 0, none⟩ = some (.bool false) := HE.out.blks.1.at 0
  have f1 : W3.cell? ⟨w.heap.size + 1 + 1, 1, none⟩ = some (.slice none 0 0) := HE.out.blks.1.at 1
  have f2 : W3.cell? ⟨w.heap.size + 1 + 1, 2, none⟩ = some (.bool false) := HE.out.blks.1.at 2
  have f3 : W3.cell? ⟨w.heap.size + 1 + 1, 3, none⟩ = some (.slice none 0 0) := HE.out.blks.1.at 3
  have g0 := HE.out.blks.1.fr 0
  have g1 := HE.out.blks.1.fr 1
  have g2 := HE.out.blks.1.fr 2
  have g3 := HE.out.blks.1.fr 3
  go_wp2
  have E := (((HE.out.setY (by omega) (by simp [Free] <;> omega) rfl 0 (.bool n3)).setY (by omega) (by simp [Free] <;> omega) rfl 1 (.slice A3 m3 c3)).setY (by omega) (by simp [Free] <;> omega) rfl 2 (.bool n4)).setY (by omega) (by simp [Free] <;> omega) rfl 3 (.slice A4 m4 c4)
  have r0 : _ = some (Value.bool n3) := E.blks.1.at 0
  have r1 : _ = some (Value.slice A3 m3 c3) := E.blks.1.at 1
  have r2 : _ = some (Value.bool n4) := E.blks.1.at 2
  have r3 : _ = some (Value.slice A4 m4 c4) := E.blks.1.at 3
  refine bodyPost_ret (v := .tuple #[.agg #[.bool n3, .slice A3 m3 c3, .bool n4, .slice A4 m4 c4], .int .i64 0]) (by simp [results, Tryz.results80, go_sem, r0, r1, r2, r3]) rfl ?_
  exact ⟨n3, A3, m3, c3, n4, A4, m4, c4, rfl, E.wds.2.1, E.wds.1, E.bel⟩

end Go.Proofs.YtilaheplclaokaaGreat

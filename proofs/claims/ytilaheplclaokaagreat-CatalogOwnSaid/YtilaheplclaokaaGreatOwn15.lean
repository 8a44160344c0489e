/-
Walk of package frac: Round, where there is no error.
Plain law: the sine of the least angle. No program here. Printed by mk_s0.py.
Plain law: what 'motion' calculates. Walk of catalog's motion.
Walk of catalog's motion.
Walks of package catalog: between, isName, Check (valid stars).
Walk of catalog.Check at a valid star.
Walks of the references: planisphereref19.Name, within, Check; planisphereref03.Check, planisphereref17.Check.
-/
import Derived.Laws.RangeString
import Derived.Test.YtilaheplclaokaaGreatOwn09
import Derived.Test.YtilaheplclaokaaGreatOwn13
import Derived.Test.YtilaheplclaokaaGreatOwn14
set_option linter.unusedVariables false
set_option linter.unusedSimpArgs false
namespace Go.Proofs.YtilaheplclaokaaGreat
open Go.RowKit Go.Shelf
attribute [local go_sem] Oper.semAt_some

/-- A part of a body that defers, walked where nothing panics. -/
theorem wp_no_panic {P : Program} {c : Code} {Q : Exit → Act → World → Prop} {a : Act} {w : World} (h : c.wp P (fun e a w => Q e a w ∧ ∀ ch, e ≠ .panic ch) a w) : c.wp P Q a w := Code.wp_mono (fun _ _ _ h => h.1) h
theorem val_odd (g : Nat → Int) (n : Nat) : Num.val g (n + 1) % 2 = g 0 % 2 := by
  have h := Num.val_split g 1 n
  have h1 : Num.val g 1 = g 0 := by simp [Num.val, Num.P]
  have hP : Num.P 1 = 4294967296 := by decide
  rw [Nat.add_comm n 1, h, h1, hP]
  omega
/-- The lowest limb of a number that is not 0. -/
theorem WD.odd {w : World} {neg : Bool} {A : Option Addr} {n cap : Nat} {x : Int} (h : WD w neg A n cap x) (h0 : x ≠ 0) : ∃ b off g0, A = some ⟨b, off, none⟩ ∧ b < w.heap.size ∧ w.cell? ⟨b, off, none⟩ = some (.int .u32 g0) ∧ 0 ≤ g0 ∧ g0 < 4294967296 ∧ (g0 % 2 = 1 ↔ x % 2 = 1) ∧ 0 < n := by
  have hz := h.zero_iff
  obtain ⟨g, _, _, hd, ha, ht, _, hx⟩ := h
  have hn : 0 < n := by
    rcases Nat.eq_zero_or_pos n with h1 | h1
    · exact absurd (hz.1 h1) h0
    · exact h1
  obtain ⟨b, off, hA, hlt, hc⟩ := ha hn
  obtain ⟨m, rfl⟩ : ∃ m, n = m + 1 := ⟨n - 1, by omega⟩
  have hv := val_odd g m
  have hs := Num.sg_abs neg _ (Num.val_nonneg hd)
  refine ⟨b, off, g 0, hA, hlt, by simpa using hc 0 hn, (hd 0 hn).1, (hd 0 hn).2, ?_, hn⟩
  rw [hx]
  omega
theorem quot_pos {x y q r : Int} (hy : 0 < y) (h : QuotRem x y q r) : q = x / y ∧ r = x % y := by
  obtain ⟨h1, h2, _⟩ := h
  have h3 := h2 hy
  have e1 : x / y = q := by
    rw [h1]
    rw [Int.add_comm, Int.add_mul_ediv_left _ _ (by omega), Int.ediv_eq_zero_of_lt h3.1 h3.2]
    omega
  refine ⟨e1.symm, ?_⟩
  rw [Int.emod_def, e1]
  omega

/-- The nearest whole number of a fraction; of two the even one. -/
def rnd (x y : Int) : Int := if y < x % y + x % y then x / y + 1 else if x % y + x % y = y ∧ (x / y) % 2 = 1 then x / y + 1 else x / y
theorem rnd_near (x y : Int) : x / y ≤ rnd x y ∧ rnd x y ≤ x / y + 1 := by
  unfold rnd
  split
  · omega
  · split <;> omega


set_option maxRecDepth 100000 in
set_option maxHeartbeats 2000000 in
theorem round_calls (w : World) (an bn : Bool) (aA bA : Option Addr) (am ac bm bc : Nat) (x y : Int) (ha : WD w an aA am ac x) (hb : WD w bn bA bm bc y) (hy : 0 < y) (hg : Int.gcd x y = 1) (hf : Num.fits (y + y) = true) (hf2 : Num.fits (x / y + 1) = true) :
    Calls Tryz.prog 81 #[.agg #[.bool an, .slice aA am ac, .bool bn, .slice bA bm bc]] w (NumOk (rnd x y) w) := by
  have E := (((((Env.start w).wd ha).wd hb).alloc #[.bool an, .slice aA am ac, .bool bn, .slice bA bm bc] 127).alloc #[.bool false, .slice none 0 0] 78).alloc #[.int .i64 0] 27
  simp only [World.size_alloc] at E
  have HE := Lib.hid E
  have CC := Lib.hid fun w' p q => fcheck_calls w' an bn aA bA am ac bm bc x y p q hy hg
  have hr0 := Int.emod_nonneg x (show y ≠ 0 by omega)
  have hr1 := Int.emod_lt_of_pos x hy
  have hrf : Num.fits (x % y + x % y) = true := by
    simp only [Num.fits, decide_eq_true_eq] at hf ⊢
    have := Num.P_pos 4096
    omega
  have CA := Lib.hid fun w' n A m c p => (Add_calls w' n n A A m m c c (x % y) (x % y) p p).mono fun e w2 h => num_ok hrf h
  have CP := Lib.hid fun w' n A m c n' A' m' c' p q => (Add_calls w' n n' A A' m m' c c' (x / y) 1 p q).mono fun e w2 h => num_ok hf2 h
  have HY := Lib.hid hy
  have HRD : Hid (rnd x y = if y < x % y + x % y then x / y + 1 else if x % y + x % y = y ∧ (x / y) % 2 = 1 then x / y + 1 else x / y) := Lib.hid rfl
  clear E ha hb hg hf hf2 hr0 hr1 hrf hy
  generalize rnd x y = z at *
  go_enter_defers Tryz.func81, Tryz.ntmps81
  go_wp2_with fail
  go_at_call 117
  refine (CC.out _ HE.out.wds.2.1 HE.out.wds.1).mono ?_
  rintro e W1 ⟨rfl, hb1⟩
  replace HE := Lib.hid (HE.out.below hb1)
  clear hb1 CC
  go_wp2_with fail
  go_at_call 109
  refine (want0 _).mono ?_
  rintro e W2 ⟨rfl, rfl⟩
  have e0 : W1.cell? ⟨w.heap.size, 0, none⟩ = some (.bool an) := HE.out.blks.2.2.1.at 0
  have e1 : W1.cell? ⟨w.heap.size, 1, none⟩ = some (.slice aA am ac) := HE.out.blks.2.2.1.at 1
  have e2 : W1.cell? ⟨w.heap.size, 2, none⟩ = some (.bool bn) := HE.out.blks.2.2.1.at 2
  have e3 : W1.cell? ⟨w.heap.size, 3, none⟩ = some (.slice bA bm bc) := HE.out.blks.2.2.1.at 3
  go_wp2_with fail
  go_at_call 100
  refine (DivMod_calls _ an bn aA bA am bm ac bc x y HE.out.wds.2.1 HE.out.wds.1 (by have := HY.out; omega)).mono ?_
  rintro e W3 ⟨q1, r1, qn, qA, qm, qc, rn, rA, rm, rc, rfl, hq, hr, hqr, hb3⟩
  obtain ⟨hq1, hr1⟩ := quot_pos HY.out hqr
  rw [hq1] at hq
  rw [hr1] at hr
  replace HE := Lib.hid (((HE.out.below hb3).wd hr).wd hq)
  clear hb3 hq hr hqr hq1 hr1 e0 e1 e2 e3
  have f4 : W3.cell? ⟨w.heap.size + 1 + 1, 0, none⟩ = some (.int .i64 0) := HE.out.blks.1.at 0
  have g4 := HE.out.blks.1.fr 0
  have l4 : w.heap.size + 1 + 1 < W3.heap.size := HE.out.blks.1.lt
  have l5 : w.heap.size + 1 + 1 < W3.heap.size + 1 := by omega
  go_wp2_with fail
  go_at_call 109
  refine (want0 _).mono ?_
  rintro e W4 ⟨rfl, rfl⟩
  have hsz : (W3.setCell ⟨w.heap.size + 1 + 1, 0, none⟩ (.int .i64 0)).heap.size = W3.heap.size := by simp [World.setCell]
  have E0 := (HE.out.setY (by omega) (by simp [Free] <;> omega) rfl 0 (.int .i64 0)).alloc #[.bool qn, .slice qA qm qc] 78
  have E := E0.alloc #[.bool rn, .slice rA rm rc] 78
  simp only [World.size_alloc] at E
  rw [hsz] at E
  clear HE f4 g4 l5 E0 hsz
  have HE := Lib.hid E
  clear E
  go_wp2_with fail
  generalize (((W3.setCell ⟨w.heap.size + 1 + 1, 0, none⟩ (.int .i64 0)).alloc (.cells #[.bool qn, .slice qA qm qc] 78)).alloc (.cells #[.bool rn, .slice rA rm rc] 78)) = V at *
  generalize W3.heap.size = b4 at *
  refine wp_no_panic ?_
  refine region_start (S := fun W' => Env w [(b4 + 1, #[.bool rn, .slice rA rm rc], 78), (w.heap.size, #[.bool an, .slice aA am ac, .bool bn, .slice bA bm bc], 127)] [] W') (by kernel_rfl) ?_
  intro W hW
  have E := HE.out.drew
  rw [← hW] at E
  clear hW HE
  obtain ⟨⟨k1, k2, k3, k4, k5, _⟩, ⟨n1, n2, n3, _⟩, kl⟩ := E
  have E : Env w [(b4 + 1, #[.bool rn, .slice rA rm rc], 78), (w.heap.size, #[.bool an, .slice aA am ac, .bool bn, .slice bA bm bc], 127), (b4, #[.bool qn, .slice qA qm qc], 78), (w.heap.size + 1 + 1, #[.int .i64 0], 27), (w.heap.size + 1, #[.bool false, .slice none 0 0], 78)] [(qn, qA, qm, qc, x / y), (rn, rA, rm, rc, x % y), (bn, bA, bm, bc, y)] W := ⟨⟨k1, k5, k2, k3, k4, trivial⟩, ⟨n1, n2, n3, trivial⟩, kl⟩
  clear k1 k2 k3 k4 k5 n1 n2 n3 kl
  have hS : Env w [(b4 + 1, #[.bool rn, .slice rA rm rc], 78), (w.heap.size, #[.bool an, .slice aA am ac, .bool bn, .slice bA bm bc], 127)] [] W := ⟨⟨E.blks.1, E.blks.2.1, trivial⟩, trivial, E.bel⟩
  refine wpAnyH_take (i := 0) (v := .agg #[.bool rn, .slice rA rm rc]) rfl (by kernel_rfl) (by kernel_rfl) (by kernel_rfl) (fun _ _ _ h => absurd rfl (h.2 _)) (.inl ⟨rfl, fun w0 hw0 => ?a0⟩) hS ?_
  case a0 =>
    have g := hw0.blks; have e0 := g.1.c0; have e1 := g.1.c1; have e2 : w0.cell? ⟨w.heap.size, 2, none⟩ = some (.bool bn) := g.2.1.at 2; have e3 : w0.cell? ⟨w.heap.size, 3, none⟩ = some (.slice bA bm bc) := g.2.1.at 3
    go_simp
  refine wpAnyH_take (i := 1) (v := .agg #[.bool rn, .slice rA rm rc]) rfl (by kernel_rfl) (by kernel_rfl) (by kernel_rfl) (fun _ _ _ h => absurd rfl (h.2 _)) (.inl ⟨rfl, fun w0 hw0 => ?a1⟩) hS ?_
  case a1 =>
    have g := hw0.blks; have e0 := g.1.c0; have e1 := g.1.c1; have e2 : w0.cell? ⟨w.heap.size, 2, none⟩ = some (.bool bn) := g.2.1.at 2; have e3 : w0.cell? ⟨w.heap.size, 3, none⟩ = some (.slice bA bm bc) := g.2.1.at 3
    go_simp
  refine wpAnyH_take (i := 6) (v := .pointer (some ⟨w.heap.size, 2, none⟩)) rfl (by kernel_rfl) (by kernel_rfl) (by kernel_rfl) (fun _ _ _ h => absurd rfl (h.2 _)) (.inl ⟨rfl, fun w0 hw0 => ?a6⟩) hS ?_
  case a6 =>
    have g := hw0.blks; have e0 := g.1.c0; have e1 := g.1.c1; have e2 : w0.cell? ⟨w.heap.size, 2, none⟩ = some (.bool bn) := g.2.1.at 2; have e3 : w0.cell? ⟨w.heap.size, 3, none⟩ = some (.slice bA bm bc) := g.2.1.at 3
    go_simp
  refine wpAnyH_take (i := 7) (v := .agg #[.bool bn, .slice bA bm bc]) rfl (by kernel_rfl) (by kernel_rfl) (by kernel_rfl) (fun _ _ _ h => absurd rfl (h.2 _)) (.inl ⟨rfl, fun w0 hw0 => ?a7⟩) hS ?_
  case a7 =>
    have g := hw0.blks; have e0 := g.1.c0; have e1 := g.1.c1; have e2 : w0.cell? ⟨w.heap.size, 2, none⟩ = some (.bool bn) := g.2.1.at 2; have e3 : w0.cell? ⟨w.heap.size, 3, none⟩ = some (.slice bA bm bc) := g.2.1.at 3
    go_simp
  clear hS
  refine wpAnyH_all (rs := [2]) (by kernel_rfl) (by simp) ?_
  intro i0 hi0
  obtain rfl : i0 = 2 := by simpa using hi0
  refine wpOp_plain rfl rfl fun K' hK' => ?_
  go_simp
  refine (CA.out _ rn rA rm rc E.wds.2.1).mono ?_
  rintro e W5 ⟨sn, sA, sm, sc, rfl, hs, hb5⟩
  replace E := (E.below hb5).wd hs
  clear hs hb5
  refine hK' _ _ ⟨⟨⟨E.blks.1, E.blks.2.1, trivial⟩, trivial, E.bel⟩, ?_⟩
  clear hK' K'
  have hS : Env w [(b4 + 1, #[.bool rn, .slice rA rm rc], 78), (w.heap.size, #[.bool an, .slice aA am ac, .bool bn, .slice bA bm bc], 127)] [] W5 := ⟨⟨E.blks.1, E.blks.2.1, trivial⟩, trivial, E.bel⟩
  refine wpAnyH_take (i := 3) (v := .agg #[.bool sn, .slice sA sm sc]) rfl (by kernel_rfl) (by kernel_rfl) (by kernel_rfl) (fun _ _ _ h => absurd rfl (h.2 _)) (.inl ⟨rfl, fun w0 hw0 => ?a3⟩) hS ?_
  case a3 =>
    have g := hw0.blks; have e0 := g.1.c0; have e1 := g.1.c1; have e2 : w0.cell? ⟨w.heap.size, 2, none⟩ = some (.bool bn) := g.2.1.at 2; have e3 : w0.cell? ⟨w.heap.size, 3, none⟩ = some (.slice bA bm bc) := g.2.1.at 3
    go_simp
  refine wpAnyH_take (i := 4) (v := .int .i64 0) rfl (by kernel_rfl) (by kernel_rfl) (by kernel_rfl) (fun _ _ _ h => absurd rfl (h.2 _)) (.inl ⟨rfl, fun w0 hw0 => ?a4⟩) hS ?_
  case a4 =>
    have g := hw0.blks; have e0 := g.1.c0; have e1 := g.1.c1; have e2 : w0.cell? ⟨w.heap.size, 2, none⟩ = some (.bool bn) := g.2.1.at 2; have e3 : w0.cell? ⟨w.heap.size, 3, none⟩ = some (.slice bA bm bc) := g.2.1.at 3
    go_simp
  clear hS
  refine wpAnyH_all (rs := [5]) (by kernel_rfl) (by simp) ?_
  intro i0 hi0
  obtain rfl : i0 = 5 := by simpa using hi0
  refine wpOp_plain rfl rfl fun K' hK' => ?_
  go_simp
  refine (must0 _ sn sA sm sc (x % y + x % y) E.wds.1).mono ?_
  rintro e W6 ⟨tn, tA, tm, tc, rfl, ht, hb6⟩
  replace E := (E.dropN.below hb6).wd ht
  clear ht hb6
  refine hK' _ _ ⟨⟨⟨E.blks.1, E.blks.2.1, trivial⟩, trivial, E.bel⟩, ?_⟩
  clear hK' K'
  refine wpAnyH_all (rs := [8]) (by kernel_rfl) (by simp) ?_
  intro i0 hi0
  obtain rfl : i0 = 8 := by simpa using hi0
  refine wpOp_plain rfl rfl fun K' hK' => ?_
  go_simp
  refine (Cmp_calls _ tn bn tA bA tm bm tc bc (x % y + x % y) y E.wds.1 E.wds.2.2.2.1).mono ?_
  rintro e WQ ⟨rfl, hb7⟩
  replace E := E.dropN.below hb7
  clear hb7
  refine hK' _ _ ⟨⟨⟨E.blks.1, E.blks.2.1, trivial⟩, trivial, E.bel⟩, ?_⟩
  clear hK' K'
  have hS : Env w [(b4 + 1, #[.bool rn, .slice rA rm rc], 78), (w.heap.size, #[.bool an, .slice aA am ac, .bool bn, .slice bA bm bc], 127)] [] WQ := ⟨⟨E.blks.1, E.blks.2.1, trivial⟩, trivial, E.bel⟩
  refine wpAnyH_take (i := 9) (v := .tuple #[.int .i64 (cmpZ (x % y + x % y) y), .int .i64 0]) rfl (by kernel_rfl) (by kernel_rfl) (by kernel_rfl) (fun _ _ _ h => absurd rfl (h.2 _)) (.inl ⟨rfl, fun w0 hw0 => ?a9⟩) hS ?_
  case a9 =>
    have g := hw0.blks; have e0 := g.1.c0; have e1 := g.1.c1; have e2 : w0.cell? ⟨w.heap.size, 2, none⟩ = some (.bool bn) := g.2.1.at 2; have e3 : w0.cell? ⟨w.heap.size, 3, none⟩ = some (.slice bA bm bc) := g.2.1.at 3
    go_simp
  refine wpAnyH_take (i := 10) (v := .int .i64 (cmpZ (x % y + x % y) y)) rfl (by kernel_rfl) (by kernel_rfl) (by kernel_rfl) (fun _ _ _ h => absurd rfl (h.2 _)) (.inl ⟨rfl, fun w0 hw0 => ?a10⟩) hS ?_
  case a10 =>
    have g := hw0.blks; have e0 := g.1.c0; have e1 := g.1.c1; have e2 : w0.cell? ⟨w.heap.size, 2, none⟩ = some (.bool bn) := g.2.1.at 2; have e3 : w0.cell? ⟨w.heap.size, 3, none⟩ = some (.slice bA bm bc) := g.2.1.at 3
    go_simp
  refine wpAnyH_take (i := 11) (v := .int .i64 0) rfl (by kernel_rfl) (by kernel_rfl) (by kernel_rfl) (fun _ _ _ h => absurd rfl (h.2 _)) (.inl ⟨rfl, fun w0 hw0 => ?a11⟩) hS ?_
  case a11 =>
    have g := hw0.blks; have e0 := g.1.c0; have e1 := g.1.c1; have e2 : w0.cell? ⟨w.heap.size, 2, none⟩ = some (.bool bn) := g.2.1.at 2; have e3 : w0.cell? ⟨w.heap.size, 3, none⟩ = some (.slice bA bm bc) := g.2.1.at 3
    go_simp
  refine wpAnyH_take (i := 12) (v := .int .i64 (cmpZ (x % y + x % y) y)) rfl (by kernel_rfl) (by kernel_rfl) (by kernel_rfl) (fun _ _ _ h => absurd rfl (h.2 _)) (.inl ⟨rfl, fun w0 hw0 => ?a12⟩) hS ?_
  case a12 =>
    have g := hw0.blks; have e0 := g.1.c0; have e1 := g.1.c1; have e2 : w0.cell? ⟨w.heap.size, 2, none⟩ = some (.bool bn) := g.2.1.at 2; have e3 : w0.cell? ⟨w.heap.size, 3, none⟩ = some (.slice bA bm bc) := g.2.1.at 3
    go_simp
  refine wpAnyH_take (i := 13) (v := .int .i64 0) rfl (by kernel_rfl) (by kernel_rfl) (by kernel_rfl) (fun _ _ _ h => absurd rfl (h.2 _)) (.inl ⟨rfl, fun w0 hw0 => ?a13⟩) hS ?_
  case a13 =>
    have g := hw0.blks; have e0 := g.1.c0; have e1 := g.1.c1; have e2 : w0.cell? ⟨w.heap.size, 2, none⟩ = some (.bool bn) := g.2.1.at 2; have e3 : w0.cell? ⟨w.heap.size, 3, none⟩ = some (.slice bA bm bc) := g.2.1.at 3
    go_simp
  clear hS
  refine wpAnyH_done (by kernel_rfl) ⟨?_, fun _ h => by cases h⟩ _
  have HE : Hid (Env w [(b4, #[.bool qn, .slice qA qm qc], 78), (w.heap.size + 1 + 1, #[.int .i64 0], 27), (w.heap.size + 1, #[.bool false, .slice none 0 0], 78)] [(qn, qA, qm, qc, x / y)] WQ) := Lib.hid ⟨⟨E.blks.2.2.1, E.blks.2.2.2.1, E.blks.2.2.2.2.1, trivial⟩, ⟨E.wds.1, trivial⟩, E.bel⟩
  clear E
  have hb4 : w.heap.size + 1 + 1 < b4 := l4
  clear l4 CA
  rcases Int.lt_trichotomy y (x % y + x % y) with hc | hc | hc
  · have hcm : cmpZ (x % y + x % y) y = 1 := cmpZ_gt hc
    have HRN : Hid (z = x / y + 1) := Lib.hid (by rw [HRD.out, if_pos hc])
    rw [hcm]
    clear hc hcm HRD
    go_wp2_with fail
    refine wp_no_panic ?_
    refine region_startM (m := 6) (A := fun W' => Env w [(w.heap.size + 1 + 1, #[.int .i64 0], 27), (w.heap.size + 1, #[.bool false, .slice none 0 0], 78)] [(qn, qA, qm, qc, x / y)] W') (B := fun W' => Blk W' b4 #[.bool qn, .slice qA qm qc] 78) (by kernel_rfl) ?_
    intro W hW
    have E := HE.out.drew
    rw [← hW] at E
    clear hW HE
    have hS := And.intro E.drop E.blks.1
    refine wpAnyM_take (i := 0) (v := .agg #[.bool qn, .slice qA qm qc]) rfl (by kernel_rfl) (by kernel_rfl) (by kernel_rfl) rfl rfl (by kernel_rfl) (by kernel_rfl) (fun _ _ _ h => absurd rfl (h.2 _)) (.inl ⟨rfl, fun w0 hw0 => ?a0⟩) hS ?_
    case a0 =>
      have e0 := hw0.2.c0; have e1 := hw0.2.c1
      go_simp
    clear hS
    refine wpAnyM_all (rs := [1]) (by kernel_rfl) (by simp) ?_
    intro i0 hi0
    obtain rfl : i0 = 1 := by simpa using hi0
    refine wpOp_plain rfl rfl fun K' hK' => ?_
    go_simp
    refine (one_calls _).mono ?_
    rintro e W11 ⟨on, oA, om, oc, rfl, ho, hb11⟩
    replace E := (E.below hb11).wd ho
    clear ho hb11
    refine hK' _ _ ⟨⟨E.drop.dropN, fun _ => E.blks.1⟩, ?_⟩
    clear hK' K'
    refine wpAnyM_all (rs := [2]) (by kernel_rfl) (by simp) ?_
    intro i0 hi0
    obtain rfl : i0 = 2 := by simpa using hi0
    refine wpOp_plain rfl rfl fun K' hK' => ?_
    go_simp
    refine (CP.out _ qn qA qm qc on oA om oc E.wds.2.1 E.wds.1).mono ?_
    rintro e W12 ⟨pn, pA, pm, pc, rfl, hp, hb12⟩
    replace E := (E.dropN.below hb12).wd hp
    clear hp hb12
    refine hK' _ _ ⟨⟨E.drop.dropN, fun _ => E.blks.1⟩, ?_⟩
    clear hK' K'
    have hS := And.intro E.drop.dropN E.blks.1
    refine wpAnyM_take (i := 3) (v := .agg #[.bool pn, .slice pA pm pc]) rfl (by kernel_rfl) (by kernel_rfl) (by kernel_rfl) rfl rfl (by kernel_rfl) (by kernel_rfl) (fun _ _ _ h => absurd rfl (h.2 _)) (.inl ⟨rfl, fun w0 hw0 => ?a3⟩) hS ?_
    case a3 =>
      have e0 := hw0.2.c0; have e1 := hw0.2.c1
      go_simp
    refine wpAnyM_take (i := 4) (v := .int .i64 0) rfl (by kernel_rfl) (by kernel_rfl) (by kernel_rfl) rfl rfl (by kernel_rfl) (by kernel_rfl) (fun _ _ _ h => absurd rfl (h.2 _)) (.inl ⟨rfl, fun w0 hw0 => ?a4⟩) hS ?_
    case a4 =>
      have e0 := hw0.2.c0; have e1 := hw0.2.c1
      go_simp
    clear hS
    refine wpAnyM_all (rs := [5]) (by kernel_rfl) (by simp) ?_
    intro i0 hi0
    obtain rfl : i0 = 5 := by simpa using hi0
    refine wpOp_plain rfl rfl fun K' hK' => ?_
    go_simp
    refine (must0 _ pn pA pm pc (x / y + 1) E.wds.1).mono ?_
    rintro e W13 ⟨sn, sA, sm, sc, rfl, hs, hb13⟩
    replace E := (E.dropN.below hb13).wd hs
    clear hs hb13
    refine hK' _ _ ⟨⟨E.drop.dropN, fun _ => E.blks.1⟩, ?_⟩
    clear hK' K'
    have f0 := E.blks.1.c0
    have f1 := E.blks.1.c1
    have f2 := E.blks.1.fr 0
    have f3 := E.blks.1.fr 1
    refine wpAnyM_all (rs := [6]) (by kernel_rfl) (by simp) ?_
    intro i0 hi0
    obtain rfl : i0 = 6 := by simpa using hi0
    refine wpOp_plain rfl rfl fun K' hK' => ?_
    go_simp
    replace E := E.set2 (by omega) (by simp [Free] <;> omega) (.bool sn) (.slice sA sm sc)
    clear f0 f1 f2 f3
    generalize (W13.setCell ⟨b4, 0, none⟩ (.bool sn)).setCell ⟨b4, 1, none⟩ (.slice sA sm sc) = WQ at *
    refine hK' _ _ ⟨⟨E.drop.dropN, fun h => absurd h (by simp)⟩, wpAnyM_done (by kernel_rfl) ⟨?_, fun _ h => by cases h⟩ _⟩
    clear hK' K'
    have HE := Lib.hid E
    clear E
    have e0 : WQ.cell? ⟨b4, 0, none⟩ = some (.bool sn) := HE.out.blks.1.at 0
    have e1 : WQ.cell? ⟨b4, 1, none⟩ = some (.slice sA sm sc) := HE.out.blks.1.at 1
    have f0 : WQ.cell? ⟨w.heap.size + 1, 0, none⟩ = some (.bool false) := HE.out.blks.2.2.1.at 0
    have f1 : WQ.cell? ⟨w.heap.size + 1, 1, none⟩ = some (.slice none 0 0) := HE.out.blks.2.2.1.at 1
    have f4 : WQ.cell? ⟨w.heap.size + 1 + 1, 0, none⟩ = some (.int .i64 0) := HE.out.blks.2.1.at 0
    have g0 := HE.out.blks.2.2.1.fr 0
    have g1 := HE.out.blks.2.2.1.fr 1
    have g4 := HE.out.blks.2.1.fr 0
    go_wp2
    have E0 : Env w [(w.heap.size + 1, #[.bool false, .slice none 0 0], 78), (w.heap.size + 1 + 1, #[.int .i64 0], 27)] [(sn, sA, sm, sc, x / y + 1)] WQ := by
      obtain ⟨⟨_, g2, g3, _⟩, ⟨h1, _⟩, hl⟩ := HE.out
      exact ⟨⟨g3, g2, trivial⟩, ⟨h1, trivial⟩, hl⟩
    have E := ((E0.set2 (by omega) (by simp [Free] <;> omega) (.bool sn) (.slice sA sm sc)).swap).setY (by omega) (by simp [Free] <;> omega) rfl 0 (.int .i64 0)
    have r0 : _ = some (Value.bool sn) := E.blks.2.1.at 0
    have r1 : _ = some (Value.slice sA sm sc) := E.blks.2.1.at 1
    have r4 : _ = some (Value.int .i64 0) := E.blks.1.at 0
    refine leaves_cons (f := 108) (args := #[.pointer (some ⟨w.heap.size + 1 + 1, 0, none⟩)]) (by simp) (by simp [go_sem]) ?_
    refine (catch_idle _ _).mono ?_
    rintro e u' w'' ⟨rfl, rfl, rfl⟩
    simp [Leaves, settle, results, Tryz.results81, go_sem, r0, r1, r4]
    rw [HRN.out]
    exact ⟨sn, sA, sm, sc, rfl, E.wds.1, E.bel⟩
  · have hcm : cmpZ (x % y + x % y) y = 0 := cmpZ_same hc.symm
    have HC := Lib.hid hc
    rw [hcm]
    clear hcm hc
    by_cases hq0 : x / y = 0
    · have HRN : Hid (z = x / y) := Lib.hid (by rw [HRD.out, if_neg (by have := HC.out; omega), if_neg (by omega)])
      have HZ : Hid (decide (x / y = 0) = true) := Lib.hid (decide_eq_true hq0)
      have e0 : WQ.cell? ⟨b4, 0, none⟩ = some (.bool qn) := HE.out.blks.1.at 0
      have e1 : WQ.cell? ⟨b4, 1, none⟩ = some (.slice qA qm qc) := HE.out.blks.1.at 1
      clear hq0 HRD
      go_wp2_with fail
      go_at_call 111
      refine (zero_calls _ qn qA qm qc (x / y) HE.out.wds.1).mono ?_
      rw [HZ.out]
      rintro e WQ ⟨rfl, hb⟩
      replace HE := Lib.hid (HE.out.below hb)
      clear hb e0 e1
      have e0 : WQ.cell? ⟨b4, 0, none⟩ = some (.bool qn) := HE.out.blks.1.at 0
      have e1 : WQ.cell? ⟨b4, 1, none⟩ = some (.slice qA qm qc) := HE.out.blks.1.at 1
      have f0 : WQ.cell? ⟨w.heap.size + 1, 0, none⟩ = some (.bool false) := HE.out.blks.2.2.1.at 0
      have f1 : WQ.cell? ⟨w.heap.size + 1, 1, none⟩ = some (.slice none 0 0) := HE.out.blks.2.2.1.at 1
      have f4 : WQ.cell? ⟨w.heap.size + 1 + 1, 0, none⟩ = some (.int .i64 0) := HE.out.blks.2.1.at 0
      have g0 := HE.out.blks.2.2.1.fr 0
      have g1 := HE.out.blks.2.2.1.fr 1
      have g4 := HE.out.blks.2.1.fr 0
      go_wp2
      have E0 : Env w [(w.heap.size + 1, #[.bool false, .slice none 0 0], 78), (w.heap.size + 1 + 1, #[.int .i64 0], 27)] [(qn, qA, qm, qc, x / y)] WQ := by
        obtain ⟨⟨_, g2, g3, _⟩, ⟨h1, _⟩, hl⟩ := HE.out
        exact ⟨⟨g3, g2, trivial⟩, ⟨h1, trivial⟩, hl⟩
      have E := ((E0.set2 (by omega) (by simp [Free] <;> omega) (.bool qn) (.slice qA qm qc)).swap).setY (by omega) (by simp [Free] <;> omega) rfl 0 (.int .i64 0)
      have r0 : _ = some (Value.bool qn) := E.blks.2.1.at 0
      have r1 : _ = some (Value.slice qA qm qc) := E.blks.2.1.at 1
      have r4 : _ = some (Value.int .i64 0) := E.blks.1.at 0
      refine leaves_cons (f := 108) (args := #[.pointer (some ⟨w.heap.size + 1 + 1, 0, none⟩)]) (by simp) (by simp [go_sem]) ?_
      refine (catch_idle _ _).mono ?_
      rintro e u' w'' ⟨rfl, rfl, rfl⟩
      simp [Leaves, settle, results, Tryz.results81, go_sem, r0, r1, r4]
      rw [HRN.out]
      exact ⟨qn, qA, qm, qc, rfl, E.wds.1, E.bel⟩
    · have HZ : Hid (decide (x / y = 0) = false) := Lib.hid (decide_eq_false hq0)
      have HQ0 := Lib.hid hq0
      have e0 : WQ.cell? ⟨b4, 0, none⟩ = some (.bool qn) := HE.out.blks.1.at 0
      have e1 : WQ.cell? ⟨b4, 1, none⟩ = some (.slice qA qm qc) := HE.out.blks.1.at 1
      clear hq0
      go_wp2_with fail
      go_at_call 111
      refine (zero_calls _ qn qA qm qc (x / y) HE.out.wds.1).mono ?_
      rw [HZ.out]
      rintro e WQ ⟨rfl, hb⟩
      replace HE := Lib.hid (HE.out.below hb)
      clear hb e0 e1
      obtain ⟨bl, off, gl, hqA, hbl, hcl, hg0, hg1, hpar, hpos⟩ := HE.out.wds.1.odd HQ0.out
      have hcell : WQ.cell? ⟨bl, off, none⟩ = some (.int .u32 gl) := hcl
      have hpos1 : 0 < qm := hpos
      have hqA2 : qA = some ⟨bl, off, none⟩ := hqA
      rw [hqA2] at HE
      clear hcl hpos hqA hqA2
      have hbit : bits .and .u32 gl 1 = gl % 2 := by
        have h := u32_and_nat gl.toNat 1 (by omega) (by omega)
        rw [Nat.and_one_is_mod] at h
        have e1 : ((gl.toNat : Nat) : Int) = gl := by omega
        rw [e1] at h
        rw [show ((1 : Nat) : Int) = 1 from rfl] at h
        rw [h]
        omega
      have e0 : WQ.cell? ⟨b4, 0, none⟩ = some (.bool qn) := HE.out.blks.1.at 0
      have e1 : WQ.cell? ⟨b4, 1, none⟩ = some (.slice (some ⟨bl, off, none⟩) qm qc) := HE.out.blks.1.at 1
      have hpos2 : (0 : Int) < (qm : Int) := by omega
      have hlen : ¬ (qm : Int) ≤ 0 := by omega
      by_cases hodd : gl % 2 = 1
      · have HRN : Hid (z = x / y + 1) := Lib.hid (by rw [HRD.out, if_neg (by have := HC.out; omega), if_pos ⟨HC.out.symm, hpar.1 hodd⟩])
        clear HRD hpar
        go_wp2_with fail
        refine wp_no_panic ?_
        refine region_startM (m := 6) (A := fun W' => Env w [(w.heap.size + 1 + 1, #[.int .i64 0], 27), (w.heap.size + 1, #[.bool false, .slice none 0 0], 78)] [(qn, (some ⟨bl, off, none⟩), qm, qc, x / y)] W') (B := fun W' => Blk W' b4 #[.bool qn, .slice (some ⟨bl, off, none⟩) qm qc] 78) (by kernel_rfl) ?_
        intro W hW
        have E := HE.out.drew
        rw [← hW] at E
        clear hW HE
        have hS := And.intro E.drop E.blks.1
        refine wpAnyM_take (i := 0) (v := .agg #[.bool qn, .slice (some ⟨bl, off, none⟩) qm qc]) rfl (by kernel_rfl) (by kernel_rfl) (by kernel_rfl) rfl rfl (by kernel_rfl) (by kernel_rfl) (fun _ _ _ h => absurd rfl (h.2 _)) (.inl ⟨rfl, fun w0 hw0 => ?a0⟩) hS ?_
        case a0 =>
          have e0 := hw0.2.c0; have e1 := hw0.2.c1
          go_simp
        clear hS
        refine wpAnyM_all (rs := [1]) (by kernel_rfl) (by simp) ?_
        intro i0 hi0
        obtain rfl : i0 = 1 := by simpa using hi0
        refine wpOp_plain rfl rfl fun K' hK' => ?_
        go_simp
        refine (one_calls _).mono ?_
        rintro e W11 ⟨on, oA, om, oc, rfl, ho, hb11⟩
        replace E := (E.below hb11).wd ho
        clear ho hb11
        refine hK' _ _ ⟨⟨E.drop.dropN, fun _ => E.blks.1⟩, ?_⟩
        clear hK' K'
        refine wpAnyM_all (rs := [2]) (by kernel_rfl) (by simp) ?_
        intro i0 hi0
        obtain rfl : i0 = 2 := by simpa using hi0
        refine wpOp_plain rfl rfl fun K' hK' => ?_
        go_simp
        refine (CP.out _ qn (some ⟨bl, off, none⟩) qm qc on oA om oc E.wds.2.1 E.wds.1).mono ?_
        rintro e W12 ⟨pn, pA, pm, pc, rfl, hp, hb12⟩
        replace E := (E.dropN.below hb12).wd hp
        clear hp hb12
        refine hK' _ _ ⟨⟨E.drop.dropN, fun _ => E.blks.1⟩, ?_⟩
        clear hK' K'
        have hS := And.intro E.drop.dropN E.blks.1
        refine wpAnyM_take (i := 3) (v := .agg #[.bool pn, .slice pA pm pc]) rfl (by kernel_rfl) (by kernel_rfl) (by kernel_rfl) rfl rfl (by kernel_rfl) (by kernel_rfl) (fun _ _ _ h => absurd rfl (h.2 _)) (.inl ⟨rfl, fun w0 hw0 => ?a3⟩) hS ?_
        case a3 =>
          have e0 := hw0.2.c0; have e1 := hw0.2.c1
          go_simp
        refine wpAnyM_take (i := 4) (v := .int .i64 0) rfl (by kernel_rfl) (by kernel_rfl) (by kernel_rfl) rfl rfl (by kernel_rfl) (by kernel_rfl) (fun _ _ _ h => absurd rfl (h.2 _)) (.inl ⟨rfl, fun w0 hw0 => ?a4⟩) hS ?_
        case a4 =>
          have e0 := hw0.2.c0; have e1 := hw0.2.c1
          go_simp
        clear hS
        refine wpAnyM_all (rs := [5]) (by kernel_rfl) (by simp) ?_
        intro i0 hi0
        obtain rfl : i0 = 5 := by simpa using hi0
        refine wpOp_plain rfl rfl fun K' hK' => ?_
        go_simp
        refine (must0 _ pn pA pm pc (x / y + 1) E.wds.1).mono ?_
        rintro e W13 ⟨sn, sA, sm, sc, rfl, hs, hb13⟩
        replace E := (E.dropN.below hb13).wd hs
        clear hs hb13
        refine hK' _ _ ⟨⟨E.drop.dropN, fun _ => E.blks.1⟩, ?_⟩
        clear hK' K'
        have f0 := E.blks.1.c0
        have f1 := E.blks.1.c1
        have f2 := E.blks.1.fr 0
        have f3 := E.blks.1.fr 1
        refine wpAnyM_all (rs := [6]) (by kernel_rfl) (by simp) ?_
        intro i0 hi0
        obtain rfl : i0 = 6 := by simpa using hi0
        refine wpOp_plain rfl rfl fun K' hK' => ?_
        go_simp
        replace E := E.set2 (by omega) (by simp [Free] <;> omega) (.bool sn) (.slice sA sm sc)
        clear f0 f1 f2 f3
        generalize (W13.setCell ⟨b4, 0, none⟩ (.bool sn)).setCell ⟨b4, 1, none⟩ (.slice sA sm sc) = WQ at *
        refine hK' _ _ ⟨⟨E.drop.dropN, fun h => absurd h (by simp)⟩, wpAnyM_done (by kernel_rfl) ⟨?_, fun _ h => by cases h⟩ _⟩
        clear hK' K'
        have HE := Lib.hid E
        clear E
        have e0 : WQ.cell? ⟨b4, 0, none⟩ = some (.bool sn) := HE.out.blks.1.at 0
        have e1 : WQ.cell? ⟨b4, 1, none⟩ = some (.slice sA sm sc) := HE.out.blks.1.at 1
        have f0 : WQ.cell? ⟨w.heap.size + 1, 0, none⟩ = some (.bool false) := HE.out.blks.2.2.1.at 0
        have f1 : WQ.cell? ⟨w.heap.size + 1, 1, none⟩ = some (.slice none 0 0) := HE.out.blks.2.2.1.at 1
        have f4 : WQ.cell? ⟨w.heap.size + 1 + 1, 0, none⟩ = some (.int .i64 0) := HE.out.blks.2.1.at 0
        have g0 := HE.out.blks.2.2.1.fr 0
        have g1 := HE.out.blks.2.2.1.fr 1
        have g4 := HE.out.blks.2.1.fr 0
        go_wp2
        have E0 : Env w [(w.heap.size + 1, #[.bool false, .slice none 0 0], 78), (w.heap.size + 1 + 1, #[.int .i64 0], 27)] [(sn, sA, sm, sc, x / y + 1)] WQ := by
          obtain ⟨⟨_, g2, g3, _⟩, ⟨h1, _⟩, hl⟩ := HE.out
          exact ⟨⟨g3, g2, trivial⟩, ⟨h1, trivial⟩, hl⟩
        have E := ((E0.set2 (by omega) (by simp [Free] <;> omega) (.bool sn) (.slice sA sm sc)).swap).setY (by omega) (by simp [Free] <;> omega) rfl 0 (.int .i64 0)
        have r0 : _ = some (Value.bool sn) := E.blks.2.1.at 0
        have r1 : _ = some (Value.slice sA sm sc) := E.blks.2.1.at 1
        have r4 : _ = some (Value.int .i64 0) := E.blks.1.at 0
        refine leaves_cons (f := 108) (args := #[.pointer (some ⟨w.heap.size + 1 + 1, 0, none⟩)]) (by simp) (by simp [go_sem]) ?_
        refine (catch_idle _ _).mono ?_
        rintro e u' w'' ⟨rfl, rfl, rfl⟩
        simp [Leaves, settle, results, Tryz.results81, go_sem, r0, r1, r4]
        rw [HRN.out]
        exact ⟨sn, sA, sm, sc, rfl, E.wds.1, E.bel⟩
      · have HRN : Hid (z = x / y) := Lib.hid (by rw [HRD.out, if_neg (by have := HC.out; omega), if_neg (fun h => hodd (hpar.2 h.2))])
        clear HRD hpar e0 e1
        have e0 : WQ.cell? ⟨b4, 0, none⟩ = some (.bool qn) := HE.out.blks.1.at 0
        have e1 : WQ.cell? ⟨b4, 1, none⟩ = some (.slice (some ⟨bl, off, none⟩) qm qc) := HE.out.blks.1.at 1
        have f0 : WQ.cell? ⟨w.heap.size + 1, 0, none⟩ = some (.bool false) := HE.out.blks.2.2.1.at 0
        have f1 : WQ.cell? ⟨w.heap.size + 1, 1, none⟩ = some (.slice none 0 0) := HE.out.blks.2.2.1.at 1
        have f4 : WQ.cell? ⟨w.heap.size + 1 + 1, 0, none⟩ = some (.int .i64 0) := HE.out.blks.2.1.at 0
        have g0 := HE.out.blks.2.2.1.fr 0
        have g1 := HE.out.blks.2.2.1.fr 1
        have g4 := HE.out.blks.2.1.fr 0
        go_wp2
        have E0 : Env w [(w.heap.size + 1, #[.bool false, .slice none 0 0], 78), (w.heap.size + 1 + 1, #[.int .i64 0], 27)] [(qn, (some ⟨bl, off, none⟩), qm, qc, x / y)] WQ := by
          obtain ⟨⟨_, g2, g3, _⟩, ⟨h1, _⟩, hl⟩ := HE.out
          exact ⟨⟨g3, g2, trivial⟩, ⟨h1, trivial⟩, hl⟩
        have E := ((E0.set2 (by omega) (by simp [Free] <;> omega) (.bool qn) (.slice (some ⟨bl, off, none⟩) qm qc)).swap).setY (by omega) (by simp [Free] <;> omega) rfl 0 (.int .i64 0)
        have r0 : _ = some (Value.bool qn) := E.blks.2.1.at 0
        have r1 : _ = some (Value.slice (some ⟨bl, off, none⟩) qm qc) := E.blks.2.1.at 1
        have r4 : _ = some (Value.int .i64 0) := E.blks.1.at 0
        refine leaves_cons (f := 108) (args := #[.pointer (some ⟨w.heap.size + 1 + 1, 0, none⟩)]) (by simp) (by simp [go_sem]) ?_
        refine (catch_idle _ _).mono ?_
        rintro e u' w'' ⟨rfl, rfl, rfl⟩
        simp [Leaves, settle, results, Tryz.results81, go_sem, r0, r1, r4]
        rw [HRN.out]
        exact ⟨qn, (some ⟨bl, off, none⟩), qm, qc, rfl, E.wds.1, E.bel⟩
  · have hcm : cmpZ (x % y + x % y) y = -1 := cmpZ_lt hc
    have HRN : Hid (z = x / y) := Lib.hid (by rw [HRD.out, if_neg (by omega), if_neg (by omega)])
    rw [hcm]
    clear hc hcm HRD
    have e0 : WQ.cell? ⟨b4, 0, none⟩ = some (.bool qn) := HE.out.blks.1.at 0
    have e1 : WQ.cell? ⟨b4, 1, none⟩ = some (.slice qA qm qc) := HE.out.blks.1.at 1
    have f0 : WQ.cell? ⟨w.heap.size + 1, 0, none⟩ = some (.bool false) := HE.out.blks.2.2.1.at 0
    have f1 : WQ.cell? ⟨w.heap.size + 1, 1, none⟩ = some (.slice none 0 0) := HE.out.blks.2.2.1.at 1
    have f4 : WQ.cell? ⟨w.heap.size + 1 + 1, 0, none⟩ = some (.int .i64 0) := HE.out.blks.2.1.at 0
    have g0 := HE.out.blks.2.2.1.fr 0
    have g1 := HE.out.blks.2.2.1.fr 1
    have g4 := HE.out.blks.2.1.fr 0
    go_wp2
    have E0 : Env w [(w.heap.size + 1, #[.bool false, .slice none 0 0], 78), (w.heap.size + 1 + 1, #[.int .i64 0], 27)] [(qn, qA, qm, qc, x / y)] WQ := by
      obtain ⟨⟨_, g2, g3, _⟩, ⟨h1, _⟩, hl⟩ := HE.out
      exact ⟨⟨g3, g2, trivial⟩, ⟨h1, trivial⟩, hl⟩
    have E := ((E0.set2 (by omega) (by simp [Free] <;> omega) (.bool qn) (.slice qA qm qc)).swap).setY (by omega) (by simp [Free] <;> omega) rfl 0 (.int .i64 0)
    have r0 : _ = some (Value.bool qn) := E.blks.2.1.at 0
    have r1 : _ = some (Value.slice qA qm qc) := E.blks.2.1.at 1
    have r4 : _ = some (Value.int .i64 0) := E.blks.1.at 0
    refine leaves_cons (f := 108) (args := #[.pointer (some ⟨w.heap.size + 1 + 1, 0, none⟩)]) (by simp) (by simp [go_sem]) ?_
    refine (catch_idle _ _).mono ?_
    rintro e u' w'' ⟨rfl, rfl, rfl⟩
    simp [Leaves, settle, results, Tryz.results81, go_sem, r0, r1, r4]
    rw [HRN.out]
    exact ⟨qn, qA, qm, qc, rfl, E.wds.1, E.bel⟩

end Go.Proofs.YtilaheplclaokaaGreat
namespace Go.Proofs.YtilaheplclaokaaGreat

/-- A number of few digits fits. -/
theorem fit_small {x : Int} (h : decide (-1000000000000000000000000000000000000000000000000000000000000000000000000 ≤ x ∧ x ≤ 1000000000000000000000000000000000000000000000000000000000000000000000000) = true) : Num.fit x = x := by
  have h2 : (1000000000000000000000000000000000000000000000000000000000000000000000000 : Int) < 2 ^ 250 := by decide
  have h1 : (2 : Int) ^ 250 < 2 ^ 131072 := Int.pow_lt_pow_of_lt (by omega) (by omega)
  have hP : Num.P 4096 = 2 ^ 131072 := by rw [Num.P_pow2]
  have h3 := of_decide_eq_true h
  refine Num.fit_of ?_
  simp only [Num.fits, decide_eq_true_eq, hP]
  generalize (2 : Int) ^ 131072 = b at *
  generalize (2 : Int) ^ 250 = c at *
  omega
theorem shift_lit {x : Int} (k : Nat) (D z : Int) (hk : 0 < k) (hk1 : k ≤ 131072) (hD : (2 : Int) ^ k = D) (hz : x / D = z) (h : decide (-1000000000000000000000000000000000000000000000000000000000000000000000000 ≤ z ∧ z ≤ 1000000000000000000000000000000000000000000000000000000000000000000000000) = true) : shiftF x (-(k : Int)) = z := by
  unfold shiftF
  rw [if_pos (by omega), shiftZ_neg x k hk, hD, hz, fit_small h]
theorem dbl_lit (q : Quad) (a b c : Int) (h1 : (q.s * q.c) / 618970019642690137449562112 = a) (h2 : (q.s * q.s) / 618970019642690137449562112 = b) (h3 : 1237940039285380274899124224 - b = c) (h0 : shiftF 1 90 = 1237940039285380274899124224)
    (k1 : decide (-1000000000000000000000000000000000000000000000000000000000000000000000000 ≤ q.s * q.c ∧ q.s * q.c ≤ 1000000000000000000000000000000000000000000000000000000000000000000000000) = true) (k2 : decide (-1000000000000000000000000000000000000000000000000000000000000000000000000 ≤ q.s * q.s ∧ q.s * q.s ≤ 1000000000000000000000000000000000000000000000000000000000000000000000000) = true)
    (k3 : decide (-1000000000000000000000000000000000000000000000000000000000000000000000000 ≤ a ∧ a ≤ 1000000000000000000000000000000000000000000000000000000000000000000000000) = true) (k4 : decide (-1000000000000000000000000000000000000000000000000000000000000000000000000 ≤ b ∧ b ≤ 1000000000000000000000000000000000000000000000000000000000000000000000000) = true) (k5 : decide (-1000000000000000000000000000000000000000000000000000000000000000000000000 ≤ c ∧ c ≤ 1000000000000000000000000000000000000000000000000000000000000000000000000) = true) :
    dbl 90 q = ⟨a, 2 * (q.rs + q.rc) + 4, c, 4 * q.rs + 4⟩ := by
  unfold dbl
  have e : (1 - 90 : Int) = -((89 : Nat) : Int) := by decide
  rw [e, fit_small k1, fit_small k2, shift_lit 89 618970019642690137449562112 a (by omega) (by omega) (by decide) h1 k3, shift_lit 89 618970019642690137449562112 b (by omega) (by omega) (by decide) h2 k4, h0, h3, fit_small k5]

theorem one_90 : shiftF 1 90 = 1237940039285380274899124224 := by
  unfold shiftF
  rw [if_pos (by omega)]
  have h : shiftZ 1 90 = 1237940039285380274899124224 := by decide
  rw [h, fit_small (by decide)]

theorem atanN_18 : atanN 90 18 = 10 := by
  unfold atanN
  rw [one_90, show (1237940039285380274899124224 : Int) / 18 = 68774446626965570827729123 by decide, show (18 : Int) * 18 = 324 by decide]
  exact firstZ_eq (by decide) (by omega) (by decide)
theorem atanV_18 : atanV 90 18 = 68703821764162582676147620 := by
  unfold atanV
  rw [atanN_18, one_90, show (1237940039285380274899124224 : Int) / 18 = 68774446626965570827729123 by decide, show (18 : Int) * 18 = 324 by decide]
  decide
theorem atanR_18 : atanR 90 18 = 24 := by
  unfold atanR
  rw [atanN_18]
  decide
theorem atanN_57 : atanN 90 57 = 7 := by
  unfold atanN
  rw [one_90, show (1237940039285380274899124224 : Int) / 57 = 21718246303252285524546039 by decide, show (57 : Int) * 57 = 3249 by decide]
  exact firstZ_eq (by decide) (by omega) (by decide)
theorem atanV_57 : atanV 90 57 = 21716018516607335884401602 := by
  unfold atanV
  rw [atanN_57, one_90, show (1237940039285380274899124224 : Int) / 57 = 21718246303252285524546039 by decide, show (57 : Int) * 57 = 3249 by decide]
  decide
theorem atanR_57 : atanR 90 57 = 18 := by
  unfold atanR
  rw [atanN_57]
  decide
theorem atanN_239 : atanN 90 239 = 5 := by
  unfold atanN
  rw [one_90, show (1237940039285380274899124224 : Int) / 239 = 5179665436340503242255749 by decide, show (239 : Int) * 239 = 57121 by decide]
  exact firstZ_eq (by decide) (by omega) (by decide)
theorem atanV_239 : atanV 90 239 = 5179635210381400501451581 := by
  unfold atanV
  rw [atanN_239, one_90, show (1237940039285380274899124224 : Int) / 239 = 5179665436340503242255749 by decide, show (239 : Int) * 239 = 57121 by decide]
  decide
theorem atanR_239 : atanR 90 239 = 14 := by
  unfold atanR
  rw [atanN_239]
  decide
theorem piV_90 : piV 90 = 3889103333003610706726905404 := by
  unfold piV
  rw [atanV_18, atanV_57, atanV_239, show (48 : Int) * 68703821764162582676147620 = 3297783444679803968455085760 by decide, show (32 : Int) * 21716018516607335884401602 = 694912592531434748300851264 by decide, show (20 : Int) * 5179635210381400501451581 = 103592704207628010029031620 by decide]
  rw [fit_small (x := 3297783444679803968455085760) (by decide), fit_small (x := 694912592531434748300851264) (by decide), fit_small (x := 103592704207628010029031620) (by decide), show (3297783444679803968455085760 : Int) + 694912592531434748300851264 = 3992696037211238716755937024 by decide, fit_small (x := 3992696037211238716755937024) (by decide), show (3992696037211238716755937024 : Int) - 103592704207628010029031620 = 3889103333003610706726905404 by decide, fit_small (by decide)]
theorem piR_90 : piR 90 = 2008 := by
  unfold piR
  rw [atanR_18, atanR_57, atanR_239]
  decide
theorem normA_1 : normA 1 = 1 := by decide
theorem restV_1 : restV 1 90 = 6001702674388288 := by
  unfold restV
  rw [normA_1, piV_90, show (3889103333003610706726905404 * (2 * ((1 : Int) % 324000000000)) : Int) = 7778206666007221413453810808 by decide, fit_small (by decide)]
  decide
theorem restR_1 : restR 90 = 2009 := by
  unfold restR
  rw [piR_90]
  decide
theorem half_90 : shiftF (piV 90) (-1) = 1944551666501805353363452702 := by
  rw [piV_90]
  exact shift_lit 1 2 1944551666501805353363452702 (by omega) (by omega) (by decide) (by decide) (by decide)
theorem miss_1 : Num.fit (shiftF (piV 90) (-1) - 6001702674388288) = 1944551666495803650689064414 := by
  rw [half_90, show (1944551666501805353363452702 - 6001702674388288 : Int) = 1944551666495803650689064414 by decide, fit_small (by decide)]
theorem turnX_1 : turnX 6001702674388288 2009 90 = 6001702674388288 := by
  unfold turnX
  simp only [miss_1]
  decide
theorem turnR_1 : turnR 6001702674388288 2009 90 = 2009 := by
  unfold turnR
  rw [miss_1]
  decide
theorem turnC_1 : turnC 0 6001702674388288 2009 90 = false := by
  unfold turnC turnB
  rw [miss_1]
  decide
theorem circY_1 : circY 6001702674388288 = 187553208574634 := shift_lit 5 32 187553208574634 (by omega) (by omega) (by decide) (by decide) (by decide)
theorem circY2_1 : circY2 6001702674388288 90 = 28 := by
  unfold circY2
  rw [circY_1, show (187553208574634 : Int) * 187553208574634 = 35176206046640164581948233956 by decide, fit_small (by decide)]
  exact shift_lit 90 1237940039285380274899124224 28 (by omega) (by omega) (by decide) (by decide) (by decide)

theorem serS_0 : serT 28 90 1 187553208574634 0 = 187553208574634 := rfl
theorem serS_1 : serT 28 90 1 187553208574634 1 = 0 := by
  show shiftF (Num.fit (serT 28 90 1 187553208574634 0 * 28)) (-90) / (((1 : Int) + 2 * ((0 : Nat) : Int) + 1) * (1 + 2 * ((0 : Nat) : Int) + 2)) = 0
  rw [serS_0, show (187553208574634 : Int) * 28 = 5251489840089752 by decide, fit_small (by decide), show (-90 : Int) = -((90 : Nat) : Int) by decide, shift_lit 90 1237940039285380274899124224 0 (by omega) (by omega) (by decide) (by decide) (by decide)]
  decide
theorem serS_ne : ∀ j, j < 1 → serT 28 90 1 187553208574634 j ≠ 0
  | 0, _ => by rw [serS_0]; decide
  | j + 1, h => absurd h (by omega)
theorem serS_N : serN 28 90 1 187553208574634 = 1 := firstZ_eq serS_1 (by omega) serS_ne
theorem serS_V : serV 28 90 1 187553208574634 = 187553208574634 := by
  unfold serV
  rw [serS_N]
  show (0 : Int) + serT 28 90 1 187553208574634 0 = 187553208574634
  rw [serS_0]
  decide
theorem serC_0 : serT 28 90 0 1237940039285380274899124224 0 = 1237940039285380274899124224 := rfl
theorem serC_1 : serT 28 90 0 1237940039285380274899124224 1 = 14 := by
  show shiftF (Num.fit (serT 28 90 0 1237940039285380274899124224 0 * 28)) (-90) / (((0 : Int) + 2 * ((0 : Nat) : Int) + 1) * (0 + 2 * ((0 : Nat) : Int) + 2)) = 14
  rw [serC_0, show (1237940039285380274899124224 : Int) * 28 = 34662321099990647697175478272 by decide, fit_small (by decide), show (-90 : Int) = -((90 : Nat) : Int) by decide, shift_lit 90 1237940039285380274899124224 28 (by omega) (by omega) (by decide) (by decide) (by decide)]
  decide
theorem serC_2 : serT 28 90 0 1237940039285380274899124224 2 = 0 := by
  show shiftF (Num.fit (serT 28 90 0 1237940039285380274899124224 1 * 28)) (-90) / (((0 : Int) + 2 * ((1 : Nat) : Int) + 1) * (0 + 2 * ((1 : Nat) : Int) + 2)) = 0
  rw [serC_1, show (14 : Int) * 28 = 392 by decide, fit_small (by decide), show (-90 : Int) = -((90 : Nat) : Int) by decide, shift_lit 90 1237940039285380274899124224 0 (by omega) (by omega) (by decide) (by decide) (by decide)]
  decide
theorem serC_ne : ∀ j, j < 2 → serT 28 90 0 1237940039285380274899124224 j ≠ 0
  | 0, _ => by rw [serC_0]; decide
  | 1, _ => by rw [serC_1]; decide
  | j + 2, h => absurd h (by omega)
theorem serC_N : serN 28 90 0 1237940039285380274899124224 = 2 := firstZ_eq serC_2 (by omega) serC_ne
theorem serC_V : serV 28 90 0 1237940039285380274899124224 = 1237940039285380274899124210 := by
  unfold serV
  rw [serC_N]
  show (0 : Int) + serT 28 90 0 1237940039285380274899124224 0 - serT 28 90 0 1237940039285380274899124224 1 = 1237940039285380274899124210
  rw [serC_0, serC_1]
  decide
theorem circ_0 : circ 6001702674388288 2009 90 0 = ⟨187553208574634, 2017, 1237940039285380274899124210, 2021⟩ := by
  show (⟨serV (circY2 6001702674388288 90) 90 1 (circY 6001702674388288), serR (circY2 6001702674388288 90) 90 1 (circY 6001702674388288) 2009, serV (circY2 6001702674388288 90) 90 0 (shiftF 1 90), serR (circY2 6001702674388288 90) 90 0 (shiftF 1 90) 2009⟩ : Quad) = _
  rw [circY2_1, circY_1, one_90, serS_V, serC_V]
  unfold serR
  rw [serS_N, serC_N]
  rfl
theorem circ_1 : circ 6001702674388288 2009 90 1 = ⟨375106417149267, 8080, 1237940039285380274899124168, 8072⟩ := by
  show dbl 90 (circ 6001702674388288 2009 90 0) = _
  rw [circ_0, dbl_lit _ 375106417149267 56 1237940039285380274899124168 (by decide) (by decide) (by decide) one_90 (by decide) (by decide) (by decide) (by decide) (by decide)]
  rfl
theorem circ_2 : circ 6001702674388288 2009 90 2 = ⟨750212834298533, 32308, 1237940039285380274899123997, 32324⟩ := by
  show dbl 90 (circ 6001702674388288 2009 90 1) = _
  rw [circ_1, dbl_lit _ 750212834298533 227 1237940039285380274899123997 (by decide) (by decide) (by decide) one_90 (by decide) (by decide) (by decide) (by decide) (by decide)]
  rfl
theorem circ_3 : circ 6001702674388288 2009 90 3 = ⟨1500425668597065, 129268, 1237940039285380274899123315, 129236⟩ := by
  show dbl 90 (circ 6001702674388288 2009 90 2) = _
  rw [circ_2, dbl_lit _ 1500425668597065 909 1237940039285380274899123315 (by decide) (by decide) (by decide) one_90 (by decide) (by decide) (by decide) (by decide) (by decide)]
  rfl
theorem circ_4 : circ 6001702674388288 2009 90 4 = ⟨3000851337194129, 517012, 1237940039285380274899120587, 517076⟩ := by
  show dbl 90 (circ 6001702674388288 2009 90 3) = _
  rw [circ_3, dbl_lit _ 3000851337194129 3637 1237940039285380274899120587 (by decide) (by decide) (by decide) one_90 (by decide) (by decide) (by decide) (by decide) (by decide)]
  rfl
theorem circ_5 : circ 6001702674388288 2009 90 5 = ⟨6001702674388257, 2068180, 1237940039285380274899109676, 2068052⟩ := by
  show dbl 90 (circ 6001702674388288 2009 90 4) = _
  rw [circ_4, dbl_lit _ 6001702674388257 14548 1237940039285380274899109676 (by decide) (by decide) (by decide) one_90 (by decide) (by decide) (by decide) (by decide) (by decide)]
  rfl
theorem sineV_1 : sineV 1 90 = 6001702674388257 := by
  unfold sineV
  rw [normA_1, restV_1, restR_1, show (1 : Int) / 324000000000 = 0 by decide]
  unfold turnV
  simp only [turnX_1, turnR_1, turnC_1, circ_5]
  decide
theorem sineR_1 : sineR 1 90 = 2068180 := by
  unfold sineR
  rw [normA_1, restV_1, restR_1, show (1 : Int) / 324000000000 = 0 by decide]
  unfold turnE
  simp only [turnX_1, turnR_1, turnC_1, circ_5]
  decide
theorem endL_1 : endL 6001702674388257 2068180 90 = 5 := by
  unfold endL
  rw [show (6001702674388257 : Int) - 2068180 = 6001702672320077 by decide, fit_small (by decide), show (40 - 90 : Int) = -((50 : Nat) : Int) by decide]
  exact shift_lit 50 1125899906842624 5 (by omega) (by omega) (by decide) (by decide) (by decide)
theorem endH_1 : endH 6001702674388257 2068180 90 = 5 := by
  unfold endH
  rw [show (6001702674388257 : Int) + 2068180 = 6001702676456437 by decide, fit_small (by decide), show (40 - 90 : Int) = -((50 : Nat) : Int) by decide]
  exact shift_lit 50 1125899906842624 5 (by omega) (by omega) (by decide) (by decide) (by decide)
theorem ziv_1 : ziv 1 90 12 = 5 := by
  show (if endL (sineV 1 90) (sineR 1 90) 90 = endH (sineV 1 90) (sineR 1 90) 90 then endL (sineV 1 90) (sineR 1 90) 90 else ziv 1 (2 * 90) 11) = 5
  rw [sineV_1, sineR_1, endL_1, endH_1]
  rfl
/-- The sine of the least angle is from 5 to 6 units. -/
theorem sin_1 : sinLo 1 = 5 ∧ sinHi 1 = 6 := by
  have h : (plainV 1).2 = false := by decide
  unfold sinLo sinHi
  rw [h, ziv_1]
  decide

end Go.Proofs.YtilaheplclaokaaGreat
namespace Go.Proofs.YtilaheplclaokaaGreat
open Go.RowKit Go.Shelf
attribute [local go_sem] Oper.semAt_some

/-- The fraction of a year's motion, and its sum with a coordinate. -/
def mvG (by' mi : Int) : Int := ((Int.gcd (by' * mi) 31557600000000 : Nat) : Int)
def mvX (by' mi : Int) : Int := by' * mi / mvG by' mi
def mvY (by' mi : Int) : Int := 31557600000000 / mvG by' mi
def mvS (a by' mi : Int) : Int := mvX by' mi * 1 + a * mvY by' mi
def mvD (by' mi : Int) : Int := mvY by' mi * 1
def mvH (a by' mi : Int) : Int := ((Int.gcd (mvS a by' mi) (mvD by' mi) : Nat) : Int)
/-- The coordinate, moved and rounded. -/
def moved (a by' mi : Int) : Int := rnd (mvS a by' mi / mvH a by' mi) (mvD by' mi / mvH a by' mi)

theorem gcd_quot {x y : Int} (hy : 0 < y) : Int.gcd (x / ((Int.gcd x y : Nat) : Int)) (y / ((Int.gcd x y : Nat) : Int)) = 1 := by
  have h := gcd_le (x := x) hy
  exact Int.gcd_ediv_gcd_ediv_gcd (by omega)

structure MvOk (a by' mi : Int) : Prop where
  g0 : 0 < mvG by' mi
  y0 : 0 < mvY by' mi
  y1 : mvY by' mi ≤ 31557600000000
  x0 : -200000000000000000000000 ≤ mvX by' mi
  x1 : mvX by' mi ≤ 200000000000000000000000
  g1 : Int.gcd (mvX by' mi) (mvY by' mi) = 1
  h0 : 0 < mvH a by' mi
  d0 : 0 < mvD by' mi / mvH a by' mi
  d1 : mvD by' mi / mvH a by' mi ≤ 31557600000000
  g2 : Int.gcd (mvS a by' mi / mvH a by' mi) (mvD by' mi / mvH a by' mi) = 1
  s0 : -1000000000000000000000000000 ≤ mvS a by' mi
  s1 : mvS a by' mi ≤ 1000000000000000000000000000
  q0 : -8000000000000 ≤ mvS a by' mi / mvH a by' mi / (mvD by' mi / mvH a by' mi)
  q1 : mvS a by' mi / mvH a by' mi / (mvD by' mi / mvH a by' mi) ≤ 8000000000000

theorem prod_le {a b A B : Int} (ha : -A ≤ a ∧ a ≤ A) (hb : -B ≤ b ∧ b ≤ B) (hA : 0 ≤ A) (hB : 0 ≤ B) : -(A * B) ≤ a * b ∧ a * b ≤ A * B := by
  have h : (a * b).natAbs ≤ A.natAbs * B.natAbs := by
    rw [Int.natAbs_mul]
    exact Nat.mul_le_mul (by omega) (by omega)
  have h2 : ((A.natAbs * B.natAbs : Nat) : Int) = A * B := by
    rw [Int.natCast_mul]
    congr 1 <;> omega
  omega

theorem mv_ok {a by' mi : Int} (ha : -1296000000000 ≤ a ∧ a ≤ 1296000000000) (hb : -20000000 ≤ by' ∧ by' ≤ 20000000) (hm : -10000000000000000 ≤ mi ∧ mi ≤ 10000000000000000) : MvOk a by' mi := by
  have hp := prod_le hb hm (by omega) (by omega)
  have hg := gcd_le (x := by' * mi) (y := 31557600000000) (by omega)
  have hd1 : mvG by' mi ∣ by' * mi := Int.gcd_dvd_left ..
  have hd2 : mvG by' mi ∣ 31557600000000 := Int.gcd_dvd_right ..
  have hq := gcd_quot (x := by' * mi) (y := 31557600000000) (by omega)
  have hg0 : 0 < mvG by' mi := hg.1
  have hy0 : 0 < mvY by' mi := Int.ediv_pos_of_pos_of_dvd (by omega) (by omega) hd2
  have hy1 : mvY by' mi ≤ 31557600000000 := Int.ediv_le_self _ (by omega)
  have hXg : mvX by' mi * mvG by' mi = by' * mi := Int.ediv_mul_cancel hd1
  have hYg : mvY by' mi * mvG by' mi = 31557600000000 := Int.ediv_mul_cancel hd2
  have hx : -200000000000000000000000 ≤ mvX by' mi ∧ mvX by' mi ≤ 200000000000000000000000 := by
    have h := Int.natAbs_ediv_le_natAbs (by' * mi) (mvG by' mi)
    have e : mvX by' mi = by' * mi / mvG by' mi := rfl
    omega
  have haY := prod_le (A := 1296000000000) (B := 31557600000000) ha (b := mvY by' mi) (by omega) (by omega) (by omega)
  have hS : mvS a by' mi = mvX by' mi * 1 + a * mvY by' mi := rfl
  have hD : mvD by' mi = mvY by' mi * 1 := rfl
  have hD0 : 0 < mvD by' mi := by omega
  have hh := gcd_le (x := mvS a by' mi) hD0
  have hh1 : mvH a by' mi ∣ mvS a by' mi := Int.gcd_dvd_left ..
  have hh2 : mvH a by' mi ∣ mvD by' mi := Int.gcd_dvd_right ..
  have hq2 := gcd_quot (x := mvS a by' mi) hD0
  have hh0 : 0 < mvH a by' mi := hh.1
  have hd0 : 0 < mvD by' mi / mvH a by' mi := Int.ediv_pos_of_pos_of_dvd hD0 (by omega) hh2
  have hd1' : mvD by' mi / mvH a by' mi ≤ 31557600000000 := Int.le_trans (Int.ediv_le_self _ (by omega)) (by omega)
  have hquot : mvS a by' mi / mvH a by' mi / (mvD by' mi / mvH a by' mi) = mvX by' mi / mvY by' mi + a := by
    obtain ⟨c, hc⟩ := hh1
    obtain ⟨d, hd⟩ := hh2
    have e1 : mvS a by' mi / mvH a by' mi = c := by rw [hc]; exact Int.mul_ediv_cancel_left _ (by omega)
    have e2 : mvD by' mi / mvH a by' mi = d := by rw [hd]; exact Int.mul_ediv_cancel_left _ (by omega)
    rw [e1, e2]
    have e3 : mvS a by' mi / mvD by' mi = c / d := by
      rw [hc, hd]
      exact Int.mul_ediv_mul_of_pos _ _ (by omega)
    rw [← e3, hS, hD, Int.mul_one, Int.mul_one]
    exact Int.add_mul_ediv_right _ _ (by omega)
  have hXY : -7000000000 ≤ mvX by' mi / mvY by' mi ∧ mvX by' mi / mvY by' mi ≤ 7000000000 := by
    have e : mvX by' mi / mvY by' mi = by' * mi / 31557600000000 := by
      rw [← hXg, ← hYg]
      exact (Int.mul_ediv_mul_of_pos_left _ _ hg0).symm
    rw [e]
    omega
  exact ⟨hg0, hy0, hy1, hx.1, hx.2, hq, hh0, hd0, hd1', hq2, by omega, by omega, by omega, by omega⟩

/-- A coordinate that moves by nothing is what it was. -/
theorem moved_zero (a by' : Int) : moved a by' 0 = a := by
  have e1 : mvG by' 0 = 31557600000000 := by unfold mvG; rw [Int.mul_zero]; decide
  have e2 : mvX by' 0 = 0 := by unfold mvX; rw [Int.mul_zero, Int.zero_ediv]
  have e3 : mvY by' 0 = 1 := by unfold mvY; rw [e1]; decide
  have e4 : mvS a by' 0 = a := by unfold mvS; rw [e2, e3]; omega
  have e5 : mvD by' 0 = 1 := by unfold mvD; rw [e3]; decide
  have e6 : mvH a by' 0 = 1 := by unfold mvH; rw [e4, e5]; simp
  unfold moved
  rw [e4, e5, e6, Int.ediv_one, show (1 : Int) / 1 = 1 by decide]
  unfold rnd
  rw [Int.emod_one, Int.ediv_one]
  rw [if_neg (by omega), if_neg (by omega)]

end Go.Proofs.YtilaheplclaokaaGreat
namespace Go.Proofs.YtilaheplclaokaaGreat
open Go.RowKit Go.Shelf
attribute [local go_sem] Oper.semAt_some

theorem fits_lit {x : Int} (h : -1000000000000000000000000000000000000000000000000000000000000 ≤ x ∧ x ≤ 1000000000000000000000000000000000000000000000000000000000000) : Num.fits x = true := by
  have h2 : (1000000000000000000000000000000000000000000000000000000000000 : Int) < 2 ^ 250 := by decide
  have h1 : (2 : Int) ^ 250 < 2 ^ 131072 := Int.pow_lt_pow_of_lt (by omega) (by omega)
  have h3 := Int.lt_trans h2 h1
  clear h1 h2
  have hP : Num.P 4096 = 2 ^ 131072 := by rw [Num.P_pow2]
  simp only [Num.fits, decide_eq_true_eq, hP]
  generalize (2 : Int) ^ 131072 = b at *
  omega
theorem cutFrac {P : Program} {c : Code} {K : Act → World → Prop} {Q : Exit → Act → World → Prop} {a : Act} {w : World} {F : Nat → Bool → Option Addr → Nat → Nat → Bool → Option Addr → Nat → Nat → World → Prop} (f : Nat → Bool → Option Addr → Nat → Nat → Bool → Option Addr → Nat → Nat → Bool → Option Addr → Nat → Nat → Act)
    (main : (∀ b n0 A0 k0 c0 n1 A1 k1 c1 n2 A2 k2 c2 W, F b n1 A1 k1 c1 n2 A2 k2 c2 W → K (f b n0 A0 k0 c0 n1 A1 k1 c1 n2 A2 k2 c2) W) → c.wp P (Exit.then K Q) a w) (key : ∀ b n0 A0 k0 c0 n1 A1 k1 c1 n2 A2 k2 c2 W, F b n1 A1 k1 c1 n2 A2 k2 c2 W → K (f b n0 A0 k0 c0 n1 A1 k1 c1 n2 A2 k2 c2) W) : c.wp P (Exit.then K Q) a w := main key

set_option maxRecDepth 100000 in
set_option maxHeartbeats 2000000 in
theorem motion_calls (w : World) (a by' mi : Int) (ha : -1296000000000 ≤ a ∧ a ≤ 1296000000000) (hb : -20000000 ≤ by' ∧ by' ≤ 20000000) (hm : -10000000000000000 ≤ mi ∧ mi ≤ 10000000000000000) :
    Calls Tryz.prog 37 #[.int .i64 a, .int .i64 by', .int .i64 mi] w (OkPost (.tuple #[.int .i64 (moved a by' mi), .int .i64 0]) w) := by
  have ok := mv_ok ha hb hm
  have hp := prod_le hb hm (by omega) (by omega)
  have haY := prod_le (A := 1296000000000) (B := 31557600000000) ha (b := mvY by' mi) (by have := ok.y0; have := ok.y1; omega) (by omega) (by omega)
  have hadd : AddOk (mvX by' mi) (mvY by' mi) a 1 := by
    have h1 := ok.x0; have h2 := ok.x1; have h3 := ok.y0; have h4 := ok.y1
    exact ⟨ok.y0, by omega, ok.g1, by simp, fits_lit (by omega), fits_lit (by omega), fits_lit (by omega), fits_lit (by omega)⟩
  have CF1 := Lib.hid fun w' => From_calls w' by' (by omega) (by omega)
  have CF2 := Lib.hid fun w' => From_calls w' mi (by omega) (by omega)
  have CF3 := Lib.hid fun w' => From_calls w' 31557600000000 (by omega) (by omega)
  have CM := Lib.hid fun w' n A m c n' A' m' c' p q => (Mul_calls w' n n' A A' m m' c c' by' mi p q).mono fun e w2 h => num_ok (fits_lit (by omega)) h
  have CK : Hid (∀ (w' : World) n A m c n' A' m' c', WD w' n A m c (by' * mi) → WD w' n' A' m' c' 31557600000000 → Calls Tryz.prog 78 #[.agg #[.bool n, .slice A m c], .agg #[.bool n', .slice A' m' c']] w' (MakePost (mvX by' mi) (mvY by' mi) w')) := Lib.hid fun w' n A m c n' A' m' c' p q => make_calls w' n n' A A' m c m' c' (by' * mi) 31557600000000 p q (by omega)
  have CO : Hid (∀ w' : World, Calls Tryz.prog 79 #[.int .i64 a, .int .i64 1] w' (MakePost a 1 w')) := Lib.hid fun w' => by
    have h := of_calls w' a 1 (by omega) (by omega) (by omega) (by omega)
    have e : ((Int.gcd a 1 : Nat) : Int) = 1 := by simp
    rw [e, Int.ediv_one, show (1 : Int) / 1 = 1 by decide] at h
    exact h
  have CD : Hid (∀ (w' : World) n bn A bA m c bm bc n' bn' A' bA' m' c' bm' bc', WD w' n A m c (mvX by' mi) → WD w' bn bA bm bc (mvY by' mi) → WD w' n' A' m' c' a → WD w' bn' bA' bm' bc' 1 → Calls Tryz.prog 80 #[.agg #[.bool n, .slice A m c, .bool bn, .slice bA bm bc], .agg #[.bool n', .slice A' m' c', .bool bn', .slice bA' bm' bc']] w' (MakePost (mvS a by' mi / mvH a by' mi) (mvD by' mi / mvH a by' mi) w')) := Lib.hid fun w' n bn A bA m c bm bc n' bn' A' bA' m' c' bm' bc' p q r s => fadd_calls w' n bn A bA m c bm bc n' bn' A' bA' m' c' bm' bc' (mvX by' mi) (mvY by' mi) a 1 p q r s hadd
  have CR : Hid (∀ (w' : World) n bn A bA m c bm bc, WD w' n A m c (mvS a by' mi / mvH a by' mi) → WD w' bn bA bm bc (mvD by' mi / mvH a by' mi) → Calls Tryz.prog 81 #[.agg #[.bool n, .slice A m c, .bool bn, .slice bA bm bc]] w' (NumOk (moved a by' mi) w')) := Lib.hid fun w' n bn A bA m c bm bc p q => round_calls w' n bn A bA m c bm bc _ _ p q ok.d0 ok.g2 (fits_lit (by have := ok.d0; have := ok.d1; omega)) (fits_lit (by have := ok.q0; have := ok.q1; omega))
  have hnear := rnd_near (mvS a by' mi / mvH a by' mi) (mvD by' mi / mvH a by' mi)
  have hq0 := ok.q0
  have hq1 := ok.q1
  have hmv : moved a by' mi = rnd (mvS a by' mi / mvH a by' mi) (mvD by' mi / mvH a by' mi) := rfl
  have hin : in64 (moved a by' mi) = true := by unfold in64; rw [decide_eq_true_eq, hmv]; omega
  have CI : Hid (∀ (w' : World) n A m c, WD w' n A m c (moved a by' mi) → Calls Tryz.prog 82 #[.agg #[.bool n, .slice A m c]] w' (OkPost (.tuple #[.int .i64 (moved a by' mi), .int .i64 0]) w')) := Lib.hid fun w' n A m c p => by
    have h := Int_calls w' n A m c (moved a by' mi) p
    rw [int64Z_of hin, int64E_of hin] at h
    exact h
  clear ok hp haY hadd hnear hq0 hq1 hmv hin ha hb hm
  generalize moved a by' mi = z at *
  generalize mvS a by' mi / mvH a by' mi = sx at *
  generalize mvD by' mi / mvH a by' mi = sy at *
  generalize mvX by' mi = fx at *
  generalize mvY by' mi = fy at *
  go_enter Tryz.func37, Tryz.ntmps37
  go_wp2_with fail
  go_at_call 40
  refine (CF1.out _).mono ?_
  rintro e W1 ⟨n1, A1, m1, c1, rfl, h1, hb1⟩
  have HE := Lib.hid (((Env.start w).below hb1).wd h1)
  clear hb1 h1
  go_wp2_with fail
  go_at_call 40
  refine (CF2.out _).mono ?_
  rintro e W2 ⟨n2, A2, m2, c2, rfl, h2, hb2⟩
  replace HE := Lib.hid ((HE.out.below hb2).wd h2)
  clear hb2 h2
  go_wp2_with fail
  go_at_call 77
  refine (CM.out _ n1 A1 m1 c1 n2 A2 m2 c2 HE.out.wds.2.1 HE.out.wds.1).mono ?_
  rintro e W3 ⟨n3, A3, m3, c3, rfl, h3, hb3⟩
  replace HE := Lib.hid ((HE.out.below hb3).wd h3)
  clear hb3 h3 CF1 CF2 CM
  go_wp2_with fail
  have E := HE.out.alloc #[.bool n3, .slice A3 m3 c3] 78
  clear HE
  generalize W3.alloc (.cells #[.bool n3, .slice A3 m3 c3] 78) = V at *
  generalize W3.heap.size = b8 at *
  have E' : Env w [(b8, #[.bool n3, .slice A3 m3 c3], 78)] [(n3, A3, m3, c3, by' * mi)] V := ⟨⟨E.blks.1, trivial⟩, ⟨E.wds.1, trivial⟩, E.bel⟩
  have HE := Lib.hid E'
  clear E E'
  apply cutFrac (F := fun b10 n4 A4 m4 c4 n5 A5 m5 c5 W => Env w [(b10, #[.bool n4, .slice A4 m4 c4, .bool n5, .slice A5 m5 c5], 127)] [(n4, A4, m4, c4, fx), (n5, A5, m5, c5, fy)] W ∧ w.heap.size ≤ b10)
  · intro key
    refine region_start (S := fun W' => Env w [(b8, #[.bool n3, .slice A3 m3 c3], 78)] [] W') (by kernel_rfl) ?_
    intro W hW
    have E := HE.out.drew
    rw [← hW] at E
    obtain ⟨B, hBe⟩ : ∃ B, B = W.heap.size := ⟨_, rfl⟩
    have hB : B ≤ W.heap.size := Nat.le_of_eq hBe
    have hBw : b8 < B := by rw [hBe]; exact E.blks.1.lt
    have hBz : w.heap.size ≤ B := by rw [hBe]; exact E.size
    have hbel := E.bel
    clear hBe hW
    have hS := E.lastN
    refine wpAnyH_take (i := 0) (v := .agg #[.bool n3, .slice A3 m3 c3]) rfl (by kernel_rfl) (by kernel_rfl) (by kernel_rfl) (fun _ _ _ h => h) (.inl ⟨rfl, fun w0 hw0 => ?a0⟩) hS ?_
    case a0 =>
      have e0 := hw0.blks.1.c0; have e1 := hw0.blks.1.c1
      go_simp
    clear hS
    refine wpAnyH_all (rs := [1, 6]) (by kernel_rfl) (by simp) ?_
    intro i0 hi0
    have hi1 : i0 = 1 ∨ i0 = 6 := by simpa using hi0
    clear hi0
    rcases hi1 with rfl | rfl
    · refine wpOp_plain rfl rfl fun K' hK' => ?_
      go_simp
      refine (CF3.out _).mono ?_
      rintro e W ⟨p1, A3', m3', c3', rfl, hp1, hstep⟩
      have E := E.below hstep
      have hbel := hbel.trans (hstep.mono hbel.size)
      have hB := Nat.le_trans hB hstep.size
      refine hK' _ _ ⟨E.lastN, ?_⟩
      clear hK' K' hstep
      refine wpAnyH_all (rs := [2, 6]) (by kernel_rfl) (by simp) ?_
      intro i0 hi0
      have hi1 : i0 = 2 ∨ i0 = 6 := by simpa using hi0
      clear hi0
      rcases hi1 with rfl | rfl
      · refine wpOp_plain rfl rfl fun K' hK' => ?_
        go_simp
        refine (CK.out _ n3 A3 m3 c3 p1 A3' m3' c3' E.wds.1 hp1).mono ?_
        rintro e W ⟨p2, A4, m4, c4, p3, A5, m5, c5, rfl, hp2, hp3, hstep⟩
        have E := E.below hstep
        have hp1 := hp1.below hstep
        have hbel := hbel.trans (hstep.mono hbel.size)
        have hB := Nat.le_trans hB hstep.size
        refine hK' _ _ ⟨E.lastN, ?_⟩
        clear hK' K' hstep
        have hS := E.lastN
        refine wpAnyH_take (i := 3) (v := .tuple #[.agg #[.bool p2, .slice A4 m4 c4, .bool p3, .slice A5 m5 c5], .int .i64 0]) rfl (by kernel_rfl) (by kernel_rfl) (by kernel_rfl) (fun _ _ _ h => h) (.inl ⟨rfl, fun w0 hw0 => ?a3⟩) hS ?_
        case a3 =>
          have e0 := hw0.blks.1.c0; have e1 := hw0.blks.1.c1
          go_simp
        refine wpAnyH_take (i := 4) (v := .agg #[.bool p2, .slice A4 m4 c4, .bool p3, .slice A5 m5 c5]) rfl (by kernel_rfl) (by kernel_rfl) (by kernel_rfl) (fun _ _ _ h => h) (.inl ⟨rfl, fun w0 hw0 => ?a4⟩) hS ?_
        case a4 =>
          have e0 := hw0.blks.1.c0; have e1 := hw0.blks.1.c1
          go_simp
        refine wpAnyH_take (i := 5) (v := .int .i64 0) rfl (by kernel_rfl) (by kernel_rfl) (by kernel_rfl) (fun _ _ _ h => h) (.inl ⟨rfl, fun w0 hw0 => ?a5⟩) hS ?_
        case a5 =>
          have e0 := hw0.blks.1.c0; have e1 := hw0.blks.1.c1
          go_simp
        clear hS
        refine wpAnyH_all (rs := [6]) (by kernel_rfl) (by simp) ?_
        intro i0 hi0
        obtain rfl : i0 = 6 := by simpa using hi0
        refine wpOp_plain rfl rfl fun K' hK' => ?_
        go_simp
        have hal := (Below.refl W.heap.size W).alloc (Nat.le_refl _) (.cells #[.bool false, .slice none 0 0, .bool false, .slice none 0 0] 127)
        have h5 := Blk.new W #[.bool false, .slice none 0 0, .bool false, .slice none 0 0] 127
        obtain ⟨b5, hb5⟩ : ∃ b5, b5 = W.heap.size := ⟨_, rfl⟩
        rw [← hb5] at h5 ⊢
        have hb5B : B ≤ b5 := by omega
        have E := E.below hal
        have hp1 := hp1.below hal
        have hp2 := hp2.below hal
        have hp3 := hp3.below hal
        have hbel := hbel.trans (hal.mono hbel.size)
        have hB := Nat.le_trans hB hal.size
        clear hb5 hal
        generalize W.alloc (.cells #[.bool false, .slice none 0 0, .bool false, .slice none 0 0] 127) = W at *
        refine hK' _ _ ⟨E.lastN, ?_⟩
        clear hK' K'
        have f0 : W.cell? ⟨b5, 0, none⟩ = some (.bool false) := h5.at 0
        have g0 := h5.fr 0
        have f1 : W.cell? ⟨b5, 1, none⟩ = some (.slice none 0 0) := h5.at 1
        have g1 := h5.fr 1
        have f2 : W.cell? ⟨b5, 2, none⟩ = some (.bool false) := h5.at 2
        have g2 := h5.fr 2
        have f3 : W.cell? ⟨b5, 3, none⟩ = some (.slice none 0 0) := h5.at 3
        have g3 := h5.fr 3
        refine wpAnyH_all (rs := [7]) (by kernel_rfl) (by simp) ?_
        intro i0 hi0
        obtain rfl : i0 = 7 := by simpa using hi0
        refine wpOp_plain rfl rfl fun K' hK' => ?_
        go_simp
        replace E := ((((((E.lastN.blk h5).wd hp3).wd hp2).setY (by omega) (by simp [Free] <;> omega) rfl 0 (.bool p2)).setY (by omega) (by simp [Free] <;> omega) rfl 1 (.slice A4 m4 c4)).setY (by omega) (by simp [Free] <;> omega) rfl 2 (.bool p3)).setY (by omega) (by simp [Free] <;> omega) rfl 3 (.slice A5 m5 c5); refine hK' _ _ ⟨E.drop.lastN, ?_⟩; have hS := E.drop.lastN; refine wpAnyH_take (i := 8) (v := .int .i64 0) rfl (by kernel_rfl) (by kernel_rfl) (by kernel_rfl) (fun _ _ _ h => h) (.inl ⟨rfl, fun w0 hw0 => ?_⟩) hS ?_; (go_simp); exact wpAnyH_done (by kernel_rfl) (key b5 p1 A3' m3' c3' p2 A4 m4 c4 p3 A5 m5 c5 _ ⟨⟨⟨E.blks.1, trivial⟩, ⟨E.wds.1, E.wds.2.1, trivial⟩, E.bel⟩, by omega⟩) _
      · refine wpOp_plain rfl rfl fun K' hK' => ?_
        go_simp
        have hal := (Below.refl W.heap.size W).alloc (Nat.le_refl _) (.cells #[.bool false, .slice none 0 0, .bool false, .slice none 0 0] 127)
        have h5 := Blk.new W #[.bool false, .slice none 0 0, .bool false, .slice none 0 0] 127
        obtain ⟨b5, hb5⟩ : ∃ b5, b5 = W.heap.size := ⟨_, rfl⟩
        rw [← hb5] at h5 ⊢
        have hb5B : B ≤ b5 := by omega
        have E := E.below hal
        have hp1 := hp1.below hal
        have hbel := hbel.trans (hal.mono hbel.size)
        have hB := Nat.le_trans hB hal.size
        clear hb5 hal
        generalize W.alloc (.cells #[.bool false, .slice none 0 0, .bool false, .slice none 0 0] 127) = W at *
        refine hK' _ _ ⟨E.lastN, ?_⟩
        clear hK' K'
        refine wpAnyH_all (rs := [2]) (by kernel_rfl) (by simp) ?_
        intro i0 hi0
        obtain rfl : i0 = 2 := by simpa using hi0
        refine wpOp_plain rfl rfl fun K' hK' => ?_
        go_simp
        refine (CK.out _ n3 A3 m3 c3 p1 A3' m3' c3' E.wds.1 hp1).mono ?_
        rintro e W ⟨p2, A4, m4, c4, p3, A5, m5, c5, rfl, hp2, hp3, hstep⟩
        have E := E.below hstep
        have hp1 := hp1.below hstep
        have h5 := h5.below hstep
        have hbel := hbel.trans (hstep.mono hbel.size)
        have hB := Nat.le_trans hB hstep.size
        refine hK' _ _ ⟨E.lastN, ?_⟩
        clear hK' K' hstep
        have hS := E.lastN
        refine wpAnyH_take (i := 3) (v := .tuple #[.agg #[.bool p2, .slice A4 m4 c4, .bool p3, .slice A5 m5 c5], .int .i64 0]) rfl (by kernel_rfl) (by kernel_rfl) (by kernel_rfl) (fun _ _ _ h => h) (.inl ⟨rfl, fun w0 hw0 => ?a3⟩) hS ?_
        case a3 =>
          have e0 := hw0.blks.1.c0; have e1 := hw0.blks.1.c1
          go_simp
        refine wpAnyH_take (i := 4) (v := .agg #[.bool p2, .slice A4 m4 c4, .bool p3, .slice A5 m5 c5]) rfl (by kernel_rfl) (by kernel_rfl) (by kernel_rfl) (fun _ _ _ h => h) (.inl ⟨rfl, fun w0 hw0 => ?a4⟩) hS ?_
        case a4 =>
          have e0 := hw0.blks.1.c0; have e1 := hw0.blks.1.c1
          go_simp
        refine wpAnyH_take (i := 5) (v := .int .i64 0) rfl (by kernel_rfl) (by kernel_rfl) (by kernel_rfl) (fun _ _ _ h => h) (.inl ⟨rfl, fun w0 hw0 => ?a5⟩) hS ?_
        case a5 =>
          have e0 := hw0.blks.1.c0; have e1 := hw0.blks.1.c1
          go_simp
        clear hS
        have f0 : W.cell? ⟨b5, 0, none⟩ = some (.bool false) := h5.at 0
        have g0 := h5.fr 0
        have f1 : W.cell? ⟨b5, 1, none⟩ = some (.slice none 0 0) := h5.at 1
        have g1 := h5.fr 1
        have f2 : W.cell? ⟨b5, 2, none⟩ = some (.bool false) := h5.at 2
        have g2 := h5.fr 2
        have f3 : W.cell? ⟨b5, 3, none⟩ = some (.slice none 0 0) := h5.at 3
        have g3 := h5.fr 3
        refine wpAnyH_all (rs := [7]) (by kernel_rfl) (by simp) ?_
        intro i0 hi0
        obtain rfl : i0 = 7 := by simpa using hi0
        refine wpOp_plain rfl rfl fun K' hK' => ?_
        go_simp
        replace E := ((((((E.lastN.blk h5).wd hp3).wd hp2).setY (by omega) (by simp [Free] <;> omega) rfl 0 (.bool p2)).setY (by omega) (by simp [Free] <;> omega) rfl 1 (.slice A4 m4 c4)).setY (by omega) (by simp [Free] <;> omega) rfl 2 (.bool p3)).setY (by omega) (by simp [Free] <;> omega) rfl 3 (.slice A5 m5 c5); refine hK' _ _ ⟨E.drop.lastN, ?_⟩; have hS := E.drop.lastN; refine wpAnyH_take (i := 8) (v := .int .i64 0) rfl (by kernel_rfl) (by kernel_rfl) (by kernel_rfl) (fun _ _ _ h => h) (.inl ⟨rfl, fun w0 hw0 => ?_⟩) hS ?_; (go_simp); exact wpAnyH_done (by kernel_rfl) (key b5 p1 A3' m3' c3' p2 A4 m4 c4 p3 A5 m5 c5 _ ⟨⟨⟨E.blks.1, trivial⟩, ⟨E.wds.1, E.wds.2.1, trivial⟩, E.bel⟩, by omega⟩) _
    · refine wpOp_plain rfl rfl fun K' hK' => ?_
      go_simp
      have hal := (Below.refl W.heap.size W).alloc (Nat.le_refl _) (.cells #[.bool false, .slice none 0 0, .bool false, .slice none 0 0] 127)
      have h5 := Blk.new W #[.bool false, .slice none 0 0, .bool false, .slice none 0 0] 127
      obtain ⟨b5, hb5⟩ : ∃ b5, b5 = W.heap.size := ⟨_, rfl⟩
      rw [← hb5] at h5 ⊢
      have hb5B : B ≤ b5 := by omega
      have E := E.below hal
      have hbel := hbel.trans (hal.mono hbel.size)
      have hB := Nat.le_trans hB hal.size
      clear hb5 hal
      generalize W.alloc (.cells #[.bool false, .slice none 0 0, .bool false, .slice none 0 0] 127) = W at *
      refine hK' _ _ ⟨E.lastN, ?_⟩
      clear hK' K'
      refine wpAnyH_all (rs := [1]) (by kernel_rfl) (by simp) ?_
      intro i0 hi0
      obtain rfl : i0 = 1 := by simpa using hi0
      refine wpOp_plain rfl rfl fun K' hK' => ?_
      go_simp
      refine (CF3.out _).mono ?_
      rintro e W ⟨p1, A3', m3', c3', rfl, hp1, hstep⟩
      have E := E.below hstep
      have h5 := h5.below hstep
      have hbel := hbel.trans (hstep.mono hbel.size)
      have hB := Nat.le_trans hB hstep.size
      refine hK' _ _ ⟨E.lastN, ?_⟩
      clear hK' K' hstep
      refine wpAnyH_all (rs := [2]) (by kernel_rfl) (by simp) ?_
      intro i0 hi0
      obtain rfl : i0 = 2 := by simpa using hi0
      refine wpOp_plain rfl rfl fun K' hK' => ?_
      go_simp
      refine (CK.out _ n3 A3 m3 c3 p1 A3' m3' c3' E.wds.1 hp1).mono ?_
      rintro e W ⟨p2, A4, m4, c4, p3, A5, m5, c5, rfl, hp2, hp3, hstep⟩
      have E := E.below hstep
      have h5 := h5.below hstep
      have hp1 := hp1.below hstep
      have hbel := hbel.trans (hstep.mono hbel.size)
      have hB := Nat.le_trans hB hstep.size
      refine hK' _ _ ⟨E.lastN, ?_⟩
      clear hK' K' hstep
      have hS := E.lastN
      refine wpAnyH_take (i := 3) (v := .tuple #[.agg #[.bool p2, .slice A4 m4 c4, .bool p3, .slice A5 m5 c5], .int .i64 0]) rfl (by kernel_rfl) (by kernel_rfl) (by kernel_rfl) (fun _ _ _ h => h) (.inl ⟨rfl, fun w0 hw0 => ?a3⟩) hS ?_
      case a3 =>
        have e0 := hw0.blks.1.c0; have e1 := hw0.blks.1.c1
        go_simp
      refine wpAnyH_take (i := 4) (v := .agg #[.bool p2, .slice A4 m4 c4, .bool p3, .slice A5 m5 c5]) rfl (by kernel_rfl) (by kernel_rfl) (by kernel_rfl) (fun _ _ _ h => h) (.inl ⟨rfl, fun w0 hw0 => ?a4⟩) hS ?_
      case a4 =>
        have e0 := hw0.blks.1.c0; have e1 := hw0.blks.1.c1
        go_simp
      refine wpAnyH_take (i := 5) (v := .int .i64 0) rfl (by kernel_rfl) (by kernel_rfl) (by kernel_rfl) (fun _ _ _ h => h) (.inl ⟨rfl, fun w0 hw0 => ?a5⟩) hS ?_
      case a5 =>
        have e0 := hw0.blks.1.c0; have e1 := hw0.blks.1.c1
        go_simp
      clear hS
      have f0 : W.cell? ⟨b5, 0, none⟩ = some (.bool false) := h5.at 0
      have g0 := h5.fr 0
      have f1 : W.cell? ⟨b5, 1, none⟩ = some (.slice none 0 0) := h5.at 1
      have g1 := h5.fr 1
      have f2 : W.cell? ⟨b5, 2, none⟩ = some (.bool false) := h5.at 2
      have g2 := h5.fr 2
      have f3 : W.cell? ⟨b5, 3, none⟩ = some (.slice none 0 0) := h5.at 3
      have g3 := h5.fr 3
      refine wpAnyH_all (rs := [7]) (by kernel_rfl) (by simp) ?_
      intro i0 hi0
      obtain rfl : i0 = 7 := by simpa using hi0
      refine wpOp_plain rfl rfl fun K' hK' => ?_
      go_simp
      replace E := ((((((E.lastN.blk h5).wd hp3).wd hp2).setY (by omega) (by simp [Free] <;> omega) rfl 0 (.bool p2)).setY (by omega) (by simp [Free] <;> omega) rfl 1 (.slice A4 m4 c4)).setY (by omega) (by simp [Free] <;> omega) rfl 2 (.bool p3)).setY (by omega) (by simp [Free] <;> omega) rfl 3 (.slice A5 m5 c5); refine hK' _ _ ⟨E.drop.lastN, ?_⟩; have hS := E.drop.lastN; refine wpAnyH_take (i := 8) (v := .int .i64 0) rfl (by kernel_rfl) (by kernel_rfl) (by kernel_rfl) (fun _ _ _ h => h) (.inl ⟨rfl, fun w0 hw0 => ?_⟩) hS ?_; (go_simp); exact wpAnyH_done (by kernel_rfl) (key b5 p1 A3' m3' c3' p2 A4 m4 c4 p3 A5 m5 c5 _ ⟨⟨⟨E.blks.1, trivial⟩, ⟨E.wds.1, E.wds.2.1, trivial⟩, E.bel⟩, by omega⟩) _
  rintro b10 _ _ _ _ n4 A4 m4 c4 n5 A5 m5 c5 V2 ⟨E, hb10⟩
  have HE := Lib.hid E
  clear E CF3 CK
  go_wp2_with fail
  go_at_call 79
  refine (CO.out _).mono ?_
  rintro e W5 ⟨n6, A6, m6, c6, n7, A7, m7, c7, rfl, h6, h7, hb5⟩
  replace HE := Lib.hid (((HE.out.below hb5).wd h7).wd h6)
  clear hb5 h6 h7 CO
  have e0 : W5.cell? ⟨b10, 0, none⟩ = some (.bool n4) := HE.out.blks.1.at 0
  have e1 : W5.cell? ⟨b10, 1, none⟩ = some (.slice A4 m4 c4) := HE.out.blks.1.at 1
  have e2 : W5.cell? ⟨b10, 2, none⟩ = some (.bool n5) := HE.out.blks.1.at 2
  have e3 : W5.cell? ⟨b10, 3, none⟩ = some (.slice A5 m5 c5) := HE.out.blks.1.at 3
  have l1 : b10 < W5.heap.size := HE.out.blks.1.lt
  go_wp2_with fail
  go_at_call 80
  have E := HE.out.alloc #[.bool n6, .slice A6 m6 c6, .bool n7, .slice A7 m7 c7] 127
  clear HE e0 e1 e2 e3
  refine (CD.out _ n4 n5 A4 A5 m4 c4 m5 c5 n6 n7 A6 A7 m6 c6 m7 c7 E.wds.2.2.1 E.wds.2.2.2.1 E.wds.1 E.wds.2.1).mono ?_
  rintro e W6 ⟨n8, A8, m8, c8, n9, A9, m9, c9, rfl, h8, h9, hb6⟩
  replace E := ((E.below hb6).wd h9).wd h8
  generalize W5.heap.size = b11 at *
  have HE := Lib.hid E.swap
  clear E hb6 h8 h9 CD
  have e0 : W6.cell? ⟨b10, 0, none⟩ = some (.bool n4) := HE.out.blks.1.at 0
  have e1 : W6.cell? ⟨b10, 1, none⟩ = some (.slice A4 m4 c4) := HE.out.blks.1.at 1
  have e2 : W6.cell? ⟨b10, 2, none⟩ = some (.bool n5) := HE.out.blks.1.at 2
  have e3 : W6.cell? ⟨b10, 3, none⟩ = some (.slice A5 m5 c5) := HE.out.blks.1.at 3
  have g0 := HE.out.blks.1.fr 0
  have g1 := HE.out.blks.1.fr 1
  have g2 := HE.out.blks.1.fr 2
  have g3 := HE.out.blks.1.fr 3
  have E9 := (((HE.out.setY hb10 (by simp [Free] <;> omega) rfl 0 (.bool n8)).setY hb10 (by simp [Free] <;> omega) rfl 1 (.slice A8 m8 c8)).setY hb10 (by simp [Free] <;> omega) rfl 2 (.bool n9)).setY hb10 (by simp [Free] <;> omega) rfl 3 (.slice A9 m9 c9)
  have HE9 := Lib.hid E9
  clear E9
  go_wp2_with fail
  go_at_call 81
  refine (CR.out _ n8 n9 A8 A9 m8 c8 m9 c9 HE9.out.wds.1 HE9.out.wds.2.1).mono ?_
  rintro e W7 ⟨n10, A10, m10, c10, rfl, h10, hb7⟩
  have HE10 := Lib.hid ((HE9.out.below hb7).wd h10)
  clear hb7 h10 CR HE HE9 e0 e1 e2 e3 g0 g1 g2 g3
  go_wp2_with fail
  go_at_call 82
  have E := HE10.out.alloc #[.bool n10, .slice A10 m10 c10] 78
  refine (CI.out _ n10 A10 m10 c10 E.wds.1).mono ?_
  rintro e W8 ⟨rfl, hb8⟩
  have HB := Lib.hid (E.below hb8).bel
  clear E hb8 HE10 CI
  go_wp2
  go_ret2
  exact ⟨rfl, HB.out⟩

end Go.Proofs.YtilaheplclaokaaGreat
namespace Go.Proofs.YtilaheplclaokaaGreat
open Go.RowKit Go.Shelf
attribute [local go_sem] Oper.semAt_some

/-- A byte that a name may have at a position. -/
def byteOk (i x : Nat) : Prop := (97 ≤ x ∧ x ≤ 122) ∨ (i ≠ 0 ∧ ((48 ≤ x ∧ x ≤ 57) ∨ x = 45))

/-- A string that is a name. -/
structure NameOk (s : ByteArray) : Prop where
  z0 : 1 ≤ s.size
  z1 : s.size ≤ 24
  all : ∀ i (h : i < s.size), byteOk i (s[i]'h).toNat

theorem between_calls (w : World) (a x b : Int) (h0 : a ≤ x) (h1 : x ≤ b) :
    Calls Tryz.prog 32 #[.int .i64 a, .int .i64 x, .int .i64 b] w (RetPost (.bool true) w) := by
  go_enter Tryz.func32, Tryz.ntmps32
  go_wp2
  go_ret
  exact ⟨rfl, rfl⟩

theorem between_any (w : World) (a x b : Int) :
    Calls Tryz.prog 32 #[.int .i64 a, .int .i64 x, .int .i64 b] w (RetPost (.bool (decide (a ≤ x ∧ x ≤ b))) w) := by
  by_cases h0 : a ≤ x
  · by_cases h1 : x ≤ b
    · have e : decide (a ≤ x ∧ x ≤ b) = true := by simp [h0, h1]
      rw [e]
      exact between_calls w a x b h0 h1
    · have e : decide (a ≤ x ∧ x ≤ b) = false := by simp [h1]
      rw [e]
      clear e
      go_enter Tryz.func32, Tryz.ntmps32
      go_wp2
      go_ret
      exact ⟨rfl, rfl⟩
  · have e : decide (a ≤ x ∧ x ≤ b) = false := by simp [h0]
    rw [e]
    clear e
    go_enter Tryz.func32, Tryz.ntmps32
    go_wp2
    go_ret
    exact ⟨rfl, rfl⟩

set_option maxRecDepth 100000 in
set_option maxHeartbeats 1000000 in
theorem isName_calls (w : World) (s : ByteArray) (hs : NameOk s) :
    Calls Tryz.prog 76 #[.string s] w (OkPost (.bool true) w) := by
  have HS := Lib.hid hs
  clear hs
  go_enter Tryz.func76, Tryz.ntmps76
  go_wp2
  go_loopw [2] (fun n w' => ∃ (pos : Nat), w' = w.iter s pos ∧ n = .bool false ∧ pos ≤ s.size) (fun _ w' => s.size - w'.iterPos w.heap.size)
  case atStart => exact ⟨0, rfl, rfl, by omega⟩
  case round =>
    obtain ⟨pos, rfl, rfl, hb⟩ := hrel
    by_cases hp : pos < s.size
    · have hok := HS.out.all pos hp
      have ha : (s[pos]'hp).toNat < 128 := by unfold byteOk at hok; omega
      have hnx : ∀ ty, (Instr.next (.pointer (some ⟨w.heap.size, 0, none⟩)) true ty).run Tryz.prog (w.iter s pos) = _ := fun ty => run_next_ascii w s pos ty hp ha
      generalize (s[pos]'hp).toNat = x at *
      rcases hok with ⟨h1, h2⟩ | ⟨h0, ⟨h1, h2⟩ | h1⟩
      · have k1 : (97 : Int) ≤ (x : Int) := by omega
        have k2 : (x : Int) ≤ 122 := by omega
        clear h1 h2 ha
        go_wp2
        all_goals (
          go_roundw
          case rel => exact ⟨pos + 1, rfl, rfl, by omega⟩
          case measure =>
            simp
            omega)
      · have k1 : ¬ (97 : Int) ≤ (x : Int) := by omega
        have k2 : (48 : Int) ≤ (x : Int) := by omega
        have k3 : (x : Int) ≤ 57 := by omega
        have k4 : ¬ (pos : Int) = 0 := by omega
        clear h1 h2 ha
        go_wp2
        all_goals (
          go_roundw
          case rel => exact ⟨pos + 1, rfl, rfl, by omega⟩
          case measure =>
            simp
            omega)
      · subst h1
        have k4 : ¬ (pos : Int) = 0 := by omega
        clear ha
        go_wp2
        all_goals (
          go_roundw
          case rel => exact ⟨pos + 1, rfl, rfl, by omega⟩
          case measure =>
            simp
            omega)
    · have hnx : ∀ ty, (Instr.next (.pointer (some ⟨w.heap.size, 0, none⟩)) true ty).run Tryz.prog (w.iter s pos) = _ := fun ty => run_next_end w s pos ty hp
      have k0 : (1 : Int) ≤ (s.size : Int) := by have := HS.out.z0; omega
      have k1 : (s.size : Int) ≤ 24 := by have := HS.out.z1; omega
      go_wp2
      go_ret
      exact ⟨rfl, (Below.refl _ _).alloc (Nat.le_refl _) _⟩

end Go.Proofs.YtilaheplclaokaaGreat
namespace Go.Proofs.YtilaheplclaokaaGreat
open Go.RowKit Go.Shelf
attribute [local go_sem] Oper.semAt_some

/-- A valid star. -/
structure StarOk (s : ByteArray) (ep ra de pr pd pa mg : Int) : Prop where
  nm : NameOk s
  ep0 : -5000000000000000 ≤ ep
  ep1 : ep ≤ 5000000000000000
  ra0 : 0 ≤ ra
  ra1 : ra ≤ 1295999999999
  de0 : -324000000000 ≤ de
  de1 : de ≤ 324000000000
  pr0 : -20000000 ≤ pr
  pr1 : pr ≤ 20000000
  pd0 : -20000000 ≤ pd
  pd1 : pd ≤ 20000000
  pa0 : 0 ≤ pa
  pa1 : pa ≤ 1000000
  mg : (-500 ≤ mg ∧ mg ≤ 3000) ∨ mg = 9999

set_option maxRecDepth 100000 in
set_option maxHeartbeats 1000000 in
theorem check19_calls (w : World) (s : ByteArray) (ep ra de pr pd pa mg : Int) (hs : StarOk s ep ra de pr pd pa mg) :
    Calls Tryz.prog 36 #[.agg #[.string s, .int .i64 ep, .int .i64 ra, .int .i64 de, .int .i64 pr, .int .i64 pd, .int .i64 pa, .int .i64 mg]] w (OkPost (.int .i64 0) w) := by
  have HS := Lib.hid hs
  clear hs
  have E := (Env.start w).alloc #[.string s, .int .i64 ep, .int .i64 ra, .int .i64 de, .int .i64 pr, .int .i64 pd, .int .i64 pa, .int .i64 mg] 39
  have HE := Lib.hid E
  clear E
  go_enter Tryz.func36, Tryz.ntmps36
  go_wp2_with fail
  go_at_call 76
  refine (isName_calls _ s HS.out.nm).mono ?_
  rintro e W1 ⟨rfl, hb1⟩
  replace HE := Lib.hid (HE.out.below hb1)
  clear hb1
  have c1 : W1.cell? ⟨w.heap.size, 1, none⟩ = some (.int .i64 ep) := HE.out.blks.1.at 1
  have c2 : W1.cell? ⟨w.heap.size, 2, none⟩ = some (.int .i64 ra) := HE.out.blks.1.at 2
  have c3 : W1.cell? ⟨w.heap.size, 3, none⟩ = some (.int .i64 de) := HE.out.blks.1.at 3
  have c4 : W1.cell? ⟨w.heap.size, 4, none⟩ = some (.int .i64 pr) := HE.out.blks.1.at 4
  have c5 : W1.cell? ⟨w.heap.size, 5, none⟩ = some (.int .i64 pd) := HE.out.blks.1.at 5
  have c6 : W1.cell? ⟨w.heap.size, 6, none⟩ = some (.int .i64 pa) := HE.out.blks.1.at 6
  have c7 : W1.cell? ⟨w.heap.size, 7, none⟩ = some (.int .i64 mg) := HE.out.blks.1.at 7
  rcases HS.out.mg with hm | hm
  · go_wp2_with (go_at_call 32; refine (between_calls _ _ _ _ (by have := HS.out; cases this; omega) (by have := HS.out; cases this; omega)).mono ?_; rintro e w' ⟨rfl, rfl⟩)
    go_ret
    exact ⟨rfl, HE.out.bel⟩
  · subst hm
    have CB : ∀ w', Calls Tryz.prog 32 #[.int .i64 (-500), .int .i64 9999, .int .i64 3000] w' (RetPost (.bool false) w') := fun w' => between_any w' _ _ _
    go_wp2_with (first | (go_at_call_has 32 (Value.int .i64 3000); refine (CB _).mono ?_; rintro e w' ⟨rfl, rfl⟩) | (go_at_call 32; refine (between_calls _ _ _ _ (by have := HS.out; cases this; omega) (by have := HS.out; cases this; omega)).mono ?_; rintro e w' ⟨rfl, rfl⟩))
    go_ret
    exact ⟨rfl, HE.out.bel⟩

end Go.Proofs.YtilaheplclaokaaGreat
namespace Go.Proofs.YtilaheplclaokaaGreat
open Go.RowKit Go.Shelf
attribute [local go_sem] Oper.semAt_some

/-- A verdict: what it says when it is true. -/
def SaysPost (p : Prop) (w : World) (e : Ending) (w' : World) : Prop :=
  ∃ b : Bool, e = .returned (.bool b) ∧ (b = true → p) ∧ w' = w

theorem rwithin_calls (w : World) (x m : Int) (hm0 : 0 ≤ m) (hm1 : m < 9223372036854775808) :
    Calls Tryz.prog 72 #[.int .i64 x, .int .i64 m] w (SaysPost (-m ≤ x ∧ x ≤ m) w) := by
  have hw : IntKind.i64.wrap (-m) = -m := wrap_i64 _ (by omega) (by omega)
  by_cases h0 : -m ≤ x
  · by_cases h1 : x ≤ m
    · go_enter Tryz.func72, Tryz.ntmps72
      go_wp2
      go_ret
      exact ⟨true, rfl, fun _ => ⟨h0, h1⟩, rfl⟩
    · go_enter Tryz.func72, Tryz.ntmps72
      go_wp2
      go_ret
      exact ⟨false, rfl, (fun h => nomatch h), rfl⟩
  · go_enter Tryz.func72, Tryz.ntmps72
    go_wp2
    go_ret
    exact ⟨false, rfl, (fun h => nomatch h), rfl⟩

set_option maxRecDepth 100000 in
set_option maxHeartbeats 1000000 in
theorem rName_calls (w : World) (s : ByteArray) (hsz : s.size ≤ 100) :
    Calls Tryz.prog 71 #[.string s] w (SaysPost (NameOk s) w) := by
  go_enter Tryz.func71, Tryz.ntmps71
  go_wp2
  go_loopw [3] (fun i w' => ∃ k : Nat, k ≤ s.size ∧ i = .int .i64 k ∧ w' = w ∧ ∀ j (h : j < s.size), j < k → byteOk j (s[j]'h).toNat) (fun i _ => s.size - (intOf i).toNat)
  case atStart => exact ⟨0, Nat.zero_le _, rfl, rfl, fun j _ h => absurd h (by omega)⟩
  case round =>
    obtain ⟨k, hk, rfl, rfl, hall⟩ := hrel
    have HA := Lib.hid hall
    clear hall
    by_cases hlt : k < s.size
    · go_wp2
      all_goals (first | (go_ret; exact ⟨false, rfl, (fun h => nomatch h), rfl⟩) | skip)
      all_goals (
        try simp only [Bool.not_eq_false', Bool.not_eq_true', beq_iff_eq] at *
        have hb : byteOk k (s[k]'hlt).toNat := by
          unfold byteOk
          omega
        refine ⟨⟨k + 1, hlt, by go_num, trivial, fun j h hj => ?_⟩, by simp [intOf]; omega⟩
        rcases Nat.lt_or_ge j k with h1 | h1
        · exact HA.out j h h1
        · obtain rfl : k = j := by omega
          exact hb)
    · obtain rfl : k = s.size := by omega
      by_cases h1 : 1 ≤ s.size
      · by_cases h2 : s.size ≤ 24
        · have k1 : (1 : Int) ≤ (s.size : Int) := by omega
          have k2 : (s.size : Int) ≤ 24 := by omega
          go_wp2
          go_ret
          exact ⟨true, rfl, fun _ => ⟨h1, h2, fun j h => HA.out j h h⟩, rfl⟩
        · have k1 : (1 : Int) ≤ (s.size : Int) := by omega
          have k2 : ¬ (s.size : Int) ≤ 24 := by omega
          go_wp2
          go_ret
          exact ⟨false, rfl, (fun h => nomatch h), rfl⟩
      · have k1 : ¬ (1 : Int) ≤ (s.size : Int) := by omega
        go_wp2
        go_ret
        exact ⟨false, rfl, (fun h => nomatch h), rfl⟩

end Go.Proofs.YtilaheplclaokaaGreat

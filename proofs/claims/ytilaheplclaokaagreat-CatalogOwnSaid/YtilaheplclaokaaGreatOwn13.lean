/-
Walks of package sphere: each, Sub, Scale, at valid vectors and without an error; trig's Radians of 0.
Walks of package sphere: Scale by 0, Sub of 0; trig's Radians of 0.
Walks of package frac: want, must, zero, same, one, where there is no error; catch, where nothing fell.
-/
import Derived.Defers
import Derived.Recover
import Derived.Test.YtilaheplclaokaaGreatOwn12
set_option linter.unusedVariables false
set_option linter.unusedSimpArgs false
namespace Go.Proofs.YtilaheplclaokaaGreat
open Go.RowKit Go.Shelf
attribute [local go_sem] Oper.semAt_some

set_option maxRecDepth 100000 in
set_option maxHeartbeats 2000000 in
theorem eachMul_calls (w : World) (v0 v1 v2 v3 v4 v5 u0 u1 u2 u3 u4 u5 r0 r1 r2 r3 r4 r5 : Int) (hv : vecB v0 v1 v2 v3 v4 v5 = true) (hu : vecB u0 u1 u2 u3 u4 u5 = true)
    (h0 : ∀ w' : World, Calls Tryz.prog 20 #[.agg #[.int .i64 v0, .int .i64 v1], .agg #[.int .i64 u0, .int .i64 u1]] w' (OkPost (.tuple #[.agg #[.int .i64 r0, .int .i64 r1], .int .i64 0]) w'))
    (h1 : ∀ w' : World, Calls Tryz.prog 20 #[.agg #[.int .i64 v2, .int .i64 v3], .agg #[.int .i64 u2, .int .i64 u3]] w' (OkPost (.tuple #[.agg #[.int .i64 r2, .int .i64 r3], .int .i64 0]) w'))
    (h2 : ∀ w' : World, Calls Tryz.prog 20 #[.agg #[.int .i64 v4, .int .i64 v5], .agg #[.int .i64 u4, .int .i64 u5]] w' (OkPost (.tuple #[.agg #[.int .i64 r4, .int .i64 r5], .int .i64 0]) w')) :
    Calls Tryz.prog 106 #[.func (.func 20) #[] #[], .agg #[.int .i64 v0, .int .i64 v1, .int .i64 v2, .int .i64 v3, .int .i64 v4, .int .i64 v5], .agg #[.int .i64 u0, .int .i64 u1, .int .i64 u2, .int .i64 u3, .int .i64 u4, .int .i64 u5]] w (OkPost (.tuple #[.agg #[.int .i64 r0, .int .i64 r1, .int .i64 r2, .int .i64 r3, .int .i64 r4, .int .i64 r5], .int .i64 0]) w) := by
  have CL := Lib.hid fun w' => look_calls w' v0 v1 v2 v3 v4 v5 u0 u1 u2 u3 u4 u5 hv hu
  have H0 := Lib.hid h0
  have H1 := Lib.hid h1
  have H2 := Lib.hid h2
  have E := (((Env.start w).alloc #[.int .i64 v0, .int .i64 v1, .int .i64 v2, .int .i64 v3, .int .i64 v4, .int .i64 v5] 33).alloc #[.int .i64 u0, .int .i64 u1, .int .i64 u2, .int .i64 u3, .int .i64 u4, .int .i64 u5] 33).alloc #[.int .i64 0, .int .i64 0, .int .i64 0, .int .i64 0, .int .i64 0, .int .i64 0] 33
  simp only [World.size_alloc] at E
  have HE := Lib.hid E
  clear E hv hu h0 h1 h2
  go_enter Tryz.func106, Tryz.ntmps106
  go_wp2_with fail
  go_at_call 39
  refine (CL.out _).mono ?_
  rintro e W1 ⟨rfl, hb1⟩
  replace HE := Lib.hid (HE.out.below hb1)
  clear hb1 CL
  go_wp2_with fail
  go_at_call 53
  refine (begin_calls _).mono ?_
  rintro e W2 ⟨bs, rfl, hbs, hsh, hb2⟩
  have hbs2 : w.heap.size + 1 + 1 < bs := Nat.lt_of_lt_of_le HE.out.blks.1.lt hbs
  replace HE := Lib.hid ((HE.out.below hb2).blk hsh)
  clear hb2 hsh hbs
  go_wp2_with fail
  have E := HE.out.alloc #[.int .i64 0, .int .i64 0, .int .i64 0, .int .i64 0, .int .i64 0, .int .i64 0] 33
  have hb10 : bs < W2.heap.size := HE.out.blks.1.lt
  clear HE
  generalize W2.alloc (.cells #[.int .i64 0, .int .i64 0, .int .i64 0, .int .i64 0, .int .i64 0, .int .i64 0] 33) = V at *
  generalize W2.heap.size = b10 at *
  have HE := Lib.hid E.swap
  clear E
  go_loopw [20] (fun i wr => ∃ (k : Nat) (y0 y1 y2 y3 y4 y5 : Int), k ≤ 3 ∧ i = .int .i64 k ∧ ((k = 0 ∧ y0 = 0 ∧ y1 = 0 ∧ y2 = 0 ∧ y3 = 0 ∧ y4 = 0 ∧ y5 = 0) ∨ (k = 1 ∧ y0 = r0 ∧ y1 = r1 ∧ y2 = 0 ∧ y3 = 0 ∧ y4 = 0 ∧ y5 = 0) ∨ (k = 2 ∧ y0 = r0 ∧ y1 = r1 ∧ y2 = r2 ∧ y3 = r3 ∧ y4 = 0 ∧ y5 = 0) ∨ (k = 3 ∧ y0 = r0 ∧ y1 = r1 ∧ y2 = r2 ∧ y3 = r3 ∧ y4 = r4 ∧ y5 = r5)) ∧ Env w [(bs, sheetC, 100), (b10, #[.int .i64 y0, .int .i64 y1, .int .i64 y2, .int .i64 y3, .int .i64 y4, .int .i64 y5], 33), (w.heap.size + 1 + 1, #[.int .i64 0, .int .i64 0, .int .i64 0, .int .i64 0, .int .i64 0, .int .i64 0], 33), (w.heap.size + 1, #[.int .i64 u0, .int .i64 u1, .int .i64 u2, .int .i64 u3, .int .i64 u4, .int .i64 u5], 33), (w.heap.size, #[.int .i64 v0, .int .i64 v1, .int .i64 v2, .int .i64 v3, .int .i64 v4, .int .i64 v5], 33)] [] wr) (fun i _ => 3 - (intOf i).toNat)
  case atStart => exact ⟨0, 0, 0, 0, 0, 0, 0, by omega, rfl, .inl ⟨rfl, rfl, rfl, rfl, rfl, rfl, rfl⟩, HE.out⟩
  case round =>
    clear HE
    obtain ⟨k, y0, y1, y2, y3, y4, y5, hk, rfl, hy, E⟩ := hrel
    have HE := Lib.hid E
    clear E
    rcases hy with ⟨rfl, h0, h1, h2, h3, h4, h5⟩ | ⟨rfl, h0, h1, h2, h3, h4, h5⟩ | ⟨rfl, h0, h1, h2, h3, h4, h5⟩ | ⟨rfl, h0, h1, h2, h3, h4, h5⟩
    · rw [h0, h1, h2, h3, h4, h5] at HE
      clear h0 h1 h2 h3 h4 h5
      go_wp2_with fail
      refine region_start (S := fun W' => Env w [(w.heap.size + 1, #[.int .i64 u0, .int .i64 u1, .int .i64 u2, .int .i64 u3, .int .i64 u4, .int .i64 u5], 33), (w.heap.size, #[.int .i64 v0, .int .i64 v1, .int .i64 v2, .int .i64 v3, .int .i64 v4, .int .i64 v5], 33)] [] W') (by kernel_rfl) ?_
      intro W hW
      have E := HE.out.drew
      rw [← hW] at E
      clear hW HE
      have hS := E.drop.drop.drop
      refine wpAnyH_take (i := 0) (v := .int .i64 0) rfl (by kernel_rfl) (by kernel_rfl) (by kernel_rfl) (fun _ _ _ h => h) (.inl ⟨rfl, fun w0 hw0 => ?a0⟩) hS ?_
      case a0 =>
        have g := hw0.blks; have e0 : w0.cell? ⟨w.heap.size, 0, none⟩ = some (.int .i64 v0) := g.2.1.at 0; have e1 : w0.cell? ⟨w.heap.size, 1, none⟩ = some (.int .i64 v1) := g.2.1.at 1; have e2 : w0.cell? ⟨w.heap.size + 1, 0, none⟩ = some (.int .i64 u0) := g.1.at 0; have e3 : w0.cell? ⟨w.heap.size + 1, 1, none⟩ = some (.int .i64 u1) := g.1.at 1
        go_simp
      refine wpAnyH_take (i := 1) (v := .pointer (some ⟨bs, 0, none⟩)) rfl (by kernel_rfl) (by kernel_rfl) (by kernel_rfl) (fun _ _ _ h => h) (.inl ⟨rfl, fun w0 hw0 => ?a1⟩) hS ?_
      case a1 =>
        have g := hw0.blks; have e0 : w0.cell? ⟨w.heap.size, 0, none⟩ = some (.int .i64 v0) := g.2.1.at 0; have e1 : w0.cell? ⟨w.heap.size, 1, none⟩ = some (.int .i64 v1) := g.2.1.at 1; have e2 : w0.cell? ⟨w.heap.size + 1, 0, none⟩ = some (.int .i64 u0) := g.1.at 0; have e3 : w0.cell? ⟨w.heap.size + 1, 1, none⟩ = some (.int .i64 u1) := g.1.at 1
        go_simp
      refine wpAnyH_take (i := 2) (v := .func (.func 20) #[] #[]) rfl (by kernel_rfl) (by kernel_rfl) (by kernel_rfl) (fun _ _ _ h => h) (.inl ⟨rfl, fun w0 hw0 => ?a2⟩) hS ?_
      case a2 =>
        have g := hw0.blks; have e0 : w0.cell? ⟨w.heap.size, 0, none⟩ = some (.int .i64 v0) := g.2.1.at 0; have e1 : w0.cell? ⟨w.heap.size, 1, none⟩ = some (.int .i64 v1) := g.2.1.at 1; have e2 : w0.cell? ⟨w.heap.size + 1, 0, none⟩ = some (.int .i64 u0) := g.1.at 0; have e3 : w0.cell? ⟨w.heap.size + 1, 1, none⟩ = some (.int .i64 u1) := g.1.at 1
        go_simp
      refine wpAnyH_take (i := 3) (v := .int .i64 0) rfl (by kernel_rfl) (by kernel_rfl) (by kernel_rfl) (fun _ _ _ h => h) (.inl ⟨rfl, fun w0 hw0 => ?a3⟩) hS ?_
      case a3 =>
        have g := hw0.blks; have e0 : w0.cell? ⟨w.heap.size, 0, none⟩ = some (.int .i64 v0) := g.2.1.at 0; have e1 : w0.cell? ⟨w.heap.size, 1, none⟩ = some (.int .i64 v1) := g.2.1.at 1; have e2 : w0.cell? ⟨w.heap.size + 1, 0, none⟩ = some (.int .i64 u0) := g.1.at 0; have e3 : w0.cell? ⟨w.heap.size + 1, 1, none⟩ = some (.int .i64 u1) := g.1.at 1
        go_simp
      refine wpAnyH_take (i := 4) (v := .pointer (some ⟨w.heap.size, 0, none⟩)) rfl (by kernel_rfl) (by kernel_rfl) (by kernel_rfl) (fun _ _ _ h => h) (.inl ⟨rfl, fun w0 hw0 => ?a4⟩) hS ?_
      case a4 =>
        have g := hw0.blks; have e0 : w0.cell? ⟨w.heap.size, 0, none⟩ = some (.int .i64 v0) := g.2.1.at 0; have e1 : w0.cell? ⟨w.heap.size, 1, none⟩ = some (.int .i64 v1) := g.2.1.at 1; have e2 : w0.cell? ⟨w.heap.size + 1, 0, none⟩ = some (.int .i64 u0) := g.1.at 0; have e3 : w0.cell? ⟨w.heap.size + 1, 1, none⟩ = some (.int .i64 u1) := g.1.at 1
        go_simp
      refine wpAnyH_take (i := 5) (v := .agg #[.int .i64 v0, .int .i64 v1]) rfl (by kernel_rfl) (by kernel_rfl) (by kernel_rfl) (fun _ _ _ h => h) (.inl ⟨rfl, fun w0 hw0 => ?a5⟩) hS ?_
      case a5 =>
        have g := hw0.blks; have e0 : w0.cell? ⟨w.heap.size, 0, none⟩ = some (.int .i64 v0) := g.2.1.at 0; have e1 : w0.cell? ⟨w.heap.size, 1, none⟩ = some (.int .i64 v1) := g.2.1.at 1; have e2 : w0.cell? ⟨w.heap.size + 1, 0, none⟩ = some (.int .i64 u0) := g.1.at 0; have e3 : w0.cell? ⟨w.heap.size + 1, 1, none⟩ = some (.int .i64 u1) := g.1.at 1
        go_simp
      refine wpAnyH_take (i := 6) (v := .int .i64 0) rfl (by kernel_rfl) (by kernel_rfl) (by kernel_rfl) (fun _ _ _ h => h) (.inl ⟨rfl, fun w0 hw0 => ?a6⟩) hS ?_
      case a6 =>
        have g := hw0.blks; have e0 : w0.cell? ⟨w.heap.size, 0, none⟩ = some (.int .i64 v0) := g.2.1.at 0; have e1 : w0.cell? ⟨w.heap.size, 1, none⟩ = some (.int .i64 v1) := g.2.1.at 1; have e2 : w0.cell? ⟨w.heap.size + 1, 0, none⟩ = some (.int .i64 u0) := g.1.at 0; have e3 : w0.cell? ⟨w.heap.size + 1, 1, none⟩ = some (.int .i64 u1) := g.1.at 1
        go_simp
      refine wpAnyH_take (i := 7) (v := .pointer (some ⟨w.heap.size + 1, 0, none⟩)) rfl (by kernel_rfl) (by kernel_rfl) (by kernel_rfl) (fun _ _ _ h => h) (.inl ⟨rfl, fun w0 hw0 => ?a7⟩) hS ?_
      case a7 =>
        have g := hw0.blks; have e0 : w0.cell? ⟨w.heap.size, 0, none⟩ = some (.int .i64 v0) := g.2.1.at 0; have e1 : w0.cell? ⟨w.heap.size, 1, none⟩ = some (.int .i64 v1) := g.2.1.at 1; have e2 : w0.cell? ⟨w.heap.size + 1, 0, none⟩ = some (.int .i64 u0) := g.1.at 0; have e3 : w0.cell? ⟨w.heap.size + 1, 1, none⟩ = some (.int .i64 u1) := g.1.at 1
        go_simp
      refine wpAnyH_take (i := 8) (v := .agg #[.int .i64 u0, .int .i64 u1]) rfl (by kernel_rfl) (by kernel_rfl) (by kernel_rfl) (fun _ _ _ h => h) (.inl ⟨rfl, fun w0 hw0 => ?a8⟩) hS ?_
      case a8 =>
        have g := hw0.blks; have e0 : w0.cell? ⟨w.heap.size, 0, none⟩ = some (.int .i64 v0) := g.2.1.at 0; have e1 : w0.cell? ⟨w.heap.size, 1, none⟩ = some (.int .i64 v1) := g.2.1.at 1; have e2 : w0.cell? ⟨w.heap.size + 1, 0, none⟩ = some (.int .i64 u0) := g.1.at 0; have e3 : w0.cell? ⟨w.heap.size + 1, 1, none⟩ = some (.int .i64 u1) := g.1.at 1
        go_simp
      clear hS
      refine wpAnyH_all (rs := [9]) (by kernel_rfl) (by simp) ?_
      intro i0 hi0
      obtain rfl : i0 = 9 := by simpa using hi0
      refine wpOp_plain rfl rfl fun K' hK' => ?_
      go_simp
      refine (doMul_calls _ bs v0 v1 u0 u1 r0 r1 E.blks.1 H0.out).mono ?_
      rintro e W2 ⟨rfl, hs2, hk2⟩
      replace E := E.keeps (by omega) (by simp [Free] <;> omega) hk2 hs2
      clear hs2 hk2
      refine hK' _ _ ⟨E.drop.drop.drop, ?_⟩
      clear hK' K'
      have hS := E.drop.drop.drop
      refine wpAnyH_take (i := 10) (v := .pointer (some ⟨b10, 0, none⟩)) rfl (by kernel_rfl) (by kernel_rfl) (by kernel_rfl) (fun _ _ _ h => h) (.inl ⟨rfl, fun w0 hw0 => ?a10⟩) hS ?_
      case a10 =>
        have g := hw0.blks; have e0 : w0.cell? ⟨w.heap.size, 0, none⟩ = some (.int .i64 v0) := g.2.1.at 0; have e1 : w0.cell? ⟨w.heap.size, 1, none⟩ = some (.int .i64 v1) := g.2.1.at 1; have e2 : w0.cell? ⟨w.heap.size + 1, 0, none⟩ = some (.int .i64 u0) := g.1.at 0; have e3 : w0.cell? ⟨w.heap.size + 1, 1, none⟩ = some (.int .i64 u1) := g.1.at 1
        go_simp
      clear hS
      have f0 : W2.cell? ⟨b10, 0, none⟩ = some (.int .i64 0) := E.blks.2.1.at 0
      have f1 : W2.cell? ⟨b10, 1, none⟩ = some (.int .i64 0) := E.blks.2.1.at 1
      have g0 := E.blks.2.1.fr 0
      have g1 := E.blks.2.1.fr 1
      refine wpAnyH_all (rs := [11]) (by kernel_rfl) (by simp) ?_
      intro i0 hi0
      obtain rfl : i0 = 11 := by simpa using hi0
      refine wpOp_plain rfl rfl fun K' hK' => ?_
      go_simp
      replace E := ((E.swap.setY (by omega) (by simp [Free] <;> omega) rfl 0 (.int .i64 r0)).setY (by omega) (by simp [Free] <;> omega) rfl 1 (.int .i64 r1)).swap
      clear f0 f1 g0 g1
      refine hK' _ _ ⟨E.drop.drop.drop, wpAnyH_done (by kernel_rfl) ?_ _⟩
      clear hK' K'
      have HE := Lib.hid E
      clear E
      go_wp2
      go_roundw
      case rel => exact ⟨1, r0, r1, 0, 0, 0, 0, by omega, by go_num, .inr (.inl ⟨rfl, rfl, rfl, rfl, rfl, rfl, rfl⟩), HE.out⟩
      case measure => simp [intOf]
    · rw [h0, h1, h2, h3, h4, h5] at HE
      clear h0 h1 h2 h3 h4 h5
      go_wp2_with fail
      refine region_start (S := fun W' => Env w [(w.heap.size + 1, #[.int .i64 u0, .int .i64 u1, .int .i64 u2, .int .i64 u3, .int .i64 u4, .int .i64 u5], 33), (w.heap.size, #[.int .i64 v0, .int .i64 v1, .int .i64 v2, .int .i64 v3, .int .i64 v4, .int .i64 v5], 33)] [] W') (by kernel_rfl) ?_
      intro W hW
      have E := HE.out.drew
      rw [← hW] at E
      clear hW HE
      have hS := E.drop.drop.drop
      refine wpAnyH_take (i := 0) (v := .int .i64 1) rfl (by kernel_rfl) (by kernel_rfl) (by kernel_rfl) (fun _ _ _ h => h) (.inl ⟨rfl, fun w0 hw0 => ?a0⟩) hS ?_
      case a0 =>
        have g := hw0.blks; have e0 : w0.cell? ⟨w.heap.size, 2, none⟩ = some (.int .i64 v2) := g.2.1.at 2; have e1 : w0.cell? ⟨w.heap.size, 3, none⟩ = some (.int .i64 v3) := g.2.1.at 3; have e2 : w0.cell? ⟨w.heap.size + 1, 2, none⟩ = some (.int .i64 u2) := g.1.at 2; have e3 : w0.cell? ⟨w.heap.size + 1, 3, none⟩ = some (.int .i64 u3) := g.1.at 3
        go_simp
      refine wpAnyH_take (i := 1) (v := .pointer (some ⟨bs, 0, none⟩)) rfl (by kernel_rfl) (by kernel_rfl) (by kernel_rfl) (fun _ _ _ h => h) (.inl ⟨rfl, fun w0 hw0 => ?a1⟩) hS ?_
      case a1 =>
        have g := hw0.blks; have e0 : w0.cell? ⟨w.heap.size, 2, none⟩ = some (.int .i64 v2) := g.2.1.at 2; have e1 : w0.cell? ⟨w.heap.size, 3, none⟩ = some (.int .i64 v3) := g.2.1.at 3; have e2 : w0.cell? ⟨w.heap.size + 1, 2, none⟩ = some (.int .i64 u2) := g.1.at 2; have e3 : w0.cell? ⟨w.heap.size + 1, 3, none⟩ = some (.int .i64 u3) := g.1.at 3
        go_simp
      refine wpAnyH_take (i := 2) (v := .func (.func 20) #[] #[]) rfl (by kernel_rfl) (by kernel_rfl) (by kernel_rfl) (fun _ _ _ h => h) (.inl ⟨rfl, fun w0 hw0 => ?a2⟩) hS ?_
      case a2 =>
        have g := hw0.blks; have e0 : w0.cell? ⟨w.heap.size, 2, none⟩ = some (.int .i64 v2) := g.2.1.at 2; have e1 : w0.cell? ⟨w.heap.size, 3, none⟩ = some (.int .i64 v3) := g.2.1.at 3; have e2 : w0.cell? ⟨w.heap.size + 1, 2, none⟩ = some (.int .i64 u2) := g.1.at 2; have e3 : w0.cell? ⟨w.heap.size + 1, 3, none⟩ = some (.int .i64 u3) := g.1.at 3
        go_simp
      refine wpAnyH_take (i := 3) (v := .int .i64 1) rfl (by kernel_rfl) (by kernel_rfl) (by kernel_rfl) (fun _ _ _ h => h) (.inl ⟨rfl, fun w0 hw0 => ?a3⟩) hS ?_
      case a3 =>
        have g := hw0.blks; have e0 : w0.cell? ⟨w.heap.size, 2, none⟩ = some (.int .i64 v2) := g.2.1.at 2; have e1 : w0.cell? ⟨w.heap.size, 3, none⟩ = some (.int .i64 v3) := g.2.1.at 3; have e2 : w0.cell? ⟨w.heap.size + 1, 2, none⟩ = some (.int .i64 u2) := g.1.at 2; have e3 : w0.cell? ⟨w.heap.size + 1, 3, none⟩ = some (.int .i64 u3) := g.1.at 3
        go_simp
      refine wpAnyH_take (i := 4) (v := .pointer (some ⟨w.heap.size, 2, none⟩)) rfl (by kernel_rfl) (by kernel_rfl) (by kernel_rfl) (fun _ _ _ h => h) (.inl ⟨rfl, fun w0 hw0 => ?a4⟩) hS ?_
      case a4 =>
        have g := hw0.blks; have e0 : w0.cell? ⟨w.heap.size, 2, none⟩ = some (.int .i64 v2) := g.2.1.at 2; have e1 : w0.cell? ⟨w.heap.size, 3, none⟩ = some (.int .i64 v3) := g.2.1.at 3; have e2 : w0.cell? ⟨w.heap.size + 1, 2, none⟩ = some (.int .i64 u2) := g.1.at 2; have e3 : w0.cell? ⟨w.heap.size + 1, 3, none⟩ = some (.int .i64 u3) := g.1.at 3
        go_simp
      refine wpAnyH_take (i := 5) (v := .agg #[.int .i64 v2, .int .i64 v3]) rfl (by kernel_rfl) (by kernel_rfl) (by kernel_rfl) (fun _ _ _ h => h) (.inl ⟨rfl, fun w0 hw0 => ?a5⟩) hS ?_
      case a5 =>
        have g := hw0.blks; have e0 : w0.cell? ⟨w.heap.size, 2, none⟩ = some (.int .i64 v2) := g.2.1.at 2; have e1 : w0.cell? ⟨w.heap.size, 3, none⟩ = some (.int .i64 v3) := g.2.1.at 3; have e2 : w0.cell? ⟨w.heap.size + 1, 2, none⟩ = some (.int .i64 u2) := g.1.at 2; have e3 : w0.cell? ⟨w.heap.size + 1, 3, none⟩ = some (.int .i64 u3) := g.1.at 3
        go_simp
      refine wpAnyH_take (i := 6) (v := .int .i64 1) rfl (by kernel_rfl) (by kernel_rfl) (by kernel_rfl) (fun _ _ _ h => h) (.inl ⟨rfl, fun w0 hw0 => ?a6⟩) hS ?_
      case a6 =>
        have g := hw0.blks; have e0 : w0.cell? ⟨w.heap.size, 2, none⟩ = some (.int .i64 v2) := g.2.1.at 2; have e1 : w0.cell? ⟨w.heap.size, 3, none⟩ = some (.int .i64 v3) := g.2.1.at 3; have e2 : w0.cell? ⟨w.heap.size + 1, 2, none⟩ = some (.int .i64 u2) := g.1.at 2; have e3 : w0.cell? ⟨w.heap.size + 1, 3, none⟩ = some (.int .i64 u3) := g.1.at 3
        go_simp
      refine wpAnyH_take (i := 7) (v := .pointer (some ⟨w.heap.size + 1, 2, none⟩)) rfl (by kernel_rfl) (by kernel_rfl) (by kernel_rfl) (fun _ _ _ h => h) (.inl ⟨rfl, fun w0 hw0 => ?a7⟩) hS ?_
      case a7 =>
        have g := hw0.blks; have e0 : w0.cell? ⟨w.heap.size, 2, none⟩ = some (.int .i64 v2) := g.2.1.at 2; have e1 : w0.cell? ⟨w.heap.size, 3, none⟩ = some (.int .i64 v3) := g.2.1.at 3; have e2 : w0.cell? ⟨w.heap.size + 1, 2, none⟩ = some (.int .i64 u2) := g.1.at 2; have e3 : w0.cell? ⟨w.heap.size + 1, 3, none⟩ = some (.int .i64 u3) := g.1.at 3
        go_simp
      refine wpAnyH_take (i := 8) (v := .agg #[.int .i64 u2, .int .i64 u3]) rfl (by kernel_rfl) (by kernel_rfl) (by kernel_rfl) (fun _ _ _ h => h) (.inl ⟨rfl, fun w0 hw0 => ?a8⟩) hS ?_
      case a8 =>
        have g := hw0.blks; have e0 : w0.cell? ⟨w.heap.size, 2, none⟩ = some (.int .i64 v2) := g.2.1.at 2; have e1 : w0.cell? ⟨w.heap.size, 3, none⟩ = some (.int .i64 v3) := g.2.1.at 3; have e2 : w0.cell? ⟨w.heap.size + 1, 2, none⟩ = some (.int .i64 u2) := g.1.at 2; have e3 : w0.cell? ⟨w.heap.size + 1, 3, none⟩ = some (.int .i64 u3) := g.1.at 3
        go_simp
      clear hS
      refine wpAnyH_all (rs := [9]) (by kernel_rfl) (by simp) ?_
      intro i0 hi0
      obtain rfl : i0 = 9 := by simpa using hi0
      refine wpOp_plain rfl rfl fun K' hK' => ?_
      go_simp
      refine (doMul_calls _ bs v2 v3 u2 u3 r2 r3 E.blks.1 H1.out).mono ?_
      rintro e W2 ⟨rfl, hs2, hk2⟩
      replace E := E.keeps (by omega) (by simp [Free] <;> omega) hk2 hs2
      clear hs2 hk2
      refine hK' _ _ ⟨E.drop.drop.drop, ?_⟩
      clear hK' K'
      have hS := E.drop.drop.drop
      refine wpAnyH_take (i := 10) (v := .pointer (some ⟨b10, 2, none⟩)) rfl (by kernel_rfl) (by kernel_rfl) (by kernel_rfl) (fun _ _ _ h => h) (.inl ⟨rfl, fun w0 hw0 => ?a10⟩) hS ?_
      case a10 =>
        have g := hw0.blks; have e0 : w0.cell? ⟨w.heap.size, 2, none⟩ = some (.int .i64 v2) := g.2.1.at 2; have e1 : w0.cell? ⟨w.heap.size, 3, none⟩ = some (.int .i64 v3) := g.2.1.at 3; have e2 : w0.cell? ⟨w.heap.size + 1, 2, none⟩ = some (.int .i64 u2) := g.1.at 2; have e3 : w0.cell? ⟨w.heap.size + 1, 3, none⟩ = some (.int .i64 u3) := g.1.at 3
        go_simp
      clear hS
      have f0 : W2.cell? ⟨b10, 2, none⟩ = some (.int .i64 0) := E.blks.2.1.at 2
      have f1 : W2.cell? ⟨b10, 3, none⟩ = some (.int .i64 0) := E.blks.2.1.at 3
      have g0 := E.blks.2.1.fr 2
      have g1 := E.blks.2.1.fr 3
      refine wpAnyH_all (rs := [11]) (by kernel_rfl) (by simp) ?_
      intro i0 hi0
      obtain rfl : i0 = 11 := by simpa using hi0
      refine wpOp_plain rfl rfl fun K' hK' => ?_
      go_simp
      replace E := ((E.swap.setY (by omega) (by simp [Free] <;> omega) rfl 2 (.int .i64 r2)).setY (by omega) (by simp [Free] <;> omega) rfl 3 (.int .i64 r3)).swap
      clear f0 f1 g0 g1
      refine hK' _ _ ⟨E.drop.drop.drop, wpAnyH_done (by kernel_rfl) ?_ _⟩
      clear hK' K'
      have HE := Lib.hid E
      clear E
      go_wp2
      go_roundw
      case rel => exact ⟨2, r0, r1, r2, r3, 0, 0, by omega, by go_num, .inr (.inr (.inl ⟨rfl, rfl, rfl, rfl, rfl, rfl, rfl⟩)), HE.out⟩
      case measure => simp [intOf]
    · rw [h0, h1, h2, h3, h4, h5] at HE
      clear h0 h1 h2 h3 h4 h5
      go_wp2_with fail
      refine region_start (S := fun W' => Env w [(w.heap.size + 1, #[.int .i64 u0, .int .i64 u1, .int .i64 u2, .int .i64 u3, .int .i64 u4, .int .i64 u5], 33), (w.heap.size, #[.int .i64 v0, .int .i64 v1, .int .i64 v2, .int .i64 v3, .int .i64 v4, .int .i64 v5], 33)] [] W') (by kernel_rfl) ?_
      intro W hW
      have E := HE.out.drew
      rw [← hW] at E
      clear hW HE
      have hS := E.drop.drop.drop
      refine wpAnyH_take (i := 0) (v := .int .i64 2) rfl (by kernel_rfl) (by kernel_rfl) (by kernel_rfl) (fun _ _ _ h => h) (.inl ⟨rfl, fun w0 hw0 => ?a0⟩) hS ?_
      case a0 =>
        have g := hw0.blks; have e0 : w0.cell? ⟨w.heap.size, 4, none⟩ = some (.int .i64 v4) := g.2.1.at 4; have e1 : w0.cell? ⟨w.heap.size, 5, none⟩ = some (.int .i64 v5) := g.2.1.at 5; have e2 : w0.cell? ⟨w.heap.size + 1, 4, none⟩ = some (.int .i64 u4) := g.1.at 4; have e3 : w0.cell? ⟨w.heap.size + 1, 5, none⟩ = some (.int .i64 u5) := g.1.at 5
        go_simp
      refine wpAnyH_take (i := 1) (v := .pointer (some ⟨bs, 0, none⟩)) rfl (by kernel_rfl) (by kernel_rfl) (by kernel_rfl) (fun _ _ _ h => h) (.inl ⟨rfl, fun w0 hw0 => ?a1⟩) hS ?_
      case a1 =>
        have g := hw0.blks; have e0 : w0.cell? ⟨w.heap.size, 4, none⟩ = some (.int .i64 v4) := g.2.1.at 4; have e1 : w0.cell? ⟨w.heap.size, 5, none⟩ = some (.int .i64 v5) := g.2.1.at 5; have e2 : w0.cell? ⟨w.heap.size + 1, 4, none⟩ = some (.int .i64 u4) := g.1.at 4; have e3 : w0.cell? ⟨w.heap.size + 1, 5, none⟩ = some (.int .i64 u5) := g.1.at 5
        go_simp
      refine wpAnyH_take (i := 2) (v := .func (.func 20) #[] #[]) rfl (by kernel_rfl) (by kernel_rfl) (by kernel_rfl) (fun _ _ _ h => h) (.inl ⟨rfl, fun w0 hw0 => ?a2⟩) hS ?_
      case a2 =>
        have g := hw0.blks; have e0 : w0.cell? ⟨w.heap.size, 4, none⟩ = some (.int .i64 v4) := g.2.1.at 4; have e1 : w0.cell? ⟨w.heap.size, 5, none⟩ = some (.int .i64 v5) := g.2.1.at 5; have e2 : w0.cell? ⟨w.heap.size + 1, 4, none⟩ = some (.int .i64 u4) := g.1.at 4; have e3 : w0.cell? ⟨w.heap.size + 1, 5, none⟩ = some (.int .i64 u5) := g.1.at 5
        go_simp
      refine wpAnyH_take (i := 3) (v := .int .i64 2) rfl (by kernel_rfl) (by kernel_rfl) (by kernel_rfl) (fun _ _ _ h => h) (.inl ⟨rfl, fun w0 hw0 => ?a3⟩) hS ?_
      case a3 =>
        have g := hw0.blks; have e0 : w0.cell? ⟨w.heap.size, 4, none⟩ = some (.int .i64 v4) := g.2.1.at 4; have e1 : w0.cell? ⟨w.heap.size, 5, none⟩ = some (.int .i64 v5) := g.2.1.at 5; have e2 : w0.cell? ⟨w.heap.size + 1, 4, none⟩ = some (.int .i64 u4) := g.1.at 4; have e3 : w0.cell? ⟨w.heap.size + 1, 5, none⟩ = some (.int .i64 u5) := g.1.at 5
        go_simp
      refine wpAnyH_take (i := 4) (v := .pointer (some ⟨w.heap.size, 4, none⟩)) rfl (by kernel_rfl) (by kernel_rfl) (by kernel_rfl) (fun _ _ _ h => h) (.inl ⟨rfl, fun w0 hw0 => ?a4⟩) hS ?_
      case a4 =>
        have g := hw0.blks; have e0 : w0.cell? ⟨w.heap.size, 4, none⟩ = some (.int .i64 v4) := g.2.1.at 4; have e1 : w0.cell? ⟨w.heap.size, 5, none⟩ = some (.int .i64 v5) := g.2.1.at 5; have e2 : w0.cell? ⟨w.heap.size + 1, 4, none⟩ = some (.int .i64 u4) := g.1.at 4; have e3 : w0.cell? ⟨w.heap.size + 1, 5, none⟩ = some (.int .i64 u5) := g.1.at 5
        go_simp
      refine wpAnyH_take (i := 5) (v := .agg #[.int .i64 v4, .int .i64 v5]) rfl (by kernel_rfl) (by kernel_rfl) (by kernel_rfl) (fun _ _ _ h => h) (.inl ⟨rfl, fun w0 hw0 => ?a5⟩) hS ?_
      case a5 =>
        have g := hw0.blks; have e0 : w0.cell? ⟨w.heap.size, 4, none⟩ = some (.int .i64 v4) := g.2.1.at 4; have e1 : w0.cell? ⟨w.heap.size, 5, none⟩ = some (.int .i64 v5) := g.2.1.at 5; have e2 : w0.cell? ⟨w.heap.size + 1, 4, none⟩ = some (.int .i64 u4) := g.1.at 4; have e3 : w0.cell? ⟨w.heap.size + 1, 5, none⟩ = some (.int .i64 u5) := g.1.at 5
        go_simp
      refine wpAnyH_take (i := 6) (v := .int .i64 2) rfl (by kernel_rfl) (by kernel_rfl) (by kernel_rfl) (fun _ _ _ h => h) (.inl ⟨rfl, fun w0 hw0 => ?a6⟩) hS ?_
      case a6 =>
        have g := hw0.blks; have e0 : w0.cell? ⟨w.heap.size, 4, none⟩ = some (.int .i64 v4) := g.2.1.at 4; have e1 : w0.cell? ⟨w.heap.size, 5, none⟩ = some (.int .i64 v5) := g.2.1.at 5; have e2 : w0.cell? ⟨w.heap.size + 1, 4, none⟩ = some (.int .i64 u4) := g.1.at 4; have e3 : w0.cell? ⟨w.heap.size + 1, 5, none⟩ = some (.int .i64 u5) := g.1.at 5
        go_simp
      refine wpAnyH_take (i := 7) (v := .pointer (some ⟨w.heap.size + 1, 4, none⟩)) rfl (by kernel_rfl) (by kernel_rfl) (by kernel_rfl) (fun _ _ _ h => h) (.inl ⟨rfl, fun w0 hw0 => ?a7⟩) hS ?_
      case a7 =>
        have g := hw0.blks; have e0 : w0.cell? ⟨w.heap.size, 4, none⟩ = some (.int .i64 v4) := g.2.1.at 4; have e1 : w0.cell? ⟨w.heap.size, 5, none⟩ = some (.int .i64 v5) := g.2.1.at 5; have e2 : w0.cell? ⟨w.heap.size + 1, 4, none⟩ = some (.int .i64 u4) := g.1.at 4; have e3 : w0.cell? ⟨w.heap.size + 1, 5, none⟩ = some (.int .i64 u5) := g.1.at 5
        go_simp
      refine wpAnyH_take (i := 8) (v := .agg #[.int .i64 u4, .int .i64 u5]) rfl (by kernel_rfl) (by kernel_rfl) (by kernel_rfl) (fun _ _ _ h => h) (.inl ⟨rfl, fun w0 hw0 => ?a8⟩) hS ?_
      case a8 =>
        have g := hw0.blks; have e0 : w0.cell? ⟨w.heap.size, 4, none⟩ = some (.int .i64 v4) := g.2.1.at 4; have e1 : w0.cell? ⟨w.heap.size, 5, none⟩ = some (.int .i64 v5) := g.2.1.at 5; have e2 : w0.cell? ⟨w.heap.size + 1, 4, none⟩ = some (.int .i64 u4) := g.1.at 4; have e3 : w0.cell? ⟨w.heap.size + 1, 5, none⟩ = some (.int .i64 u5) := g.1.at 5
        go_simp
      clear hS
      refine wpAnyH_all (rs := [9]) (by kernel_rfl) (by simp) ?_
      intro i0 hi0
      obtain rfl : i0 = 9 := by simpa using hi0
      refine wpOp_plain rfl rfl fun K' hK' => ?_
      go_simp
      refine (doMul_calls _ bs v4 v5 u4 u5 r4 r5 E.blks.1 H2.out).mono ?_
      rintro e W2 ⟨rfl, hs2, hk2⟩
      replace E := E.keeps (by omega) (by simp [Free] <;> omega) hk2 hs2
      clear hs2 hk2
      refine hK' _ _ ⟨E.drop.drop.drop, ?_⟩
      clear hK' K'
      have hS := E.drop.drop.drop
      refine wpAnyH_take (i := 10) (v := .pointer (some ⟨b10, 4, none⟩)) rfl (by kernel_rfl) (by kernel_rfl) (by kernel_rfl) (fun _ _ _ h => h) (.inl ⟨rfl, fun w0 hw0 => ?a10⟩) hS ?_
      case a10 =>
        have g := hw0.blks; have e0 : w0.cell? ⟨w.heap.size, 4, none⟩ = some (.int .i64 v4) := g.2.1.at 4; have e1 : w0.cell? ⟨w.heap.size, 5, none⟩ = some (.int .i64 v5) := g.2.1.at 5; have e2 : w0.cell? ⟨w.heap.size + 1, 4, none⟩ = some (.int .i64 u4) := g.1.at 4; have e3 : w0.cell? ⟨w.heap.size + 1, 5, none⟩ = some (.int .i64 u5) := g.1.at 5
        go_simp
      clear hS
      have f0 : W2.cell? ⟨b10, 4, none⟩ = some (.int .i64 0) := E.blks.2.1.at 4
      have f1 : W2.cell? ⟨b10, 5, none⟩ = some (.int .i64 0) := E.blks.2.1.at 5
      have g0 := E.blks.2.1.fr 4
      have g1 := E.blks.2.1.fr 5
      refine wpAnyH_all (rs := [11]) (by kernel_rfl) (by simp) ?_
      intro i0 hi0
      obtain rfl : i0 = 11 := by simpa using hi0
      refine wpOp_plain rfl rfl fun K' hK' => ?_
      go_simp
      replace E := ((E.swap.setY (by omega) (by simp [Free] <;> omega) rfl 4 (.int .i64 r4)).setY (by omega) (by simp [Free] <;> omega) rfl 5 (.int .i64 r5)).swap
      clear f0 f1 g0 g1
      refine hK' _ _ ⟨E.drop.drop.drop, wpAnyH_done (by kernel_rfl) ?_ _⟩
      clear hK' K'
      have HE := Lib.hid E
      clear E
      go_wp2
      go_roundw
      case rel => exact ⟨3, r0, r1, r2, r3, r4, r5, by omega, by go_num, .inr (.inr (.inr ⟨rfl, rfl, rfl, rfl, rfl, rfl, rfl⟩)), HE.out⟩
      case measure => simp [intOf]
    · rw [h0, h1, h2, h3, h4, h5] at HE
      clear h0 h1 h2 h3 h4 h5
      have e0 : wr.cell? ⟨b10, 0, none⟩ = some (.int .i64 r0) := HE.out.blks.2.1.at 0
      have e1 : wr.cell? ⟨b10, 1, none⟩ = some (.int .i64 r1) := HE.out.blks.2.1.at 1
      have e2 : wr.cell? ⟨b10, 2, none⟩ = some (.int .i64 r2) := HE.out.blks.2.1.at 2
      have e3 : wr.cell? ⟨b10, 3, none⟩ = some (.int .i64 r3) := HE.out.blks.2.1.at 3
      have e4 : wr.cell? ⟨b10, 4, none⟩ = some (.int .i64 r4) := HE.out.blks.2.1.at 4
      have e5 : wr.cell? ⟨b10, 5, none⟩ = some (.int .i64 r5) := HE.out.blks.2.1.at 5
      go_wp2_with fail
      go_at_call 135
      refine (vec_calls _ bs r0 r1 r2 r3 r4 r5 HE.out.blks.1).mono ?_
      rintro e W4 ⟨rfl, hb4⟩
      replace HE := Lib.hid (HE.out.below hb4)
      clear hb4 e0 e1 e2 e3 e4 e5
      have f0 : W4.cell? ⟨w.heap.size + 1 + 1, 0, none⟩ = some (.int .i64 0) := HE.out.blks.2.2.1.at 0
      have g0 := HE.out.blks.2.2.1.fr 0
      have f1 : W4.cell? ⟨w.heap.size + 1 + 1, 1, none⟩ = some (.int .i64 0) := HE.out.blks.2.2.1.at 1
      have g1 := HE.out.blks.2.2.1.fr 1
      have f2 : W4.cell? ⟨w.heap.size + 1 + 1, 2, none⟩ = some (.int .i64 0) := HE.out.blks.2.2.1.at 2
      have g2 := HE.out.blks.2.2.1.fr 2
      have f3 : W4.cell? ⟨w.heap.size + 1 + 1, 3, none⟩ = some (.int .i64 0) := HE.out.blks.2.2.1.at 3
      have g3 := HE.out.blks.2.2.1.fr 3
      have f4 : W4.cell? ⟨w.heap.size + 1 + 1, 4, none⟩ = some (.int .i64 0) := HE.out.blks.2.2.1.at 4
      have g4 := HE.out.blks.2.2.1.fr 4
      have f5 : W4.cell? ⟨w.heap.size + 1 + 1, 5, none⟩ = some (.int .i64 0) := HE.out.blks.2.2.1.at 5
      have g5 := HE.out.blks.2.2.1.fr 5
      go_wp2
      have E0 : Env w [(w.heap.size + 1 + 1, #[.int .i64 0, .int .i64 0, .int .i64 0, .int .i64 0, .int .i64 0, .int .i64 0], 33)] [] W4 := ⟨⟨HE.out.blks.2.2.1, trivial⟩, trivial, HE.out.bel⟩
      have E := ((((((E0.setY (by omega) (by simp [Free] <;> omega) rfl 0 (.int .i64 r0)).setY (by omega) (by simp [Free] <;> omega) rfl 1 (.int .i64 r1)).setY (by omega) (by simp [Free] <;> omega) rfl 2 (.int .i64 r2)).setY (by omega) (by simp [Free] <;> omega) rfl 3 (.int .i64 r3)).setY (by omega) (by simp [Free] <;> omega) rfl 4 (.int .i64 r4)).setY (by omega) (by simp [Free] <;> omega) rfl 5 (.int .i64 r5))
      have q0 : _ = some (Value.int .i64 r0) := E.blks.1.at 0
      have q1 : _ = some (Value.int .i64 r1) := E.blks.1.at 1
      have q2 : _ = some (Value.int .i64 r2) := E.blks.1.at 2
      have q3 : _ = some (Value.int .i64 r3) := E.blks.1.at 3
      have q4 : _ = some (Value.int .i64 r4) := E.blks.1.at 4
      have q5 : _ = some (Value.int .i64 r5) := E.blks.1.at 5
      refine bodyPost_ret (v := .tuple #[.agg #[.int .i64 r0, .int .i64 r1, .int .i64 r2, .int .i64 r3, .int .i64 r4, .int .i64 r5], .int .i64 0]) (by simp [results, Tryz.results106, go_sem, q0, q1, q2, q3, q4, q5]) rfl ?_
      exact ⟨rfl, E.bel⟩

set_option maxRecDepth 100000 in
set_option maxHeartbeats 2000000 in
theorem eachSub_calls (w : World) (v0 v1 v2 v3 v4 v5 u0 u1 u2 u3 u4 u5 r0 r1 r2 r3 r4 r5 : Int) (hv : vecB v0 v1 v2 v3 v4 v5 = true) (hu : vecB u0 u1 u2 u3 u4 u5 = true)
    (h0 : ∀ w' : World, Calls Tryz.prog 93 #[.agg #[.int .i64 v0, .int .i64 v1], .agg #[.int .i64 u0, .int .i64 u1]] w' (OkPost (.tuple #[.agg #[.int .i64 r0, .int .i64 r1], .int .i64 0]) w'))
    (h1 : ∀ w' : World, Calls Tryz.prog 93 #[.agg #[.int .i64 v2, .int .i64 v3], .agg #[.int .i64 u2, .int .i64 u3]] w' (OkPost (.tuple #[.agg #[.int .i64 r2, .int .i64 r3], .int .i64 0]) w'))
    (h2 : ∀ w' : World, Calls Tryz.prog 93 #[.agg #[.int .i64 v4, .int .i64 v5], .agg #[.int .i64 u4, .int .i64 u5]] w' (OkPost (.tuple #[.agg #[.int .i64 r4, .int .i64 r5], .int .i64 0]) w')) :
    Calls Tryz.prog 106 #[.func (.func 93) #[] #[], .agg #[.int .i64 v0, .int .i64 v1, .int .i64 v2, .int .i64 v3, .int .i64 v4, .int .i64 v5], .agg #[.int .i64 u0, .int .i64 u1, .int .i64 u2, .int .i64 u3, .int .i64 u4, .int .i64 u5]] w (OkPost (.tuple #[.agg #[.int .i64 r0, .int .i64 r1, .int .i64 r2, .int .i64 r3, .int .i64 r4, .int .i64 r5], .int .i64 0]) w) := by
  have CL := Lib.hid fun w' => look_calls w' v0 v1 v2 v3 v4 v5 u0 u1 u2 u3 u4 u5 hv hu
  have H0 := Lib.hid h0
  have H1 := Lib.hid h1
  have H2 := Lib.hid h2
  have E := (((Env.start w).alloc #[.int .i64 v0, .int .i64 v1, .int .i64 v2, .int .i64 v3, .int .i64 v4, .int .i64 v5] 33).alloc #[.int .i64 u0, .int .i64 u1, .int .i64 u2, .int .i64 u3, .int .i64 u4, .int .i64 u5] 33).alloc #[.int .i64 0, .int .i64 0, .int .i64 0, .int .i64 0, .int .i64 0, .int .i64 0] 33
  simp only [World.size_alloc] at E
  have HE := Lib.hid E
  clear E hv hu h0 h1 h2
  go_enter Tryz.func106, Tryz.ntmps106
  go_wp2_with fail
  go_at_call 39
  refine (CL.out _).mono ?_
  rintro e W1 ⟨rfl, hb1⟩
  replace HE := Lib.hid (HE.out.below hb1)
  clear hb1 CL
  go_wp2_with fail
  go_at_call 53
  refine (begin_calls _).mono ?_
  rintro e W2 ⟨bs, rfl, hbs, hsh, hb2⟩
  have hbs2 : w.heap.size + 1 + 1 < bs := Nat.lt_of_lt_of_le HE.out.blks.1.lt hbs
  replace HE := Lib.hid ((HE.out.below hb2).blk hsh)
  clear hb2 hsh hbs
  go_wp2_with fail
  have E := HE.out.alloc #[.int .i64 0, .int .i64 0, .int .i64 0, .int .i64 0, .int .i64 0, .int .i64 0] 33
  have hb10 : bs < W2.heap.size := HE.out.blks.1.lt
  clear HE
  generalize W2.alloc (.cells #[.int .i64 0, .int .i64 0, .int .i64 0, .int .i64 0, .int .i64 0, .int .i64 0] 33) = V at *
  generalize W2.heap.size = b10 at *
  have HE := Lib.hid E.swap
  clear E
  go_loopw [20] (fun i wr => ∃ (k : Nat) (y0 y1 y2 y3 y4 y5 : Int), k ≤ 3 ∧ i = .int .i64 k ∧ ((k = 0 ∧ y0 = 0 ∧ y1 = 0 ∧ y2 = 0 ∧ y3 = 0 ∧ y4 = 0 ∧ y5 = 0) ∨ (k = 1 ∧ y0 = r0 ∧ y1 = r1 ∧ y2 = 0 ∧ y3 = 0 ∧ y4 = 0 ∧ y5 = 0) ∨ (k = 2 ∧ y0 = r0 ∧ y1 = r1 ∧ y2 = r2 ∧ y3 = r3 ∧ y4 = 0 ∧ y5 = 0) ∨ (k = 3 ∧ y0 = r0 ∧ y1 = r1 ∧ y2 = r2 ∧ y3 = r3 ∧ y4 = r4 ∧ y5 = r5)) ∧ Env w [(bs, sheetC, 100), (b10, #[.int .i64 y0, .int .i64 y1, .int .i64 y2, .int .i64 y3, .int .i64 y4, .int .i64 y5], 33), (w.heap.size + 1 + 1, #[.int .i64 0, .int .i64 0, .int .i64 0, .int .i64 0, .int .i64 0, .int .i64 0], 33), (w.heap.size + 1, #[.int .i64 u0, .int .i64 u1, .int .i64 u2, .int .i64 u3, .int .i64 u4, .int .i64 u5], 33), (w.heap.size, #[.int .i64 v0, .int .i64 v1, .int .i64 v2, .int .i64 v3, .int .i64 v4, .int .i64 v5], 33)] [] wr) (fun i _ => 3 - (intOf i).toNat)
  case atStart => exact ⟨0, 0, 0, 0, 0, 0, 0, by omega, rfl, .inl ⟨rfl, rfl, rfl, rfl, rfl, rfl, rfl⟩, HE.out⟩
  case round =>
    clear HE
    obtain ⟨k, y0, y1, y2, y3, y4, y5, hk, rfl, hy, E⟩ := hrel
    have HE := Lib.hid E
    clear E
    rcases hy with ⟨rfl, h0, h1, h2, h3, h4, h5⟩ | ⟨rfl, h0, h1, h2, h3, h4, h5⟩ | ⟨rfl, h0, h1, h2, h3, h4, h5⟩ | ⟨rfl, h0, h1, h2, h3, h4, h5⟩
    · rw [h0, h1, h2, h3, h4, h5] at HE
      clear h0 h1 h2 h3 h4 h5
      go_wp2_with fail
      refine region_start (S := fun W' => Env w [(w.heap.size + 1, #[.int .i64 u0, .int .i64 u1, .int .i64 u2, .int .i64 u3, .int .i64 u4, .int .i64 u5], 33), (w.heap.size, #[.int .i64 v0, .int .i64 v1, .int .i64 v2, .int .i64 v3, .int .i64 v4, .int .i64 v5], 33)] [] W') (by kernel_rfl) ?_
      intro W hW
      have E := HE.out.drew
      rw [← hW] at E
      clear hW HE
      have hS := E.drop.drop.drop
      refine wpAnyH_take (i := 0) (v := .int .i64 0) rfl (by kernel_rfl) (by kernel_rfl) (by kernel_rfl) (fun _ _ _ h => h) (.inl ⟨rfl, fun w0 hw0 => ?a0⟩) hS ?_
      case a0 =>
        have g := hw0.blks; have e0 : w0.cell? ⟨w.heap.size, 0, none⟩ = some (.int .i64 v0) := g.2.1.at 0; have e1 : w0.cell? ⟨w.heap.size, 1, none⟩ = some (.int .i64 v1) := g.2.1.at 1; have e2 : w0.cell? ⟨w.heap.size + 1, 0, none⟩ = some (.int .i64 u0) := g.1.at 0; have e3 : w0.cell? ⟨w.heap.size + 1, 1, none⟩ = some (.int .i64 u1) := g.1.at 1
        go_simp
      refine wpAnyH_take (i := 1) (v := .pointer (some ⟨bs, 0, none⟩)) rfl (by kernel_rfl) (by kernel_rfl) (by kernel_rfl) (fun _ _ _ h => h) (.inl ⟨rfl, fun w0 hw0 => ?a1⟩) hS ?_
      case a1 =>
        have g := hw0.blks; have e0 : w0.cell? ⟨w.heap.size, 0, none⟩ = some (.int .i64 v0) := g.2.1.at 0; have e1 : w0.cell? ⟨w.heap.size, 1, none⟩ = some (.int .i64 v1) := g.2.1.at 1; have e2 : w0.cell? ⟨w.heap.size + 1, 0, none⟩ = some (.int .i64 u0) := g.1.at 0; have e3 : w0.cell? ⟨w.heap.size + 1, 1, none⟩ = some (.int .i64 u1) := g.1.at 1
        go_simp
      refine wpAnyH_take (i := 2) (v := .func (.func 93) #[] #[]) rfl (by kernel_rfl) (by kernel_rfl) (by kernel_rfl) (fun _ _ _ h => h) (.inl ⟨rfl, fun w0 hw0 => ?a2⟩) hS ?_
      case a2 =>
        have g := hw0.blks; have e0 : w0.cell? ⟨w.heap.size, 0, none⟩ = some (.int .i64 v0) := g.2.1.at 0; have e1 : w0.cell? ⟨w.heap.size, 1, none⟩ = some (.int .i64 v1) := g.2.1.at 1; have e2 : w0.cell? ⟨w.heap.size + 1, 0, none⟩ = some (.int .i64 u0) := g.1.at 0; have e3 : w0.cell? ⟨w.heap.size + 1, 1, none⟩ = some (.int .i64 u1) := g.1.at 1
        go_simp
      refine wpAnyH_take (i := 3) (v := .int .i64 0) rfl (by kernel_rfl) (by kernel_rfl) (by kernel_rfl) (fun _ _ _ h => h) (.inl ⟨rfl, fun w0 hw0 => ?a3⟩) hS ?_
      case a3 =>
        have g := hw0.blks; have e0 : w0.cell? ⟨w.heap.size, 0, none⟩ = some (.int .i64 v0) := g.2.1.at 0; have e1 : w0.cell? ⟨w.heap.size, 1, none⟩ = some (.int .i64 v1) := g.2.1.at 1; have e2 : w0.cell? ⟨w.heap.size + 1, 0, none⟩ = some (.int .i64 u0) := g.1.at 0; have e3 : w0.cell? ⟨w.heap.size + 1, 1, none⟩ = some (.int .i64 u1) := g.1.at 1
        go_simp
      refine wpAnyH_take (i := 4) (v := .pointer (some ⟨w.heap.size, 0, none⟩)) rfl (by kernel_rfl) (by kernel_rfl) (by kernel_rfl) (fun _ _ _ h => h) (.inl ⟨rfl, fun w0 hw0 => ?a4⟩) hS ?_
      case a4 =>
        have g := hw0.blks; have e0 : w0.cell? ⟨w.heap.size, 0, none⟩ = some (.int .i64 v0) := g.2.1.at 0; have e1 : w0.cell? ⟨w.heap.size, 1, none⟩ = some (.int .i64 v1) := g.2.1.at 1; have e2 : w0.cell? ⟨w.heap.size + 1, 0, none⟩ = some (.int .i64 u0) := g.1.at 0; have e3 : w0.cell? ⟨w.heap.size + 1, 1, none⟩ = some (.int .i64 u1) := g.1.at 1
        go_simp
      refine wpAnyH_take (i := 5) (v := .agg #[.int .i64 v0, .int .i64 v1]) rfl (by kernel_rfl) (by kernel_rfl) (by kernel_rfl) (fun _ _ _ h => h) (.inl ⟨rfl, fun w0 hw0 => ?a5⟩) hS ?_
      case a5 =>
        have g := hw0.blks; have e0 : w0.cell? ⟨w.heap.size, 0, none⟩ = some (.int .i64 v0) := g.2.1.at 0; have e1 : w0.cell? ⟨w.heap.size, 1, none⟩ = some (.int .i64 v1) := g.2.1.at 1; have e2 : w0.cell? ⟨w.heap.size + 1, 0, none⟩ = some (.int .i64 u0) := g.1.at 0; have e3 : w0.cell? ⟨w.heap.size + 1, 1, none⟩ = some (.int .i64 u1) := g.1.at 1
        go_simp
      refine wpAnyH_take (i := 6) (v := .int .i64 0) rfl (by kernel_rfl) (by kernel_rfl) (by kernel_rfl) (fun _ _ _ h => h) (.inl ⟨rfl, fun w0 hw0 => ?a6⟩) hS ?_
      case a6 =>
        have g := hw0.blks; have e0 : w0.cell? ⟨w.heap.size, 0, none⟩ = some (.int .i64 v0) := g.2.1.at 0; have e1 : w0.cell? ⟨w.heap.size, 1, none⟩ = some (.int .i64 v1) := g.2.1.at 1; have e2 : w0.cell? ⟨w.heap.size + 1, 0, none⟩ = some (.int .i64 u0) := g.1.at 0; have e3 : w0.cell? ⟨w.heap.size + 1, 1, none⟩ = some (.int .i64 u1) := g.1.at 1
        go_simp
      refine wpAnyH_take (i := 7) (v := .pointer (some ⟨w.heap.size + 1, 0, none⟩)) rfl (by kernel_rfl) (by kernel_rfl) (by kernel_rfl) (fun _ _ _ h => h) (.inl ⟨rfl, fun w0 hw0 => ?a7⟩) hS ?_
      case a7 =>
        have g := hw0.blks; have e0 : w0.cell? ⟨w.heap.size, 0, none⟩ = some (.int .i64 v0) := g.2.1.at 0; have e1 : w0.cell? ⟨w.heap.size, 1, none⟩ = some (.int .i64 v1) := g.2.1.at 1; have e2 : w0.cell? ⟨w.heap.size + 1, 0, none⟩ = some (.int .i64 u0) := g.1.at 0; have e3 : w0.cell? ⟨w.heap.size + 1, 1, none⟩ = some (.int .i64 u1) := g.1.at 1
        go_simp
      refine wpAnyH_take (i := 8) (v := .agg #[.int .i64 u0, .int .i64 u1]) rfl (by kernel_rfl) (by kernel_rfl) (by kernel_rfl) (fun _ _ _ h => h) (.inl ⟨rfl, fun w0 hw0 => ?a8⟩) hS ?_
      case a8 =>
        have g := hw0.blks; have e0 : w0.cell? ⟨w.heap.size, 0, none⟩ = some (.int .i64 v0) := g.2.1.at 0; have e1 : w0.cell? ⟨w.heap.size, 1, none⟩ = some (.int .i64 v1) := g.2.1.at 1; have e2 : w0.cell? ⟨w.heap.size + 1, 0, none⟩ = some (.int .i64 u0) := g.1.at 0; have e3 : w0.cell? ⟨w.heap.size + 1, 1, none⟩ = some (.int .i64 u1) := g.1.at 1
        go_simp
      clear hS
      refine wpAnyH_all (rs := [9]) (by kernel_rfl) (by simp) ?_
      intro i0 hi0
      obtain rfl : i0 = 9 := by simpa using hi0
      refine wpOp_plain rfl rfl fun K' hK' => ?_
      go_simp
      refine (doSub_calls _ bs v0 v1 u0 u1 r0 r1 E.blks.1 H0.out).mono ?_
      rintro e W2 ⟨rfl, hs2, hk2⟩
      replace E := E.keeps (by omega) (by simp [Free] <;> omega) hk2 hs2
      clear hs2 hk2
      refine hK' _ _ ⟨E.drop.drop.drop, ?_⟩
      clear hK' K'
      have hS := E.drop.drop.drop
      refine wpAnyH_take (i := 10) (v := .pointer (some ⟨b10, 0, none⟩)) rfl (by kernel_rfl) (by kernel_rfl) (by kernel_rfl) (fun _ _ _ h => h) (.inl ⟨rfl, fun w0 hw0 => ?a10⟩) hS ?_
      case a10 =>
        have g := hw0.blks; have e0 : w0.cell? ⟨w.heap.size, 0, none⟩ = some (.int .i64 v0) := g.2.1.at 0; have e1 : w0.cell? ⟨w.heap.size, 1, none⟩ = some (.int .i64 v1) := g.2.1.at 1; have e2 : w0.cell? ⟨w.heap.size + 1, 0, none⟩ = some (.int .i64 u0) := g.1.at 0; have e3 : w0.cell? ⟨w.heap.size + 1, 1, none⟩ = some (.int .i64 u1) := g.1.at 1
        go_simp
      clear hS
      have f0 : W2.cell? ⟨b10, 0, none⟩ = some (.int .i64 0) := E.blks.2.1.at 0
      have f1 : W2.cell? ⟨b10, 1, none⟩ = some (.int .i64 0) := E.blks.2.1.at 1
      have g0 := E.blks.2.1.fr 0
      have g1 := E.blks.2.1.fr 1
      refine wpAnyH_all (rs := [11]) (by kernel_rfl) (by simp) ?_
      intro i0 hi0
      obtain rfl : i0 = 11 := by simpa using hi0
      refine wpOp_plain rfl rfl fun K' hK' => ?_
      go_simp
      replace E := ((E.swap.setY (by omega) (by simp [Free] <;> omega) rfl 0 (.int .i64 r0)).setY (by omega) (by simp [Free] <;> omega) rfl 1 (.int .i64 r1)).swap
      clear f0 f1 g0 g1
      refine hK' _ _ ⟨E.drop.drop.drop, wpAnyH_done (by kernel_rfl) ?_ _⟩
      clear hK' K'
      have HE := Lib.hid E
      clear E
      go_wp2
      go_roundw
      case rel => exact ⟨1, r0, r1, 0, 0, 0, 0, by omega, by go_num, .inr (.inl ⟨rfl, rfl, rfl, rfl, rfl, rfl, rfl⟩), HE.out⟩
      case measure => simp [intOf]
    · rw [h0, h1, h2, h3, h4, h5] at HE
      clear h0 h1 h2 h3 h4 h5
      go_wp2_with fail
      refine region_start (S := fun W' => Env w [(w.heap.size + 1, #[.int .i64 u0, .int .i64 u1, .int .i64 u2, .int .i64 u3, .int .i64 u4, .int .i64 u5], 33), (w.heap.size, #[.int .i64 v0, .int .i64 v1, .int .i64 v2, .int .i64 v3, .int .i64 v4, .int .i64 v5], 33)] [] W') (by kernel_rfl) ?_
      intro W hW
      have E := HE.out.drew
      rw [← hW] at E
      clear hW HE
      have hS := E.drop.drop.drop
      refine wpAnyH_take (i := 0) (v := .int .i64 1) rfl (by kernel_rfl) (by kernel_rfl) (by kernel_rfl) (fun _ _ _ h => h) (.inl ⟨rfl, fun w0 hw0 => ?a0⟩) hS ?_
      case a0 =>
        have g := hw0.blks; have e0 : w0.cell? ⟨w.heap.size, 2, none⟩ = some (.int .i64 v2) := g.2.1.at 2; have e1 : w0.cell? ⟨w.heap.size, 3, none⟩ = some (.int .i64 v3) := g.2.1.at 3; have e2 : w0.cell? ⟨w.heap.size + 1, 2, none⟩ = some (.int .i64 u2) := g.1.at 2; have e3 : w0.cell? ⟨w.heap.size + 1, 3, none⟩ = some (.int .i64 u3) := g.1.at 3
        go_simp
      refine wpAnyH_take (i := 1) (v := .pointer (some ⟨bs, 0, none⟩)) rfl (by kernel_rfl) (by kernel_rfl) (by kernel_rfl) (fun _ _ _ h => h) (.inl ⟨rfl, fun w0 hw0 => ?a1⟩) hS ?_
      case a1 =>
        have g := hw0.blks; have e0 : w0.cell? ⟨w.heap.size, 2, none⟩ = some (.int .i64 v2) := g.2.1.at 2; have e1 : w0.cell? ⟨w.heap.size, 3, none⟩ = some (.int .i64 v3) := g.2.1.at 3; have e2 : w0.cell? ⟨w.heap.size + 1, 2, none⟩ = some (.int .i64 u2) := g.1.at 2; have e3 : w0.cell? ⟨w.heap.size + 1, 3, none⟩ = some (.int .i64 u3) := g.1.at 3
        go_simp
      refine wpAnyH_take (i := 2) (v := .func (.func 93) #[] #[]) rfl (by kernel_rfl) (by kernel_rfl) (by kernel_rfl) (fun _ _ _ h => h) (.inl ⟨rfl, fun w0 hw0 => ?a2⟩) hS ?_
      case a2 =>
        have g := hw0.blks; have e0 : w0.cell? ⟨w.heap.size, 2, none⟩ = some (.int .i64 v2) := g.2.1.at 2; have e1 : w0.cell? ⟨w.heap.size, 3, none⟩ = some (.int .i64 v3) := g.2.1.at 3; have e2 : w0.cell? ⟨w.heap.size + 1, 2, none⟩ = some (.int .i64 u2) := g.1.at 2; have e3 : w0.cell? ⟨w.heap.size + 1, 3, none⟩ = some (.int .i64 u3) := g.1.at 3
        go_simp
      refine wpAnyH_take (i := 3) (v := .int .i64 1) rfl (by kernel_rfl) (by kernel_rfl) (by kernel_rfl) (fun _ _ _ h => h) (.inl ⟨rfl, fun w0 hw0 => ?a3⟩) hS ?_
      case a3 =>
        have g := hw0.blks; have e0 : w0.cell? ⟨w.heap.size, 2, none⟩ = some (.int .i64 v2) := g.2.1.at 2; have e1 : w0.cell? ⟨w.heap.size, 3, none⟩ = some (.int .i64 v3) := g.2.1.at 3; have e2 : w0.cell? ⟨w.heap.size + 1, 2, none⟩ = some (.int .i64 u2) := g.1.at 2; have e3 : w0.cell? ⟨w.heap.size + 1, 3, none⟩ = some (.int .i64 u3) := g.1.at 3
        go_simp
      refine wpAnyH_take (i := 4) (v := .pointer (some ⟨w.heap.size, 2, none⟩)) rfl (by kernel_rfl) (by kernel_rfl) (by kernel_rfl) (fun _ _ _ h => h) (.inl ⟨rfl, fun w0 hw0 => ?a4⟩) hS ?_
      case a4 =>
        have g := hw0.blks; have e0 : w0.cell? ⟨w.heap.size, 2, none⟩ = some (.int .i64 v2) := g.2.1.at 2; have e1 : w0.cell? ⟨w.heap.size, 3, none⟩ = some (.int .i64 v3) := g.2.1.at 3; have e2 : w0.cell? ⟨w.heap.size + 1, 2, none⟩ = some (.int .i64 u2) := g.1.at 2; have e3 : w0.cell? ⟨w.heap.size + 1, 3, none⟩ = some (.int .i64 u3) := g.1.at 3
        go_simp
      refine wpAnyH_take (i := 5) (v := .agg #[.int .i64 v2, .int .i64 v3]) rfl (by kernel_rfl) (by kernel_rfl) (by kernel_rfl) (fun _ _ _ h => h) (.inl ⟨rfl, fun w0 hw0 => ?a5⟩) hS ?_
      case a5 =>
        have g := hw0.blks; have e0 : w0.cell? ⟨w.heap.size, 2, none⟩ = some (.int .i64 v2) := g.2.1.at 2; have e1 : w0.cell? ⟨w.heap.size, 3, none⟩ = some (.int .i64 v3) := g.2.1.at 3; have e2 : w0.cell? ⟨w.heap.size + 1, 2, none⟩ = some (.int .i64 u2) := g.1.at 2; have e3 : w0.cell? ⟨w.heap.size + 1, 3, none⟩ = some (.int .i64 u3) := g.1.at 3
        go_simp
      refine wpAnyH_take (i := 6) (v := .int .i64 1) rfl (by kernel_rfl) (by kernel_rfl) (by kernel_rfl) (fun _ _ _ h => h) (.inl ⟨rfl, fun w0 hw0 => ?a6⟩) hS ?_
      case a6 =>
        have g := hw0.blks; have e0 : w0.cell? ⟨w.heap.size, 2, none⟩ = some (.int .i64 v2) := g.2.1.at 2; have e1 : w0.cell? ⟨w.heap.size, 3, none⟩ = some (.int .i64 v3) := g.2.1.at 3; have e2 : w0.cell? ⟨w.heap.size + 1, 2, none⟩ = some (.int .i64 u2) := g.1.at 2; have e3 : w0.cell? ⟨w.heap.size + 1, 3, none⟩ = some (.int .i64 u3) := g.1.at 3
        go_simp
      refine wpAnyH_take (i := 7) (v := .pointer (some ⟨w.heap.size + 1, 2, none⟩)) rfl (by kernel_rfl) (by kernel_rfl) (by kernel_rfl) (fun _ _ _ h => h) (.inl ⟨rfl, fun w0 hw0 => ?a7⟩) hS ?_
      case a7 =>
        have g := hw0.blks; have e0 : w0.cell? ⟨w.heap.size, 2, none⟩ = some (.int .i64 v2) := g.2.1.at 2; have e1 : w0.cell? ⟨w.heap.size, 3, none⟩ = some (.int .i64 v3) := g.2.1.at 3; have e2 : w0.cell? ⟨w.heap.size + 1, 2, none⟩ = some (.int .i64 u2) := g.1.at 2; have e3 : w0.cell? ⟨w.heap.size + 1, 3, none⟩ = some (.int .i64 u3) := g.1.at 3
        go_simp
      refine wpAnyH_take (i := 8) (v := .agg #[.int .i64 u2, .int .i64 u3]) rfl (by kernel_rfl) (by kernel_rfl) (by kernel_rfl) (fun _ _ _ h => h) (.inl ⟨rfl, fun w0 hw0 => ?a8⟩) hS ?_
      case a8 =>
        have g := hw0.blks; have e0 : w0.cell? ⟨w.heap.size, 2, none⟩ = some (.int .i64 v2) := g.2.1.at 2; have e1 : w0.cell? ⟨w.heap.size, 3, none⟩ = some (.int .i64 v3) := g.2.1.at 3; have e2 : w0.cell? ⟨w.heap.size + 1, 2, none⟩ = some (.int .i64 u2) := g.1.at 2; have e3 : w0.cell? ⟨w.heap.size + 1, 3, none⟩ = some (.int .i64 u3) := g.1.at 3
        go_simp
      clear hS
      refine wpAnyH_all (rs := [9]) (by kernel_rfl) (by simp) ?_
      intro i0 hi0
      obtain rfl : i0 = 9 := by simpa using hi0
      refine wpOp_plain rfl rfl fun K' hK' => ?_
      go_simp
      refine (doSub_calls _ bs v2 v3 u2 u3 r2 r3 E.blks.1 H1.out).mono ?_
      rintro e W2 ⟨rfl, hs2, hk2⟩
      replace E := E.keeps (by omega) (by simp [Free] <;> omega) hk2 hs2
      clear hs2 hk2
      refine hK' _ _ ⟨E.drop.drop.drop, ?_⟩
      clear hK' K'
      have hS := E.drop.drop.drop
      refine wpAnyH_take (i := 10) (v := .pointer (some ⟨b10, 2, none⟩)) rfl (by kernel_rfl) (by kernel_rfl) (by kernel_rfl) (fun _ _ _ h => h) (.inl ⟨rfl, fun w0 hw0 => ?a10⟩) hS ?_
      case a10 =>
        have g := hw0.blks; have e0 : w0.cell? ⟨w.heap.size, 2, none⟩ = some (.int .i64 v2) := g.2.1.at 2; have e1 : w0.cell? ⟨w.heap.size, 3, none⟩ = some (.int .i64 v3) := g.2.1.at 3; have e2 : w0.cell? ⟨w.heap.size + 1, 2, none⟩ = some (.int .i64 u2) := g.1.at 2; have e3 : w0.cell? ⟨w.heap.size + 1, 3, none⟩ = some (.int .i64 u3) := g.1.at 3
        go_simp
      clear hS
      have f0 : W2.cell? ⟨b10, 2, none⟩ = some (.int .i64 0) := E.blks.2.1.at 2
      have f1 : W2.cell? ⟨b10, 3, none⟩ = some (.int .i64 0) := E.blks.2.1.at 3
      have g0 := E.blks.2.1.fr 2
      have g1 := E.blks.2.1.fr 3
      refine wpAnyH_all (rs := [11]) (by kernel_rfl) (by simp) ?_
      intro i0 hi0
      obtain rfl : i0 = 11 := by simpa using hi0
      refine wpOp_plain rfl rfl fun K' hK' => ?_
      go_simp
      replace E := ((E.swap.setY (by omega) (by simp [Free] <;> omega) rfl 2 (.int .i64 r2)).setY (by omega) (by simp [Free] <;> omega) rfl 3 (.int .i64 r3)).swap
      clear f0 f1 g0 g1
      refine hK' _ _ ⟨E.drop.drop.drop, wpAnyH_done (by kernel_rfl) ?_ _⟩
      clear hK' K'
      have HE := Lib.hid E
      clear E
      go_wp2
      go_roundw
      case rel => exact ⟨2, r0, r1, r2, r3, 0, 0, by omega, by go_num, .inr (.inr (.inl ⟨rfl, rfl, rfl, rfl, rfl, rfl, rfl⟩)), HE.out⟩
      case measure => simp [intOf]
    · rw [h0, h1, h2, h3, h4, h5] at HE
      clear h0 h1 h2 h3 h4 h5
      go_wp2_with fail
      refine region_start (S := fun W' => Env w [(w.heap.size + 1, #[.int .i64 u0, .int .i64 u1, .int .i64 u2, .int .i64 u3, .int .i64 u4, .int .i64 u5], 33), (w.heap.size, #[.int .i64 v0, .int .i64 v1, .int .i64 v2, .int .i64 v3, .int .i64 v4, .int .i64 v5], 33)] [] W') (by kernel_rfl) ?_
      intro W hW
      have E := HE.out.drew
      rw [← hW] at E
      clear hW HE
      have hS := E.drop.drop.drop
      refine wpAnyH_take (i := 0) (v := .int .i64 2) rfl (by kernel_rfl) (by kernel_rfl) (by kernel_rfl) (fun _ _ _ h => h) (.inl ⟨rfl, fun w0 hw0 => ?a0⟩) hS ?_
      case a0 =>
        have g := hw0.blks; have e0 : w0.cell? ⟨w.heap.size, 4, none⟩ = some (.int .i64 v4) := g.2.1.at 4; have e1 : w0.cell? ⟨w.heap.size, 5, none⟩ = some (.int .i64 v5) := g.2.1.at 5; have e2 : w0.cell? ⟨w.heap.size + 1, 4, none⟩ = some (.int .i64 u4) := g.1.at 4; have e3 : w0.cell? ⟨w.heap.size + 1, 5, none⟩ = some (.int .i64 u5) := g.1.at 5
        go_simp
      refine wpAnyH_take (i := 1) (v := .pointer (some ⟨bs, 0, none⟩)) rfl (by kernel_rfl) (by kernel_rfl) (by kernel_rfl) (fun _ _ _ h => h) (.inl ⟨rfl, fun w0 hw0 => ?a1⟩) hS ?_
      case a1 =>
        have g := hw0.blks; have e0 : w0.cell? ⟨w.heap.size, 4, none⟩ = some (.int .i64 v4) := g.2.1.at 4; have e1 : w0.cell? ⟨w.heap.size, 5, none⟩ = some (.int .i64 v5) := g.2.1.at 5; have e2 : w0.cell? ⟨w.heap.size + 1, 4, none⟩ = some (.int .i64 u4) := g.1.at 4; have e3 : w0.cell? ⟨w.heap.size + 1, 5, none⟩ = some (.int .i64 u5) := g.1.at 5
        go_simp
      refine wpAnyH_take (i := 2) (v := .func (.func 93) #[] #[]) rfl (by kernel_rfl) (by kernel_rfl) (by kernel_rfl) (fun _ _ _ h => h) (.inl ⟨rfl, fun w0 hw0 => ?a2⟩) hS ?_
      case a2 =>
        have g := hw0.blks; have e0 : w0.cell? ⟨w.heap.size, 4, none⟩ = some (.int .i64 v4) := g.2.1.at 4; have e1 : w0.cell? ⟨w.heap.size, 5, none⟩ = some (.int .i64 v5) := g.2.1.at 5; have e2 : w0.cell? ⟨w.heap.size + 1, 4, none⟩ = some (.int .i64 u4) := g.1.at 4; have e3 : w0.cell? ⟨w.heap.size + 1, 5, none⟩ = some (.int .i64 u5) := g.1.at 5
        go_simp
      refine wpAnyH_take (i := 3) (v := .int .i64 2) rfl (by kernel_rfl) (by kernel_rfl) (by kernel_rfl) (fun _ _ _ h => h) (.inl ⟨rfl, fun w0 hw0 => ?a3⟩) hS ?_
      case a3 =>
        have g := hw0.blks; have e0 : w0.cell? ⟨w.heap.size, 4, none⟩ = some (.int .i64 v4) := g.2.1.at 4; have e1 : w0.cell? ⟨w.heap.size, 5, none⟩ = some (.int .i64 v5) := g.2.1.at 5; have e2 : w0.cell? ⟨w.heap.size + 1, 4, none⟩ = some (.int .i64 u4) := g.1.at 4; have e3 : w0.cell? ⟨w.heap.size + 1, 5, none⟩ = some (.int .i64 u5) := g.1.at 5
        go_simp
      refine wpAnyH_take (i := 4) (v := .pointer (some ⟨w.heap.size, 4, none⟩)) rfl (by kernel_rfl) (by kernel_rfl) (by kernel_rfl) (fun _ _ _ h => h) (.inl ⟨rfl, fun w0 hw0 => ?a4⟩) hS ?_
      case a4 =>
        have g := hw0.blks; have e0 : w0.cell? ⟨w.heap.size, 4, none⟩ = some (.int .i64 v4) := g.2.1.at 4; have e1 : w0.cell? ⟨w.heap.size, 5, none⟩ = some (.int .i64 v5) := g.2.1.at 5; have e2 : w0.cell? ⟨w.heap.size + 1, 4, none⟩ = some (.int .i64 u4) := g.1.at 4; have e3 : w0.cell? ⟨w.heap.size + 1, 5, none⟩ = some (.int .i64 u5) := g.1.at 5
        go_simp
      refine wpAnyH_take (i := 5) (v := .agg #[.int .i64 v4, .int .i64 v5]) rfl (by kernel_rfl) (by kernel_rfl) (by kernel_rfl) (fun _ _ _ h => h) (.inl ⟨rfl, fun w0 hw0 => ?a5⟩) hS ?_
      case a5 =>
        have g := hw0.blks; have e0 : w0.cell? ⟨w.heap.size, 4, none⟩ = some (.int .i64 v4) := g.2.1.at 4; have e1 : w0.cell? ⟨w.heap.size, 5, none⟩ = some (.int .i64 v5) := g.2.1.at 5; have e2 : w0.cell? ⟨w.heap.size + 1, 4, none⟩ = some (.int .i64 u4) := g.1.at 4; have e3 : w0.cell? ⟨w.heap.size + 1, 5, none⟩ = some (.int .i64 u5) := g.1.at 5
        go_simp
      refine wpAnyH_take (i := 6) (v := .int .i64 2) rfl (by kernel_rfl) (by kernel_rfl) (by kernel_rfl) (fun _ _ _ h => h) (.inl ⟨rfl, fun w0 hw0 => ?a6⟩) hS ?_
      case a6 =>
        have g := hw0.blks; have e0 : w0.cell? ⟨w.heap.size, 4, none⟩ = some (.int .i64 v4) := g.2.1.at 4; have e1 : w0.cell? ⟨w.heap.size, 5, none⟩ = some (.int .i64 v5) := g.2.1.at 5; have e2 : w0.cell? ⟨w.heap.size + 1, 4, none⟩ = some (.int .i64 u4) := g.1.at 4; have e3 : w0.cell? ⟨w.heap.size + 1, 5, none⟩ = some (.int .i64 u5) := g.1.at 5
        go_simp
      refine wpAnyH_take (i := 7) (v := .pointer (some ⟨w.heap.size + 1, 4, none⟩)) rfl (by kernel_rfl) (by kernel_rfl) (by kernel_rfl) (fun _ _ _ h => h) (.inl ⟨rfl, fun w0 hw0 => ?a7⟩) hS ?_
      case a7 =>
        have g := hw0.blks; have e0 : w0.cell? ⟨w.heap.size, 4, none⟩ = some (.int .i64 v4) := g.2.1.at 4; have e1 : w0.cell? ⟨w.heap.size, 5, none⟩ = some (.int .i64 v5) := g.2.1.at 5; have e2 : w0.cell? ⟨w.heap.size + 1, 4, none⟩ = some (.int .i64 u4) := g.1.at 4; have e3 : w0.cell? ⟨w.heap.size + 1, 5, none⟩ = some (.int .i64 u5) := g.1.at 5
        go_simp
      refine wpAnyH_take (i := 8) (v := .agg #[.int .i64 u4, .int .i64 u5]) rfl (by kernel_rfl) (by kernel_rfl) (by kernel_rfl) (fun _ _ _ h => h) (.inl ⟨rfl, fun w0 hw0 => ?a8⟩) hS ?_
      case a8 =>
        have g := hw0.blks; have e0 : w0.cell? ⟨w.heap.size, 4, none⟩ = some (.int .i64 v4) := g.2.1.at 4; have e1 : w0.cell? ⟨w.heap.size, 5, none⟩ = some (.int .i64 v5) := g.2.1.at 5; have e2 : w0.cell? ⟨w.heap.size + 1, 4, none⟩ = some (.int .i64 u4) := g.1.at 4; have e3 : w0.cell? ⟨w.heap.size + 1, 5, none⟩ = some (.int .i64 u5) := g.1.at 5
        go_simp
      clear hS
      refine wpAnyH_all (rs := [9]) (by kernel_rfl) (by simp) ?_
      intro i0 hi0
      obtain rfl : i0 = 9 := by simpa using hi0
      refine wpOp_plain rfl rfl fun K' hK' => ?_
      go_simp
      refine (doSub_calls _ bs v4 v5 u4 u5 r4 r5 E.blks.1 H2.out).mono ?_
      rintro e W2 ⟨rfl, hs2, hk2⟩
      replace E := E.keeps (by omega) (by simp [Free] <;> omega) hk2 hs2
      clear hs2 hk2
      refine hK' _ _ ⟨E.drop.drop.drop, ?_⟩
      clear hK' K'
      have hS := E.drop.drop.drop
      refine wpAnyH_take (i := 10) (v := .pointer (some ⟨b10, 4, none⟩)) rfl (by kernel_rfl) (by kernel_rfl) (by kernel_rfl) (fun _ _ _ h => h) (.inl ⟨rfl, fun w0 hw0 => ?a10⟩) hS ?_
      case a10 =>
        have g := hw0.blks; have e0 : w0.cell? ⟨w.heap.size, 4, none⟩ = some (.int .i64 v4) := g.2.1.at 4; have e1 : w0.cell? ⟨w.heap.size, 5, none⟩ = some (.int .i64 v5) := g.2.1.at 5; have e2 : w0.cell? ⟨w.heap.size + 1, 4, none⟩ = some (.int .i64 u4) := g.1.at 4; have e3 : w0.cell? ⟨w.heap.size + 1, 5, none⟩ = some (.int .i64 u5) := g.1.at 5
        go_simp
      clear hS
      have f0 : W2.cell? ⟨b10, 4, none⟩ = some (.int .i64 0) := E.blks.2.1.at 4
      have f1 : W2.cell? ⟨b10, 5, none⟩ = some (.int .i64 0) := E.blks.2.1.at 5
      have g0 := E.blks.2.1.fr 4
      have g1 := E.blks.2.1.fr 5
      refine wpAnyH_all (rs := [11]) (by kernel_rfl) (by simp) ?_
      intro i0 hi0
      obtain rfl : i0 = 11 := by simpa using hi0
      refine wpOp_plain rfl rfl fun K' hK' => ?_
      go_simp
      replace E := ((E.swap.setY (by omega) (by simp [Free] <;> omega) rfl 4 (.int .i64 r4)).setY (by omega) (by simp [Free] <;> omega) rfl 5 (.int .i64 r5)).swap
      clear f0 f1 g0 g1
      refine hK' _ _ ⟨E.drop.drop.drop, wpAnyH_done (by kernel_rfl) ?_ _⟩
      clear hK' K'
      have HE := Lib.hid E
      clear E
      go_wp2
      go_roundw
      case rel => exact ⟨3, r0, r1, r2, r3, r4, r5, by omega, by go_num, .inr (.inr (.inr ⟨rfl, rfl, rfl, rfl, rfl, rfl, rfl⟩)), HE.out⟩
      case measure => simp [intOf]
    · rw [h0, h1, h2, h3, h4, h5] at HE
      clear h0 h1 h2 h3 h4 h5
      have e0 : wr.cell? ⟨b10, 0, none⟩ = some (.int .i64 r0) := HE.out.blks.2.1.at 0
      have e1 : wr.cell? ⟨b10, 1, none⟩ = some (.int .i64 r1) := HE.out.blks.2.1.at 1
      have e2 : wr.cell? ⟨b10, 2, none⟩ = some (.int .i64 r2) := HE.out.blks.2.1.at 2
      have e3 : wr.cell? ⟨b10, 3, none⟩ = some (.int .i64 r3) := HE.out.blks.2.1.at 3
      have e4 : wr.cell? ⟨b10, 4, none⟩ = some (.int .i64 r4) := HE.out.blks.2.1.at 4
      have e5 : wr.cell? ⟨b10, 5, none⟩ = some (.int .i64 r5) := HE.out.blks.2.1.at 5
      go_wp2_with fail
      go_at_call 135
      refine (vec_calls _ bs r0 r1 r2 r3 r4 r5 HE.out.blks.1).mono ?_
      rintro e W4 ⟨rfl, hb4⟩
      replace HE := Lib.hid (HE.out.below hb4)
      clear hb4 e0 e1 e2 e3 e4 e5
      have f0 : W4.cell? ⟨w.heap.size + 1 + 1, 0, none⟩ = some (.int .i64 0) := HE.out.blks.2.2.1.at 0
      have g0 := HE.out.blks.2.2.1.fr 0
      have f1 : W4.cell? ⟨w.heap.size + 1 + 1, 1, none⟩ = some (.int .i64 0) := HE.out.blks.2.2.1.at 1
      have g1 := HE.out.blks.2.2.1.fr 1
      have f2 : W4.cell? ⟨w.heap.size + 1 + 1, 2, none⟩ = some (.int .i64 0) := HE.out.blks.2.2.1.at 2
      have g2 := HE.out.blks.2.2.1.fr 2
      have f3 : W4.cell? ⟨w.heap.size + 1 + 1, 3, none⟩ = some (.int .i64 0) := HE.out.blks.2.2.1.at 3
      have g3 := HE.out.blks.2.2.1.fr 3
      have f4 : W4.cell? ⟨w.heap.size + 1 + 1, 4, none⟩ = some (.int .i64 0) := HE.out.blks.2.2.1.at 4
      have g4 := HE.out.blks.2.2.1.fr 4
      have f5 : W4.cell? ⟨w.heap.size + 1 + 1, 5, none⟩ = some (.int .i64 0) := HE.out.blks.2.2.1.at 5
      have g5 := HE.out.blks.2.2.1.fr 5
      go_wp2
      have E0 : Env w [(w.heap.size + 1 + 1, #[.int .i64 0, .int .i64 0, .int .i64 0, .int .i64 0, .int .i64 0, .int .i64 0], 33)] [] W4 := ⟨⟨HE.out.blks.2.2.1, trivial⟩, trivial, HE.out.bel⟩
      have E := ((((((E0.setY (by omega) (by simp [Free] <;> omega) rfl 0 (.int .i64 r0)).setY (by omega) (by simp [Free] <;> omega) rfl 1 (.int .i64 r1)).setY (by omega) (by simp [Free] <;> omega) rfl 2 (.int .i64 r2)).setY (by omega) (by simp [Free] <;> omega) rfl 3 (.int .i64 r3)).setY (by omega) (by simp [Free] <;> omega) rfl 4 (.int .i64 r4)).setY (by omega) (by simp [Free] <;> omega) rfl 5 (.int .i64 r5))
      have q0 : _ = some (Value.int .i64 r0) := E.blks.1.at 0
      have q1 : _ = some (Value.int .i64 r1) := E.blks.1.at 1
      have q2 : _ = some (Value.int .i64 r2) := E.blks.1.at 2
      have q3 : _ = some (Value.int .i64 r3) := E.blks.1.at 3
      have q4 : _ = some (Value.int .i64 r4) := E.blks.1.at 4
      have q5 : _ = some (Value.int .i64 r5) := E.blks.1.at 5
      refine bodyPost_ret (v := .tuple #[.agg #[.int .i64 r0, .int .i64 r1, .int .i64 r2, .int .i64 r3, .int .i64 r4, .int .i64 r5], .int .i64 0]) (by simp [results, Tryz.results106, go_sem, q0, q1, q2, q3, q4, q5]) rfl ?_
      exact ⟨rfl, E.bel⟩

end Go.Proofs.YtilaheplclaokaaGreat
namespace Go.Proofs.YtilaheplclaokaaGreat
open Go.RowKit Go.Shelf
attribute [local go_sem] Oper.semAt_some

theorem mul_zero_iv (a0 a1 : Int) : mulLo a0 a1 0 0 = 0 ∧ mulHi a0 a1 0 0 = 0 := by
  unfold mulLo mulHi
  simp only [Int.mul_zero]
  decide

set_option maxRecDepth 100000 in
set_option maxHeartbeats 1000000 in
theorem scale0_calls (w : World) (v0 v1 v2 v3 v4 v5 : Int) (hv : vecB v0 v1 v2 v3 v4 v5 = true) :
    Calls Tryz.prog 74 #[.agg #[.int .i64 v0, .int .i64 v1, .int .i64 v2, .int .i64 v3, .int .i64 v4, .int .i64 v5], .agg #[.int .i64 0, .int .i64 0]] w (OkPost (.tuple #[.agg #[.int .i64 0, .int .i64 0, .int .i64 0, .int .i64 0, .int .i64 0, .int .i64 0], .int .i64 0]) w) := by
  obtain ⟨q0, q1, q2⟩ := vecB_spec hv
  have hz : ivB 0 0 = true := by decide
  have hop : ∀ (a0 a1 : Int), ivB a0 a1 = true → ∀ w' : World, Calls Tryz.prog 20 #[.agg #[.int .i64 a0, .int .i64 a1], .agg #[.int .i64 0, .int .i64 0]] w' (OkPost (.tuple #[.agg #[.int .i64 0, .int .i64 0], .int .i64 0]) w') := fun a0 a1 h w' => by
    have h1 := ivMul_calls w' a0 a1 0 0 h hz
    obtain ⟨e1, e2⟩ := mul_zero_iv a0 a1
    rw [e1, e2, ivV_ok (by decide)] at h1
    exact h1
  have CE := Lib.hid fun w' => eachMul_calls w' v0 v1 v2 v3 v4 v5 0 0 0 0 0 0 0 0 0 0 0 0 hv (by decide) (hop _ _ q0) (hop _ _ q1) (hop _ _ q2)
  have E := (((Env.start w).alloc #[.int .i64 v0, .int .i64 v1, .int .i64 v2, .int .i64 v3, .int .i64 v4, .int .i64 v5] 33).alloc #[.int .i64 0, .int .i64 0] 31).alloc #[.int .i64 0, .int .i64 0, .int .i64 0, .int .i64 0, .int .i64 0, .int .i64 0] 33
  simp only [World.size_alloc] at E
  have HE := Lib.hid E
  clear E hv q0 q1 q2 hz hop
  go_enter Tryz.func74, Tryz.ntmps74
  go_wp2_with fail
  go_at_call 106
  refine (CE.out _).mono ?_
  rintro e W1 ⟨rfl, hb1⟩
  replace HE := Lib.hid (HE.out.below hb1)
  clear hb1 CE
  have f0 : W1.cell? ⟨w.heap.size + 1 + 1, 0, none⟩ = some (.int .i64 0) := HE.out.blks.1.at 0
  have g0 := HE.out.blks.1.fr 0
  have f1 : W1.cell? ⟨w.heap.size + 1 + 1, 1, none⟩ = some (.int .i64 0) := HE.out.blks.1.at 1
  have g1 := HE.out.blks.1.fr 1
  have f2 : W1.cell? ⟨w.heap.size + 1 + 1, 2, none⟩ = some (.int .i64 0) := HE.out.blks.1.at 2
  have g2 := HE.out.blks.1.fr 2
  have f3 : W1.cell? ⟨w.heap.size + 1 + 1, 3, none⟩ = some (.int .i64 0) := HE.out.blks.1.at 3
  have g3 := HE.out.blks.1.fr 3
  have f4 : W1.cell? ⟨w.heap.size + 1 + 1, 4, none⟩ = some (.int .i64 0) := HE.out.blks.1.at 4
  have g4 := HE.out.blks.1.fr 4
  have f5 : W1.cell? ⟨w.heap.size + 1 + 1, 5, none⟩ = some (.int .i64 0) := HE.out.blks.1.at 5
  have g5 := HE.out.blks.1.fr 5
  go_wp2
  have E := ((((((HE.out.setY (by omega) (by simp [Free] <;> omega) rfl 0 (.int .i64 0)).setY (by omega) (by simp [Free] <;> omega) rfl 1 (.int .i64 0)).setY (by omega) (by simp [Free] <;> omega) rfl 2 (.int .i64 0)).setY (by omega) (by simp [Free] <;> omega) rfl 3 (.int .i64 0)).setY (by omega) (by simp [Free] <;> omega) rfl 4 (.int .i64 0)).setY (by omega) (by simp [Free] <;> omega) rfl 5 (.int .i64 0))
  have q0 : _ = some (Value.int .i64 0) := E.blks.1.at 0
  have q1 : _ = some (Value.int .i64 0) := E.blks.1.at 1
  have q2 : _ = some (Value.int .i64 0) := E.blks.1.at 2
  have q3 : _ = some (Value.int .i64 0) := E.blks.1.at 3
  have q4 : _ = some (Value.int .i64 0) := E.blks.1.at 4
  have q5 : _ = some (Value.int .i64 0) := E.blks.1.at 5
  refine bodyPost_ret (v := .tuple #[.agg #[.int .i64 0, .int .i64 0, .int .i64 0, .int .i64 0, .int .i64 0, .int .i64 0], .int .i64 0]) (by simp [results, Tryz.results74, go_sem, q0, q1, q2, q3, q4, q5]) rfl ?_
  exact ⟨rfl, E.bel⟩

set_option maxRecDepth 100000 in
set_option maxHeartbeats 1000000 in
theorem sub0_calls (w : World) (v0 v1 v2 v3 v4 v5 : Int) (hv : vecB v0 v1 v2 v3 v4 v5 = true) :
    Calls Tryz.prog 75 #[.agg #[.int .i64 v0, .int .i64 v1, .int .i64 v2, .int .i64 v3, .int .i64 v4, .int .i64 v5], .agg #[.int .i64 0, .int .i64 0, .int .i64 0, .int .i64 0, .int .i64 0, .int .i64 0]] w (OkPost (.tuple #[.agg #[.int .i64 v0, .int .i64 v1, .int .i64 v2, .int .i64 v3, .int .i64 v4, .int .i64 v5], .int .i64 0]) w) := by
  obtain ⟨q0, q1, q2⟩ := vecB_spec hv
  have hz : ivB 0 0 = true := by decide
  have hop : ∀ (a0 a1 : Int), ivB a0 a1 = true → ∀ w' : World, Calls Tryz.prog 93 #[.agg #[.int .i64 a0, .int .i64 a1], .agg #[.int .i64 0, .int .i64 0]] w' (OkPost (.tuple #[.agg #[.int .i64 a0, .int .i64 a1], .int .i64 0]) w') := fun a0 a1 h w' => by
    have h1 := ivSub_calls w' a0 a1 0 0 h hz
    have h2 := ivB_spec h
    rw [Int.sub_zero, Int.sub_zero, ivV_ok (decide_eq_true (by omega))] at h1
    exact h1
  have CE := Lib.hid fun w' => eachSub_calls w' v0 v1 v2 v3 v4 v5 0 0 0 0 0 0 v0 v1 v2 v3 v4 v5 hv (by decide) (hop _ _ q0) (hop _ _ q1) (hop _ _ q2)
  have E := (((Env.start w).alloc #[.int .i64 v0, .int .i64 v1, .int .i64 v2, .int .i64 v3, .int .i64 v4, .int .i64 v5] 33).alloc #[.int .i64 0, .int .i64 0, .int .i64 0, .int .i64 0, .int .i64 0, .int .i64 0] 33).alloc #[.int .i64 0, .int .i64 0, .int .i64 0, .int .i64 0, .int .i64 0, .int .i64 0] 33
  simp only [World.size_alloc] at E
  have HE := Lib.hid E
  clear E hv q0 q1 q2 hz hop
  go_enter Tryz.func75, Tryz.ntmps75
  go_wp2_with fail
  go_at_call 106
  refine (CE.out _).mono ?_
  rintro e W1 ⟨rfl, hb1⟩
  replace HE := Lib.hid (HE.out.below hb1)
  clear hb1 CE
  have f0 : W1.cell? ⟨w.heap.size + 1 + 1, 0, none⟩ = some (.int .i64 0) := HE.out.blks.1.at 0
  have g0 := HE.out.blks.1.fr 0
  have f1 : W1.cell? ⟨w.heap.size + 1 + 1, 1, none⟩ = some (.int .i64 0) := HE.out.blks.1.at 1
  have g1 := HE.out.blks.1.fr 1
  have f2 : W1.cell? ⟨w.heap.size + 1 + 1, 2, none⟩ = some (.int .i64 0) := HE.out.blks.1.at 2
  have g2 := HE.out.blks.1.fr 2
  have f3 : W1.cell? ⟨w.heap.size + 1 + 1, 3, none⟩ = some (.int .i64 0) := HE.out.blks.1.at 3
  have g3 := HE.out.blks.1.fr 3
  have f4 : W1.cell? ⟨w.heap.size + 1 + 1, 4, none⟩ = some (.int .i64 0) := HE.out.blks.1.at 4
  have g4 := HE.out.blks.1.fr 4
  have f5 : W1.cell? ⟨w.heap.size + 1 + 1, 5, none⟩ = some (.int .i64 0) := HE.out.blks.1.at 5
  have g5 := HE.out.blks.1.fr 5
  go_wp2
  have E := ((((((HE.out.setY (by omega) (by simp [Free] <;> omega) rfl 0 (.int .i64 v0)).setY (by omega) (by simp [Free] <;> omega) rfl 1 (.int .i64 v1)).setY (by omega) (by simp [Free] <;> omega) rfl 2 (.int .i64 v2)).setY (by omega) (by simp [Free] <;> omega) rfl 3 (.int .i64 v3)).setY (by omega) (by simp [Free] <;> omega) rfl 4 (.int .i64 v4)).setY (by omega) (by simp [Free] <;> omega) rfl 5 (.int .i64 v5))
  have q0 : _ = some (Value.int .i64 v0) := E.blks.1.at 0
  have q1 : _ = some (Value.int .i64 v1) := E.blks.1.at 1
  have q2 : _ = some (Value.int .i64 v2) := E.blks.1.at 2
  have q3 : _ = some (Value.int .i64 v3) := E.blks.1.at 3
  have q4 : _ = some (Value.int .i64 v4) := E.blks.1.at 4
  have q5 : _ = some (Value.int .i64 v5) := E.blks.1.at 5
  refine bodyPost_ret (v := .tuple #[.agg #[.int .i64 v0, .int .i64 v1, .int .i64 v2, .int .i64 v3, .int .i64 v4, .int .i64 v5], .int .i64 0]) (by simp [results, Tryz.results75, go_sem, q0, q1, q2, q3, q4, q5]) rfl ?_
  exact ⟨rfl, E.bel⟩

set_option maxRecDepth 100000 in
set_option maxHeartbeats 1000000 in
theorem radians0_calls (w : World) : Calls Tryz.prog 18 #[.int .i64 0] w (OkPost (.tuple #[.agg #[.int .i64 0, .int .i64 0], .int .i64 0]) w) := by
  go_enter Tryz.func18, Tryz.ntmps18
  go_wp2
  go_step3
  go_wp2
  try rw [Exit.noGoto_ret]
  have E := (Env.start w).alloc #[.int .i64 0, .int .i64 0] 31
  have r0 : _ = some (Value.int .i64 0) := E.blks.1.at 0
  have r1 : _ = some (Value.int .i64 0) := E.blks.1.at 1
  refine bodyPost_ret (v := .tuple #[.agg #[.int .i64 0, .int .i64 0], .int .i64 0]) (by simp [results, Tryz.results18, go_sem, r0, r1]) rfl ?_
  exact ⟨rfl, E.bel⟩

end Go.Proofs.YtilaheplclaokaaGreat
namespace Go.Proofs.YtilaheplclaokaaGreat
open Go.RowKit Go.Shelf
attribute [local go_sem] Oper.semAt_some

theorem WD.zero_iff {w : World} {neg : Bool} {A : Option Addr} {n cap : Nat} {x : Int} (h : WD w neg A n cap x) : n = 0 ↔ x = 0 := by
  obtain ⟨g, _, _, hd, _, ht, _, hx⟩ := h
  constructor
  · rintro rfl
    rw [hx]
    simp [Num.val]
  · intro h0
    rcases Nat.eq_zero_or_pos n with h1 | h1
    · exact h1
    · have h2 := Num.val_pos hd ht h1
      have h3 := Num.sg_abs neg _ (Int.le_of_lt h2)
      omega
theorem WD.neg_iff {w : World} {neg : Bool} {A : Option Addr} {n cap : Nat} {x : Int} (h : WD w neg A n cap x) : neg = true ↔ x < 0 := by
  have hz := h.zero_iff
  obtain ⟨g, _, _, hd, _, ht, hn, hx⟩ := h
  rcases Nat.eq_zero_or_pos n with h1 | h1
  · have h2 := hn h1
    have h3 := hz.1 h1
    subst h2
    simp
    omega
  · have h2 := Num.val_pos hd ht h1
    cases neg <;> simp [Num.sg] at hx ⊢ <;> omega

set_option maxRecDepth 100000 in
theorem want0 (w : World) : Calls Tryz.prog 109 #[.int .i64 0] w (RetPost (.tuple #[]) w) := by
  go_enter Tryz.func109, Tryz.ntmps109
  go_wp2
  go_end0
  exact ⟨rfl, rfl⟩

set_option maxRecDepth 100000 in
set_option maxHeartbeats 1000000 in
theorem must0 (w : World) (neg : Bool) (A : Option Addr) (n cap : Nat) (x : Int) (ha : WD w neg A n cap x) :
    Calls Tryz.prog 115 #[.agg #[.bool neg, .slice A n cap], .int .i64 0] w (WidPost x w) := by
  have HA := Lib.hid ha
  clear ha
  go_enter Tryz.func115, Tryz.ntmps115
  go_wp2
  have E := (((Env.start w).wd HA.out).alloc #[.bool neg, .slice A n cap] 78).alloc #[.bool neg, .slice A n cap] 78
  simp only [World.size_alloc] at E
  have r0 : _ = some (Value.bool neg) := E.blks.1.at 0
  have r1 : _ = some (Value.slice A n cap) := E.blks.1.at 1
  refine bodyPost_ret (v := .agg #[.bool neg, .slice A n cap]) (by simp [results, Tryz.results115, go_sem, r0, r1]) rfl ?_
  exact ⟨neg, A, n, cap, rfl, E.wds.1, E.bel⟩

set_option maxRecDepth 100000 in
set_option maxHeartbeats 1000000 in
theorem zero_calls (w : World) (neg : Bool) (A : Option Addr) (n cap : Nat) (x : Int) (ha : WD w neg A n cap x) :
    Calls Tryz.prog 111 #[.agg #[.bool neg, .slice A n cap]] w (OkPost (.bool (decide (x = 0))) w) := by
  have hd : Hid (decide (x = 0) = ((n : Int) == 0)) := Lib.hid (by
    have := ha.zero_iff
    rw [show ((n : Int) == 0) = decide ((n : Int) = 0) from rfl, decide_eq_decide]
    omega)
  clear ha
  go_enter Tryz.func111, Tryz.ntmps111
  go_wp2
  go_ret
  refine ⟨?_, (Below.refl _ _).alloc (Nat.le_refl _) _⟩
  rw [hd.out]
  first
  | rfl
  | simp

theorem cmpZ_eq0 (x y : Int) : cmpZ x y = 0 ↔ x = y := by
  unfold cmpZ
  split
  · omega
  · split <;> omega

set_option maxRecDepth 100000 in
set_option maxHeartbeats 1000000 in
theorem same_calls (w : World) (neg neg' : Bool) (A A' : Option Addr) (n n' cap cap' : Nat) (x y : Int) (ha : WD w neg A n cap x) (hb : WD w neg' A' n' cap' y) :
    Calls Tryz.prog 138 #[.agg #[.bool neg, .slice A n cap], .agg #[.bool neg', .slice A' n' cap']] w (OkPost (.bool (decide (x = y))) w) := by
  have E := ((((Env.start w).wd ha).wd hb).alloc #[.bool neg, .slice A n cap] 78).alloc #[.bool neg', .slice A' n' cap'] 78
  simp only [World.size_alloc] at E
  have HE := Lib.hid E
  have HD : Hid (decide (x = y) = (cmpZ x y == 0)) := Lib.hid (by rw [show (cmpZ x y == 0) = decide (cmpZ x y = 0) from rfl, decide_eq_decide]; exact (cmpZ_eq0 x y).symm)
  clear E ha hb
  go_enter Tryz.func138, Tryz.ntmps138
  go_wp2_with fail
  go_at_call 88
  refine (Cmp_calls _ neg neg' A A' n n' cap cap' x y HE.out.wds.2.1 HE.out.wds.1).mono ?_
  rintro e W1 ⟨rfl, hb1⟩
  replace HE := Lib.hid (HE.out.below hb1)
  clear hb1
  go_wp2
  go_ret
  refine ⟨?_, HE.out.bel⟩
  rw [HD.out]
  rfl

set_option maxRecDepth 100000 in
set_option maxHeartbeats 1000000 in
theorem one_calls (w : World) : Calls Tryz.prog 118 #[] w (WidPost 1 w) := by
  have HE := Lib.hid ((Env.start w).alloc #[.bool false, .slice none 0 0] 78)
  go_enter Tryz.func118, Tryz.ntmps118
  go_wp2_with fail
  go_at_call 40
  refine (From_calls _ 1 (by omega) (by omega)).mono ?_
  rintro e W1 ⟨n1, A1, m1, c1, rfl, k1, hb1⟩
  replace HE := Lib.hid ((HE.out.below hb1).wd k1)
  have e0 : W1.cell? ⟨w.heap.size, 0, none⟩ = some (.bool false) := HE.out.blks.1.at 0
  have e1 : W1.cell? ⟨w.heap.size, 1, none⟩ = some (.slice none 0 0) := HE.out.blks.1.at 1
  have g0 := HE.out.blks.1.fr 0
  have g1 := HE.out.blks.1.fr 1
  clear hb1 k1
  go_wp2
  have E := HE.out.set2 (Nat.le_refl _) trivial (.bool n1) (.slice A1 m1 c1)
  have r0 : _ = some (Value.bool n1) := E.blks.1.at 0
  have r1 : _ = some (Value.slice A1 m1 c1) := E.blks.1.at 1
  refine bodyPost_ret (v := .agg #[.bool n1, .slice A1 m1 c1]) (by simp [results, Tryz.results118, go_sem, r0, r1]) rfl ?_
  exact ⟨n1, A1, m1, c1, rfl, E.wds.1, E.bel⟩

set_option maxRecDepth 100000 in
set_option maxHeartbeats 1000000 in
theorem catch_idle (p : Addr) (w : World) :
    CallsD Tryz.prog 108 #[.pointer (some p)] .returning w fun e u' w' => e = .returned (.tuple #[]) ∧ u' = .returning ∧ w' = w := by
  refine callsD_of_wpS Tryz.func108 rfl fun c₀ cs hu => ?_
  apply wpS_seq
  apply wpS_region
  simp [wpOpsS, go_sem, recoverD, hu, Tryz.ntmps108, Exit.thenS]
  refine wpS_of_wp ?_
  go_wp2
  cases c₀
  simp_all [bodyPostS, results, Tryz.results108]

end Go.Proofs.YtilaheplclaokaaGreat

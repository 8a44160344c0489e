/-
Walk of trig's turned.
Walks of small functions: sphere.outside, angle.Norm, planisphereref19.within.
Walk of trig's sine.
Walks of the methods floor and unit of trig's ball.
-/
import Derived.Deep.DeepCutAuto
import Derived.Test.YtilaheplclaokaaGreatDoorTurn01
import Derived.Test.YtilaheplclaokaaGreatDoorTurn07
import Derived.Test.YtilaheplclaokaaGreatDoorTurn09
set_option linter.unusedVariables false
set_option linter.unusedSimpArgs false
namespace Go.Proofs.YtilaheplclaokaaGreatDoor
open Go.RowKit Go.Shelf
attribute [local go_sem] Oper.semAt_some

theorem cmpZ_npos {x y : Int} (h : ¬ y < x) : ¬ 0 < cmpZ x y := by
  unfold cmpZ
  rw [if_neg h]
  split <;> omega
theorem cmpZ_nneg {x y : Int} (h : ¬ x < y) : ¬ cmpZ x y < 0 := by
  unfold cmpZ
  rw [if_neg h]
  split <;> omega
theorem cutBall1 {P : Program} {c : Code} {K : Act → World → Prop} {Q : Exit → Act → World → Prop} {a : Act} {w : World} {F : Nat → Bool → Option Addr → Nat → Nat → World → Prop} (f : Nat → Bool → Option Addr → Nat → Nat → Act)
    (main : (∀ b n0 A0 k0 c0 W, F b n0 A0 k0 c0 W → K (f b n0 A0 k0 c0) W) → c.wp P (Exit.then K Q) a w) (key : ∀ b n0 A0 k0 c0 W, F b n0 A0 k0 c0 W → K (f b n0 A0 k0 c0) W) : c.wp P (Exit.then K Q) a w := main key

set_option maxRecDepth 100000 in
set_option maxHeartbeats 2000000 in
theorem turned_calls (w : World) (q : Int) (nx : Bool) (Ax : Option Addr) (mx cx : Nat) (x r p : Int) (hq0 : 0 ≤ q) (hq3 : q ≤ 3) (hp : 1 ≤ p ∧ p ≤ 1000000) (hr : 0 ≤ r ∧ r ≤ 30000000) (hx : WD w nx Ax mx cx x) :
    Calls Tryz.prog 210 #[.int .i64 q, .agg #[.bool nx, .slice Ax mx cx, .int .i64 r], .int .i64 p] w (BPost (turnV q x r p) (turnE q x r p) w) := by
  have E0 := ((Env.start w).alloc #[.bool nx, .slice Ax mx cx, .int .i64 r] 241).alloc #[.bool false, .slice none 0 0, .int .i64 0] 241
  simp only [World.size_alloc] at E0
  have E1 := Lib.hid (E0.wd (hx.below E0.bel))
  clear E0 hx
  obtain ⟨_, hpr0, hpr1⟩ := pi_bounds p
  have CP := Lib.hid fun w' => pi_calls w' p
  have HB := Lib.hid (turn_bounds x r p hp.1 hr.1 hr.2)
  have hbit1 : bits .and .i64 q 1 = q % 2 := by
    have : q = 0 ∨ q = 1 ∨ q = 2 ∨ q = 3 := by omega
    rcases this with rfl | rfl | rfl | rfl <;> rfl
  have hbit2 : bits .and .i64 q 2 = 2 * (q / 2) := by
    have : q = 0 ∨ q = 1 ∨ q = 2 ∨ q = 3 := by omega
    rcases this with rfl | rfl | rfl | rfl <;> rfl
  obtain ⟨P0, hP0⟩ : ∃ P0, P0 = piV p := ⟨_, rfl⟩
  obtain ⟨R0, hR0⟩ : ∃ R0, R0 = piR p := ⟨_, rfl⟩
  rw [← hP0, ← hR0] at CP
  rw [← hR0] at hpr0 hpr1
  have HP0 := Lib.hid hP0
  have HR0 := Lib.hid hR0
  clear hP0 hR0
  have hv1 : IntKind.i64.wrap (R0 + r) = R0 + r := wrap_i64 _ (by omega) (by omega)
  have hv2 : IntKind.i64.wrap (R0 + r + 1) = R0 + r + 1 := wrap_i64 _ (by omega) (by omega)
  go_enter Tryz.func210, Tryz.ntmps210
  go_wp2_with fail
  go_at_call 206
  refine (CP.out _).mono ?_
  rintro e W1 ⟨n7, A7, k7, c7, rfl, h7, hb1⟩
  have E2 := Lib.hid ((E1.out.below hb1).wd h7)
  clear E1 h7 hb1 CP
  go_wp2_with fail
  have E := E2.out.alloc #[.bool n7, .slice A7 k7 c7, .int .i64 R0] 241
  have hb7 : w.heap.size + 1 < W1.heap.size := E2.out.blks.1.lt
  clear E2
  generalize W1.alloc (.cells #[.bool n7, .slice A7 k7 c7, .int .i64 R0] 241) = V at *
  generalize W1.heap.size = b7 at *
  have HE := Lib.hid E
  clear E W1
  refine region_startM (m := 6) (A := fun W' => Env w [(w.heap.size + 1, #[.bool false, .slice none 0 0, .int .i64 0], 241), (w.heap.size, #[.bool nx, .slice Ax mx cx, .int .i64 r], 241)] [(n7, A7, k7, c7, P0), (nx, Ax, mx, cx, x)] W') (B := fun W' => Blk W' b7 #[.bool n7, .slice A7 k7 c7, .int .i64 R0] 241) (by kernel_rfl) ?_
  intro W hW
  have E := HE.out.drew
  rw [← hW] at E
  clear hW HE
  have hS := And.intro E.drop E.blks.1
  refine wpAnyM_take (i := 0) (v := .pointer (some ⟨b7, 0, none⟩)) rfl (by kernel_rfl) (by kernel_rfl) (by kernel_rfl) rfl rfl (by kernel_rfl) (by kernel_rfl) (fun _ _ _ h => h) (.inl ⟨rfl, fun w0 hw0 => ?a0⟩) hS ?_
  case a0 =>
    have e0 : w0.cell? ⟨b7, 0, none⟩ = some (.bool n7) := hw0.2.at 0; have e1 : w0.cell? ⟨b7, 1, none⟩ = some (.slice A7 k7 c7) := hw0.2.at 1; have e2 : w0.cell? ⟨b7, 2, none⟩ = some (.int .i64 R0) := hw0.2.at 2
    go_simp
  refine wpAnyM_take (i := 1) (v := .agg #[.bool n7, .slice A7 k7 c7]) rfl (by kernel_rfl) (by kernel_rfl) (by kernel_rfl) rfl rfl (by kernel_rfl) (by kernel_rfl) (fun _ _ _ h => h) (.inl ⟨rfl, fun w0 hw0 => ?a1⟩) hS ?_
  case a1 =>
    have e0 : w0.cell? ⟨b7, 0, none⟩ = some (.bool n7) := hw0.2.at 0; have e1 : w0.cell? ⟨b7, 1, none⟩ = some (.slice A7 k7 c7) := hw0.2.at 1; have e2 : w0.cell? ⟨b7, 2, none⟩ = some (.int .i64 R0) := hw0.2.at 2
    go_simp
  refine wpAnyM_take (i := 3) (v := .pointer (some ⟨b7, 2, none⟩)) rfl (by kernel_rfl) (by kernel_rfl) (by kernel_rfl) rfl rfl (by kernel_rfl) (by kernel_rfl) (fun _ _ _ h => h) (.inl ⟨rfl, fun w0 hw0 => ?a3⟩) hS ?_
  case a3 =>
    have e0 : w0.cell? ⟨b7, 0, none⟩ = some (.bool n7) := hw0.2.at 0; have e1 : w0.cell? ⟨b7, 1, none⟩ = some (.slice A7 k7 c7) := hw0.2.at 1; have e2 : w0.cell? ⟨b7, 2, none⟩ = some (.int .i64 R0) := hw0.2.at 2
    go_simp
  refine wpAnyM_take (i := 4) (v := .int .i64 R0) rfl (by kernel_rfl) (by kernel_rfl) (by kernel_rfl) rfl rfl (by kernel_rfl) (by kernel_rfl) (fun _ _ _ h => h) (.inl ⟨rfl, fun w0 hw0 => ?a4⟩) hS ?_
  case a4 =>
    have e0 : w0.cell? ⟨b7, 0, none⟩ = some (.bool n7) := hw0.2.at 0; have e1 : w0.cell? ⟨b7, 1, none⟩ = some (.slice A7 k7 c7) := hw0.2.at 1; have e2 : w0.cell? ⟨b7, 2, none⟩ = some (.int .i64 R0) := hw0.2.at 2
    go_simp
  clear hS
  refine wpAnyM_all (rs := [2]) (by kernel_rfl) (by simp) ?_
  intro i0 hi0
  obtain rfl : i0 = 2 := by simpa using hi0
  refine wpOp_plain rfl rfl fun K' hK' => ?_
  go_simp
  refine (tshift_calls _ n7 A7 k7 c7 P0 (-1) E.wds.1).mono ?_
  rintro e W2 ⟨n9, A9, k9, c9, rfl, h9, hb2⟩
  replace E := (E.below hb2).wd h9
  clear h9 hb2
  refine hK' _ _ ⟨⟨E.drop.dropN, fun _ => E.blks.1⟩, ?_⟩
  clear hK' K'
  have hS := And.intro E.drop.dropN E.blks.1
  refine wpAnyM_take (i := 5) (v := .agg #[.bool n9, .slice A9 k9 c9, .int .i64 R0]) rfl (by kernel_rfl) (by kernel_rfl) (by kernel_rfl) rfl rfl (by kernel_rfl) (by kernel_rfl) (fun _ _ _ h => h) (.inl ⟨rfl, fun w0 hw0 => ?a5⟩) hS ?_
  case a5 =>
    have e0 : w0.cell? ⟨b7, 0, none⟩ = some (.bool n7) := hw0.2.at 0; have e1 : w0.cell? ⟨b7, 1, none⟩ = some (.slice A7 k7 c7) := hw0.2.at 1; have e2 : w0.cell? ⟨b7, 2, none⟩ = some (.int .i64 R0) := hw0.2.at 2
    go_simp
  clear hS
  have f0 : W2.cell? ⟨b7, 0, none⟩ = some (.bool n7) := E.blks.1.at 0
  have f1 : W2.cell? ⟨b7, 1, none⟩ = some (.slice A7 k7 c7) := E.blks.1.at 1
  have f2 : W2.cell? ⟨b7, 2, none⟩ = some (.int .i64 R0) := E.blks.1.at 2
  have g0 := E.blks.1.fr 0
  have g1 := E.blks.1.fr 1
  have g2 := E.blks.1.fr 2
  refine wpAnyM_all (rs := [6]) (by kernel_rfl) (by simp) ?_
  intro i0 hi0
  obtain rfl : i0 = 6 := by simpa using hi0
  refine wpOp_plain rfl rfl fun K' hK' => ?_
  go_simp
  replace E := E.set3 (by omega) (by simp [Free]; omega) (.bool n9) (.slice A9 k9 c9) (.int .i64 R0)
  clear f0 f1 f2 g0 g1 g2
  generalize (((W2.setCell ⟨b7, 0, none⟩ (.bool n9)).setCell ⟨b7, 1, none⟩ (.slice A9 k9 c9)).setCell ⟨b7, 2, none⟩ (.int .i64 R0)) = W3 at *
  refine hK' _ _ ⟨⟨E.drop.dropN, fun h => absurd h (by simp)⟩, wpAnyM_done (by kernel_rfl) ?_ _⟩
  clear hK' K'
  obtain ⟨H, hH⟩ : ∃ H, H = shiftF P0 (-1) := ⟨_, rfl⟩
  rw [← hH] at E
  have HH := Lib.hid hH
  obtain ⟨M, hM⟩ : ∃ M, M = Num.fit (H - x) := ⟨_, rfl⟩
  have HM := Lib.hid hM
  have hM' : Num.fit (shiftF (piV p) (-1) - x) = M := by rw [hM, hH, HP0.out]
  have HE := Lib.hid E
  clear E hH hM
  go_wp2_with fail
  apply cutBall1 (F := fun b8 n8 A8 k8 c8 W => Env w [(b8, #[.bool n8, .slice A8 k8 c8, .int .i64 (R0 + r + 1)], 241), (b7, #[.bool n9, .slice A9 k9 c9, .int .i64 R0], 241), (w.heap.size + 1, #[.bool false, .slice none 0 0, .int .i64 0], 241), (w.heap.size, #[.bool nx, .slice Ax mx cx, .int .i64 r], 241)] [(n8, A8, k8, c8, M), (n9, A9, k9, c9, H), (n7, A7, k7, c7, P0), (nx, Ax, mx, cx, x)] W ∧ b7 < b8)
  · intro key
    refine region_start (S := fun W' => Env w [(b7, #[.bool n9, .slice A9 k9 c9, .int .i64 R0], 241), (w.heap.size + 1, #[.bool false, .slice none 0 0, .int .i64 0], 241), (w.heap.size, #[.bool nx, .slice Ax mx cx, .int .i64 r], 241)] [(n9, A9, k9, c9, H), (n7, A7, k7, c7, P0), (nx, Ax, mx, cx, x)] W') (by kernel_rfl) ?_
    intro W hW
    have E := HE.out.drew
    rw [← hW] at E
    obtain ⟨B, hBe⟩ : ∃ B, B = W.heap.size := ⟨_, rfl⟩
    have hB : B ≤ W.heap.size := Nat.le_of_eq hBe
    have hBw : b7 < B := by rw [hBe]; exact E.blks.1.lt
    have hbel := E.bel
    clear hBe hW
    have hS := E
    refine wpAnyH_take (i := 0) (v := .pointer (some ⟨b7, 0, none⟩)) rfl (by kernel_rfl) (by kernel_rfl) (by kernel_rfl) (fun _ _ _ h => h) (.inl ⟨rfl, fun w0 hw0 => ?a0⟩) hS ?_
    case a0 =>
      have g := hw0.blks; have e0 : w0.cell? ⟨b7, 0, none⟩ = some (.bool n9) := g.1.at 0; have e1 : w0.cell? ⟨b7, 1, none⟩ = some (.slice A9 k9 c9) := g.1.at 1; have e2 : w0.cell? ⟨b7, 2, none⟩ = some (.int .i64 R0) := g.1.at 2; have e3 : w0.cell? ⟨w.heap.size, 0, none⟩ = some (.bool nx) := g.2.2.1.at 0; have e4 : w0.cell? ⟨w.heap.size, 1, none⟩ = some (.slice Ax mx cx) := g.2.2.1.at 1; have e5 : w0.cell? ⟨w.heap.size, 2, none⟩ = some (.int .i64 r) := g.2.2.1.at 2
      go_simp
    refine wpAnyH_take (i := 1) (v := .agg #[.bool n9, .slice A9 k9 c9]) rfl (by kernel_rfl) (by kernel_rfl) (by kernel_rfl) (fun _ _ _ h => h) (.inl ⟨rfl, fun w0 hw0 => ?a1⟩) hS ?_
    case a1 =>
      have g := hw0.blks; have e0 : w0.cell? ⟨b7, 0, none⟩ = some (.bool n9) := g.1.at 0; have e1 : w0.cell? ⟨b7, 1, none⟩ = some (.slice A9 k9 c9) := g.1.at 1; have e2 : w0.cell? ⟨b7, 2, none⟩ = some (.int .i64 R0) := g.1.at 2; have e3 : w0.cell? ⟨w.heap.size, 0, none⟩ = some (.bool nx) := g.2.2.1.at 0; have e4 : w0.cell? ⟨w.heap.size, 1, none⟩ = some (.slice Ax mx cx) := g.2.2.1.at 1; have e5 : w0.cell? ⟨w.heap.size, 2, none⟩ = some (.int .i64 r) := g.2.2.1.at 2
      go_simp
    refine wpAnyH_take (i := 2) (v := .pointer (some ⟨w.heap.size, 0, none⟩)) rfl (by kernel_rfl) (by kernel_rfl) (by kernel_rfl) (fun _ _ _ h => h) (.inl ⟨rfl, fun w0 hw0 => ?a2⟩) hS ?_
    case a2 =>
      have g := hw0.blks; have e0 : w0.cell? ⟨b7, 0, none⟩ = some (.bool n9) := g.1.at 0; have e1 : w0.cell? ⟨b7, 1, none⟩ = some (.slice A9 k9 c9) := g.1.at 1; have e2 : w0.cell? ⟨b7, 2, none⟩ = some (.int .i64 R0) := g.1.at 2; have e3 : w0.cell? ⟨w.heap.size, 0, none⟩ = some (.bool nx) := g.2.2.1.at 0; have e4 : w0.cell? ⟨w.heap.size, 1, none⟩ = some (.slice Ax mx cx) := g.2.2.1.at 1; have e5 : w0.cell? ⟨w.heap.size, 2, none⟩ = some (.int .i64 r) := g.2.2.1.at 2
      go_simp
    refine wpAnyH_take (i := 3) (v := .agg #[.bool nx, .slice Ax mx cx]) rfl (by kernel_rfl) (by kernel_rfl) (by kernel_rfl) (fun _ _ _ h => h) (.inl ⟨rfl, fun w0 hw0 => ?a3⟩) hS ?_
    case a3 =>
      have g := hw0.blks; have e0 : w0.cell? ⟨b7, 0, none⟩ = some (.bool n9) := g.1.at 0; have e1 : w0.cell? ⟨b7, 1, none⟩ = some (.slice A9 k9 c9) := g.1.at 1; have e2 : w0.cell? ⟨b7, 2, none⟩ = some (.int .i64 R0) := g.1.at 2; have e3 : w0.cell? ⟨w.heap.size, 0, none⟩ = some (.bool nx) := g.2.2.1.at 0; have e4 : w0.cell? ⟨w.heap.size, 1, none⟩ = some (.slice Ax mx cx) := g.2.2.1.at 1; have e5 : w0.cell? ⟨w.heap.size, 2, none⟩ = some (.int .i64 r) := g.2.2.1.at 2
      go_simp
    refine wpAnyH_take (i := 5) (v := .pointer (some ⟨b7, 2, none⟩)) rfl (by kernel_rfl) (by kernel_rfl) (by kernel_rfl) (fun _ _ _ h => h) (.inl ⟨rfl, fun w0 hw0 => ?a5⟩) hS ?_
    case a5 =>
      have g := hw0.blks; have e0 : w0.cell? ⟨b7, 0, none⟩ = some (.bool n9) := g.1.at 0; have e1 : w0.cell? ⟨b7, 1, none⟩ = some (.slice A9 k9 c9) := g.1.at 1; have e2 : w0.cell? ⟨b7, 2, none⟩ = some (.int .i64 R0) := g.1.at 2; have e3 : w0.cell? ⟨w.heap.size, 0, none⟩ = some (.bool nx) := g.2.2.1.at 0; have e4 : w0.cell? ⟨w.heap.size, 1, none⟩ = some (.slice Ax mx cx) := g.2.2.1.at 1; have e5 : w0.cell? ⟨w.heap.size, 2, none⟩ = some (.int .i64 r) := g.2.2.1.at 2
      go_simp
    refine wpAnyH_take (i := 6) (v := .int .i64 R0) rfl (by kernel_rfl) (by kernel_rfl) (by kernel_rfl) (fun _ _ _ h => h) (.inl ⟨rfl, fun w0 hw0 => ?a6⟩) hS ?_
    case a6 =>
      have g := hw0.blks; have e0 : w0.cell? ⟨b7, 0, none⟩ = some (.bool n9) := g.1.at 0; have e1 : w0.cell? ⟨b7, 1, none⟩ = some (.slice A9 k9 c9) := g.1.at 1; have e2 : w0.cell? ⟨b7, 2, none⟩ = some (.int .i64 R0) := g.1.at 2; have e3 : w0.cell? ⟨w.heap.size, 0, none⟩ = some (.bool nx) := g.2.2.1.at 0; have e4 : w0.cell? ⟨w.heap.size, 1, none⟩ = some (.slice Ax mx cx) := g.2.2.1.at 1; have e5 : w0.cell? ⟨w.heap.size, 2, none⟩ = some (.int .i64 r) := g.2.2.1.at 2
      go_simp
    refine wpAnyH_take (i := 7) (v := .pointer (some ⟨w.heap.size, 2, none⟩)) rfl (by kernel_rfl) (by kernel_rfl) (by kernel_rfl) (fun _ _ _ h => h) (.inl ⟨rfl, fun w0 hw0 => ?a7⟩) hS ?_
    case a7 =>
      have g := hw0.blks; have e0 : w0.cell? ⟨b7, 0, none⟩ = some (.bool n9) := g.1.at 0; have e1 : w0.cell? ⟨b7, 1, none⟩ = some (.slice A9 k9 c9) := g.1.at 1; have e2 : w0.cell? ⟨b7, 2, none⟩ = some (.int .i64 R0) := g.1.at 2; have e3 : w0.cell? ⟨w.heap.size, 0, none⟩ = some (.bool nx) := g.2.2.1.at 0; have e4 : w0.cell? ⟨w.heap.size, 1, none⟩ = some (.slice Ax mx cx) := g.2.2.1.at 1; have e5 : w0.cell? ⟨w.heap.size, 2, none⟩ = some (.int .i64 r) := g.2.2.1.at 2
      go_simp
    refine wpAnyH_take (i := 8) (v := .int .i64 r) rfl (by kernel_rfl) (by kernel_rfl) (by kernel_rfl) (fun _ _ _ h => h) (.inl ⟨rfl, fun w0 hw0 => ?a8⟩) hS ?_
    case a8 =>
      have g := hw0.blks; have e0 : w0.cell? ⟨b7, 0, none⟩ = some (.bool n9) := g.1.at 0; have e1 : w0.cell? ⟨b7, 1, none⟩ = some (.slice A9 k9 c9) := g.1.at 1; have e2 : w0.cell? ⟨b7, 2, none⟩ = some (.int .i64 R0) := g.1.at 2; have e3 : w0.cell? ⟨w.heap.size, 0, none⟩ = some (.bool nx) := g.2.2.1.at 0; have e4 : w0.cell? ⟨w.heap.size, 1, none⟩ = some (.slice Ax mx cx) := g.2.2.1.at 1; have e5 : w0.cell? ⟨w.heap.size, 2, none⟩ = some (.int .i64 r) := g.2.2.1.at 2
      go_simp
    refine wpAnyH_take (i := 9) (v := .int .i64 (R0 + r)) rfl (by kernel_rfl) (by kernel_rfl) (by kernel_rfl) (fun _ _ _ h => h) (.inl ⟨rfl, fun w0 hw0 => ?a9⟩) hS ?_
    case a9 =>
      have g := hw0.blks; have e0 : w0.cell? ⟨b7, 0, none⟩ = some (.bool n9) := g.1.at 0; have e1 : w0.cell? ⟨b7, 1, none⟩ = some (.slice A9 k9 c9) := g.1.at 1; have e2 : w0.cell? ⟨b7, 2, none⟩ = some (.int .i64 R0) := g.1.at 2; have e3 : w0.cell? ⟨w.heap.size, 0, none⟩ = some (.bool nx) := g.2.2.1.at 0; have e4 : w0.cell? ⟨w.heap.size, 1, none⟩ = some (.slice Ax mx cx) := g.2.2.1.at 1; have e5 : w0.cell? ⟨w.heap.size, 2, none⟩ = some (.int .i64 r) := g.2.2.1.at 2
      go_simp
    refine wpAnyH_take (i := 10) (v := .int .i64 (R0 + r + 1)) rfl (by kernel_rfl) (by kernel_rfl) (by kernel_rfl) (fun _ _ _ h => h) (.inl ⟨rfl, fun w0 hw0 => ?a10⟩) hS ?_
    case a10 =>
      have g := hw0.blks; have e0 : w0.cell? ⟨b7, 0, none⟩ = some (.bool n9) := g.1.at 0; have e1 : w0.cell? ⟨b7, 1, none⟩ = some (.slice A9 k9 c9) := g.1.at 1; have e2 : w0.cell? ⟨b7, 2, none⟩ = some (.int .i64 R0) := g.1.at 2; have e3 : w0.cell? ⟨w.heap.size, 0, none⟩ = some (.bool nx) := g.2.2.1.at 0; have e4 : w0.cell? ⟨w.heap.size, 1, none⟩ = some (.slice Ax mx cx) := g.2.2.1.at 1; have e5 : w0.cell? ⟨w.heap.size, 2, none⟩ = some (.int .i64 r) := g.2.2.1.at 2
      go_simp
    clear hS
    refine wpAnyH_all (rs := [4, 12]) (by kernel_rfl) (by simp) ?_
    intro i0 hi0
    have hi1 : i0 = 4 ∨ i0 = 12 := by simpa using hi0
    clear hi0
    rcases hi1 with rfl | rfl
    · refine wpOp_plain rfl rfl fun K' hK' => ?_
      go_simp
      refine (tsub_calls _ n9 nx A9 Ax k9 mx c9 cx H x E.wds.1 E.wds.2.2.1).mono ?_
      rintro e W ⟨nb, Ab, kb, cb, rfl, hnb, hstep⟩
      have E := E.below hstep
      have hbel := hbel.trans (hstep.mono hbel.size)
      have hB := Nat.le_trans hB hstep.size
      refine hK' _ _ ⟨E, ?_⟩
      clear hK' K' hstep
      have hS := E
      refine wpAnyH_take (i := 11) (v := .agg #[.bool nb, .slice Ab kb cb, .int .i64 (R0 + r + 1)]) rfl (by kernel_rfl) (by kernel_rfl) (by kernel_rfl) (fun _ _ _ h => h) (.inl ⟨rfl, fun w0 hw0 => ?a11⟩) hS ?_
      case a11 =>
        have g := hw0.blks; have e0 : w0.cell? ⟨b7, 0, none⟩ = some (.bool n9) := g.1.at 0; have e1 : w0.cell? ⟨b7, 1, none⟩ = some (.slice A9 k9 c9) := g.1.at 1; have e2 : w0.cell? ⟨b7, 2, none⟩ = some (.int .i64 R0) := g.1.at 2; have e3 : w0.cell? ⟨w.heap.size, 0, none⟩ = some (.bool nx) := g.2.2.1.at 0; have e4 : w0.cell? ⟨w.heap.size, 1, none⟩ = some (.slice Ax mx cx) := g.2.2.1.at 1; have e5 : w0.cell? ⟨w.heap.size, 2, none⟩ = some (.int .i64 r) := g.2.2.1.at 2
        go_simp
      clear hS
      refine wpAnyH_all (rs := [12]) (by kernel_rfl) (by simp) ?_
      intro i0 hi0
      obtain rfl : i0 = 12 := by simpa using hi0
      refine wpOp_plain rfl rfl fun K' hK' => ?_
      go_simp
      have hal := (Below.refl W.heap.size W).alloc (Nat.le_refl _) (.cells #[.bool false, .slice none 0 0, .int .i64 0] 241)
      have h5 := Blk.new W #[.bool false, .slice none 0 0, .int .i64 0] 241
      obtain ⟨b5, hb5⟩ : ∃ b5, b5 = W.heap.size := ⟨_, rfl⟩
      rw [← hb5] at h5 ⊢
      have hb5B : B ≤ b5 := by omega
      have E := E.below hal
      have hnb := hnb.below hal
      have hbel := hbel.trans (hal.mono hbel.size)
      have hB := Nat.le_trans hB hal.size
      clear hb5 hal
      generalize W.alloc (.cells #[.bool false, .slice none 0 0, .int .i64 0] 241) = W at *
      refine hK' _ _ ⟨E, ?_⟩
      clear hK' K'
      have f0 : W.cell? ⟨b5, 0, none⟩ = some (.bool false) := h5.at 0
      have g0 := h5.fr 0
      have f1 : W.cell? ⟨b5, 1, none⟩ = some (.slice none 0 0) := h5.at 1
      have g1 := h5.fr 1
      have f2 : W.cell? ⟨b5, 2, none⟩ = some (.int .i64 0) := h5.at 2
      have g2 := h5.fr 2
      refine wpAnyH_all (rs := [13]) (by kernel_rfl) (by simp) ?_
      intro i0 hi0
      obtain rfl : i0 = 13 := by simpa using hi0
      refine wpOp_plain rfl rfl fun K' hK' => ?_
      go_simp
      exact hK' _ _ ⟨((E.blk h5).set3 (by omega) (by simp [Free]; omega) _ _ _).drop, wpAnyH_done (by kernel_rfl) (key b5 nb Ab kb cb _ ⟨((E.blk h5).set3 (by omega) (by simp [Free]; omega) _ _ _).wd (by rw [HM.out]; exact hnb.set3 h5 _ _ _), by omega⟩) _⟩
    · refine wpOp_plain rfl rfl fun K' hK' => ?_
      go_simp
      have hal := (Below.refl W.heap.size W).alloc (Nat.le_refl _) (.cells #[.bool false, .slice none 0 0, .int .i64 0] 241)
      have h5 := Blk.new W #[.bool false, .slice none 0 0, .int .i64 0] 241
      obtain ⟨b5, hb5⟩ : ∃ b5, b5 = W.heap.size := ⟨_, rfl⟩
      rw [← hb5] at h5 ⊢
      have hb5B : B ≤ b5 := by omega
      have E := E.below hal
      have hbel := hbel.trans (hal.mono hbel.size)
      have hB := Nat.le_trans hB hal.size
      clear hb5 hal
      generalize W.alloc (.cells #[.bool false, .slice none 0 0, .int .i64 0] 241) = W at *
      refine hK' _ _ ⟨E, ?_⟩
      clear hK' K'
      refine wpAnyH_all (rs := [4]) (by kernel_rfl) (by simp) ?_
      intro i0 hi0
      obtain rfl : i0 = 4 := by simpa using hi0
      refine wpOp_plain rfl rfl fun K' hK' => ?_
      go_simp
      refine (tsub_calls _ n9 nx A9 Ax k9 mx c9 cx H x E.wds.1 E.wds.2.2.1).mono ?_
      rintro e W ⟨nb, Ab, kb, cb, rfl, hnb, hstep⟩
      have E := E.below hstep
      have h5 := h5.below hstep
      have hbel := hbel.trans (hstep.mono hbel.size)
      have hB := Nat.le_trans hB hstep.size
      refine hK' _ _ ⟨E, ?_⟩
      clear hK' K' hstep
      have hS := E
      refine wpAnyH_take (i := 11) (v := .agg #[.bool nb, .slice Ab kb cb, .int .i64 (R0 + r + 1)]) rfl (by kernel_rfl) (by kernel_rfl) (by kernel_rfl) (fun _ _ _ h => h) (.inl ⟨rfl, fun w0 hw0 => ?a11⟩) hS ?_
      case a11 =>
        have g := hw0.blks; have e0 : w0.cell? ⟨b7, 0, none⟩ = some (.bool n9) := g.1.at 0; have e1 : w0.cell? ⟨b7, 1, none⟩ = some (.slice A9 k9 c9) := g.1.at 1; have e2 : w0.cell? ⟨b7, 2, none⟩ = some (.int .i64 R0) := g.1.at 2; have e3 : w0.cell? ⟨w.heap.size, 0, none⟩ = some (.bool nx) := g.2.2.1.at 0; have e4 : w0.cell? ⟨w.heap.size, 1, none⟩ = some (.slice Ax mx cx) := g.2.2.1.at 1; have e5 : w0.cell? ⟨w.heap.size, 2, none⟩ = some (.int .i64 r) := g.2.2.1.at 2
        go_simp
      clear hS
      have f0 : W.cell? ⟨b5, 0, none⟩ = some (.bool false) := h5.at 0
      have g0 := h5.fr 0
      have f1 : W.cell? ⟨b5, 1, none⟩ = some (.slice none 0 0) := h5.at 1
      have g1 := h5.fr 1
      have f2 : W.cell? ⟨b5, 2, none⟩ = some (.int .i64 0) := h5.at 2
      have g2 := h5.fr 2
      refine wpAnyH_all (rs := [13]) (by kernel_rfl) (by simp) ?_
      intro i0 hi0
      obtain rfl : i0 = 13 := by simpa using hi0
      refine wpOp_plain rfl rfl fun K' hK' => ?_
      go_simp
      exact hK' _ _ ⟨((E.blk h5).set3 (by omega) (by simp [Free]; omega) _ _ _).drop, wpAnyH_done (by kernel_rfl) (key b5 nb Ab kb cb _ ⟨((E.blk h5).set3 (by omega) (by simp [Free]; omega) _ _ _).wd (by rw [HM.out]; exact hnb.set3 h5 _ _ _), by omega⟩) _⟩
  rintro b8 n8 A8 k8 c8 V3 ⟨E, hb8⟩
  replace HE := Lib.hid E
  clear E
  have e0 : V3.cell? ⟨b8, 0, none⟩ = some (.bool n8) := HE.out.blks.1.at 0
  have e1 : V3.cell? ⟨b8, 1, none⟩ = some (.slice A8 k8 c8) := HE.out.blks.1.at 1
  have e3 : V3.cell? ⟨w.heap.size, 0, none⟩ = some (.bool nx) := HE.out.blks.2.2.2.1.at 0
  have e4 : V3.cell? ⟨w.heap.size, 1, none⟩ = some (.slice Ax mx cx) := HE.out.blks.2.2.2.1.at 1
  go_upto_if 46 with (go_at_call 172; refine (Cmp_calls _ nx n8 Ax A8 mx k8 cx c8 x M HE.out.wds.2.2.2.1 HE.out.wds.1).mono ?_; rintro e V4 ⟨rfl, hb4⟩)
  replace HE := Lib.hid (HE.out.below hb4)
  clear e0 e1 e3 e4 hb4
  go_cut [9] from 10 (fun c wx => c = .bool (turnC q x r p) ∧ ∃ n A m cc, Env w [(w.heap.size, #[.bool n, .slice A m cc, .int .i64 (turnR x r p)], 241), (w.heap.size + 1, #[.bool false, .slice none 0 0, .int .i64 0], 241)] [(n, A, m, cc, if M < x then M else x)] wx)
  case first =>
    by_cases hc : M < x
    · have hcm : cmpZ x M = 1 := cmpZ_gt hc
      have f0 : V4.cell? ⟨b8, 0, none⟩ = some (.bool n8) := HE.out.blks.1.at 0
      have f1 : V4.cell? ⟨b8, 1, none⟩ = some (.slice A8 k8 c8) := HE.out.blks.1.at 1
      have f2 : V4.cell? ⟨b8, 2, none⟩ = some (.int .i64 (R0 + r + 1)) := HE.out.blks.1.at 2
      have e0 : V4.cell? ⟨w.heap.size, 0, none⟩ = some (.bool nx) := HE.out.blks.2.2.2.1.at 0
      have e1 : V4.cell? ⟨w.heap.size, 1, none⟩ = some (.slice Ax mx cx) := HE.out.blks.2.2.2.1.at 1
      have e2 : V4.cell? ⟨w.heap.size, 2, none⟩ = some (.int .i64 r) := HE.out.blks.2.2.2.1.at 2
      have g0 := HE.out.blks.2.2.2.1.fr 0
      have g1 := HE.out.blks.2.2.2.1.fr 1
      have g2 := HE.out.blks.2.2.2.1.fr 2
      go_wp2
      go_meet
      have ht : turnR x r p = R0 + r + 1 := by unfold turnR; rw [hM', if_pos (by omega), ← HR0.out]
      refine ⟨?_, n8, A8, k8, c8, ?_⟩
      · unfold turnC turnB
        rw [hM', decide_eq_true (show M < x by omega), show (q % 2 == 1) = decide (q % 2 = 1) from rfl]
        simp
      · obtain ⟨⟨g1, g2, g3, g4, _⟩, ⟨h1, h2, h3, h4, _⟩, hb⟩ := HE.out
        have E : Env w [(w.heap.size, #[.bool nx, .slice Ax mx cx, .int .i64 r], 241), (w.heap.size + 1, #[.bool false, .slice none 0 0, .int .i64 0], 241)] [(n8, A8, k8, c8, M)] V4 := ⟨⟨g4, g3, trivial⟩, ⟨h1, trivial⟩, hb⟩
        rw [ht, if_pos (by omega)]
        exact E.set3 (Nat.le_refl _) (by simp [Free]) _ _ _
    · have hcm : ¬ (0 < cmpZ x M) := cmpZ_npos hc
      go_wp2
      go_meet
      have ht : turnR x r p = r := by unfold turnR; rw [hM', if_neg (by omega)]
      refine ⟨?_, nx, Ax, mx, cx, ?_⟩
      · unfold turnC turnB
        rw [hM', decide_eq_false (show ¬ M < x by omega), show (q % 2 == 1) = decide (q % 2 = 1) from rfl]
        simp
      · obtain ⟨⟨g1, g2, g3, g4, _⟩, ⟨h1, h2, h3, h4, _⟩, hb⟩ := HE.out
        rw [ht, if_neg (by omega)]
        exact ⟨⟨g4, g3, trivial⟩, ⟨h4, trivial⟩, hb⟩
  case rest =>
    obtain ⟨rfl, n, A, m, cc, E⟩ := hcut
    have HE := Lib.hid E
    have hX : turnX x r p = if (if M < x then M else x) < 0 then 0 else (if M < x then M else x) := by unfold turnX; simp only [hM']
    have HX := Lib.hid hX
    clear E hX
    generalize (if M < x then M else x) = y at *
    have e0 : wc.cell? ⟨w.heap.size, 0, none⟩ = some (.bool n) := HE.out.blks.1.at 0
    have e1 : wc.cell? ⟨w.heap.size, 1, none⟩ = some (.slice A m cc) := HE.out.blks.1.at 1
    go_upto_if 53 with (go_at_call 235; refine (tsign_calls _ n A m cc y HE.out.wds.1).mono ?_; rintro e V5 ⟨rfl, hb5⟩)
    replace HE := Lib.hid (HE.out.below hb5)
    clear e0 e1 hb5
    go_cut [] from 10 (fun wx => ∃ n A m cc, Env w [(w.heap.size, #[.bool n, .slice A m cc, .int .i64 (turnR x r p)], 241), (w.heap.size + 1, #[.bool false, .slice none 0 0, .int .i64 0], 241)] [(n, A, m, cc, turnX x r p)] wx)
    case first =>
      by_cases hy : y < 0
      · have hcm : cmpZ y 0 < 0 := by rw [cmpZ_lt hy]; omega
        go_wp2_with fail
        refine region_startM (m := 4) (A := fun W' => Env w [(w.heap.size + 1, #[.bool false, .slice none 0 0, .int .i64 0], 241)] [(n, A, m, cc, y)] W') (B := fun W' => Blk W' w.heap.size #[.bool n, .slice A m cc, .int .i64 (turnR x r p)] 241) (by kernel_rfl) ?_
        intro W hW
        have E := HE.out.drew
        rw [← hW] at E
        clear hW HE
        have hS := And.intro E.drop E.blks.1
        refine wpAnyM_take (i := 1) (v := .pointer (some ⟨w.heap.size, 2, none⟩)) rfl (by kernel_rfl) (by kernel_rfl) (by kernel_rfl) rfl rfl (by kernel_rfl) (by kernel_rfl) (fun _ _ _ h => h) (.inl ⟨rfl, fun w0 hw0 => ?a1⟩) hS ?_
        case a1 =>
          have e2 : w0.cell? ⟨w.heap.size, 2, none⟩ = some (.int .i64 (turnR x r p)) := hw0.2.at 2
          go_simp
        refine wpAnyM_take (i := 2) (v := .int .i64 (turnR x r p)) rfl (by kernel_rfl) (by kernel_rfl) (by kernel_rfl) rfl rfl (by kernel_rfl) (by kernel_rfl) (fun _ _ _ h => h) (.inl ⟨rfl, fun w0 hw0 => ?a2⟩) hS ?_
        case a2 =>
          have e2 : w0.cell? ⟨w.heap.size, 2, none⟩ = some (.int .i64 (turnR x r p)) := hw0.2.at 2
          go_simp
        clear hS
        refine wpAnyM_all (rs := [0]) (by kernel_rfl) (by simp) ?_
        intro i0 hi0
        obtain rfl : i0 = 0 := by simpa using hi0
        refine wpOp_plain rfl rfl fun K' hK' => ?_
        go_simp
        refine (num_calls _ 0 (by omega) (by omega)).mono ?_
        rintro e W2 ⟨n9, A9, k9, c9, rfl, h9, hb2⟩
        replace E := (E.below hb2).wd h9
        clear h9 hb2
        refine hK' _ _ ⟨⟨E.drop.dropN, fun _ => E.blks.1⟩, ?_⟩
        clear hK' K'
        have hS := And.intro E.drop.dropN E.blks.1
        refine wpAnyM_take (i := 3) (v := .agg #[.bool n9, .slice A9 k9 c9, .int .i64 (turnR x r p)]) rfl (by kernel_rfl) (by kernel_rfl) (by kernel_rfl) rfl rfl (by kernel_rfl) (by kernel_rfl) (fun _ _ _ h => h) (.inl ⟨rfl, fun w0 hw0 => ?a3⟩) hS ?_
        case a3 =>
          have e2 : w0.cell? ⟨w.heap.size, 2, none⟩ = some (.int .i64 (turnR x r p)) := hw0.2.at 2
          go_simp
        clear hS
        have f0 : W2.cell? ⟨w.heap.size, 0, none⟩ = some (.bool n) := E.blks.1.at 0
        have f1 : W2.cell? ⟨w.heap.size, 1, none⟩ = some (.slice A m cc) := E.blks.1.at 1
        have f2 : W2.cell? ⟨w.heap.size, 2, none⟩ = some (.int .i64 (turnR x r p)) := E.blks.1.at 2
        have g0 := E.blks.1.fr 0
        have g1 := E.blks.1.fr 1
        have g2 := E.blks.1.fr 2
        refine wpAnyM_all (rs := [4]) (by kernel_rfl) (by simp) ?_
        intro i0 hi0
        obtain rfl : i0 = 4 := by simpa using hi0
        refine wpOp_plain rfl rfl fun K' hK' => ?_
        go_simp
        replace E := E.set3 (Nat.le_refl _) (by simp [Free]) (.bool n9) (.slice A9 k9 c9) (.int .i64 (turnR x r p))
        clear f0 f1 f2 g0 g1 g2
        generalize (((W2.setCell ⟨w.heap.size, 0, none⟩ (.bool n9)).setCell ⟨w.heap.size, 1, none⟩ (.slice A9 k9 c9)).setCell ⟨w.heap.size, 2, none⟩ (.int .i64 (turnR x r p))) = W3 at *
        refine hK' _ _ ⟨⟨E.drop.dropN, fun h => absurd h (by simp)⟩, wpAnyM_done (by kernel_rfl) ?_ _⟩
        clear hK' K'
        have HE := Lib.hid E
        clear E
        go_wp2
        go_meet
        rw [HX.out, if_pos (by omega)]
        obtain ⟨hb, ⟨h1, _⟩, hl⟩ := HE.out
        exact ⟨n9, A9, k9, c9, hb, ⟨h1, trivial⟩, hl⟩
      · have hcm : ¬ cmpZ y 0 < 0 := cmpZ_nneg hy
        go_wp2
        go_meet
        rw [HX.out, if_neg (by omega)]
        exact ⟨n, A, m, cc, HE.out⟩
    case rest =>
      obtain ⟨n, A, m, cc, E⟩ := hcut
      replace HE := Lib.hid E
      clear E HX
      have hTV : turnV q x r p = if q = 2 ∨ q = 3 then Num.fit (-(if turnC q x r p then (circ (turnX x r p) (turnR x r p) p 5).c else (circ (turnX x r p) (turnR x r p) p 5).s)) else (if turnC q x r p then (circ (turnX x r p) (turnR x r p) p 5).c else (circ (turnX x r p) (turnR x r p) p 5).s) := rfl
      have hTE : turnE q x r p = if turnC q x r p then (circ (turnX x r p) (turnR x r p) p 5).rc else (circ (turnX x r p) (turnR x r p) p 5).rs := rfl
      have HTV := Lib.hid hTV
      have HTE := Lib.hid hTE
      clear hTV hTE
      obtain ⟨hx0, hx1, ht0, ht1⟩ := HB.out
      have CC := Lib.hid fun w' h => circular_calls w' n A m cc (turnX x r p) (turnR x r p) p hp hx0 hx1 ⟨ht0, ht1⟩ h
      clear HB hx0 hx1 ht0 ht1
      generalize circ (turnX x r p) (turnR x r p) p 5 = z at *
      generalize turnX x r p = tx at *
      generalize turnR x r p = tr at *
      generalize turnC q x r p = tc at *
      have e0 : wc.cell? ⟨w.heap.size, 0, none⟩ = some (.bool n) := HE.out.blks.1.at 0
      have e1 : wc.cell? ⟨w.heap.size, 1, none⟩ = some (.slice A m cc) := HE.out.blks.1.at 1
      have e2 : wc.cell? ⟨w.heap.size, 2, none⟩ = some (.int .i64 tr) := HE.out.blks.1.at 2
      go_upto_if 64 with (go_at_call 236; refine (CC.out _ HE.out.wds.1).mono ?_; rintro e V6 ⟨n1, A1, m1, c1, n2, A2, m2, c2, rfl, h1, h2, hb6⟩)
      replace HE := Lib.hid (((HE.out.below hb6).wd h1).wd h2)
      clear e0 e1 e2 hb6 h1 h2 CC
      have E := (HE.out.alloc #[.bool n1, .slice A1 m1 c1, .int .i64 z.rs] 241).alloc #[.bool n2, .slice A2 m2 c2, .int .i64 z.rc] 241
      simp only [World.size_alloc] at E
      have hb12 : w.heap.size + 1 < V6.heap.size := HE.out.blks.2.1.lt
      clear HE
      generalize ((V6.alloc (.cells #[.bool n1, .slice A1 m1 c1, .int .i64 z.rs] 241)).alloc (.cells #[.bool n2, .slice A2 m2 c2, .int .i64 z.rc] 241)) = V7 at *
      generalize V6.heap.size = b12 at *
      have HE := Lib.hid E
      clear E
      go_cut [] from 14 (fun wx => ∃ n A m cc, Env w [(b12, #[.bool n, .slice A m cc, .int .i64 (if tc = true then z.rc else z.rs)], 241), (w.heap.size + 1, #[.bool false, .slice none 0 0, .int .i64 0], 241)] [(n, A, m, cc, if tc = true then z.c else z.s)] wx)
      case first =>
        cases tc with
        | true =>
          have f0 : V7.cell? ⟨b12 + 1, 0, none⟩ = some (.bool n2) := HE.out.blks.1.at 0
          have f1 : V7.cell? ⟨b12 + 1, 1, none⟩ = some (.slice A2 m2 c2) := HE.out.blks.1.at 1
          have f2 : V7.cell? ⟨b12 + 1, 2, none⟩ = some (.int .i64 z.rc) := HE.out.blks.1.at 2
          have e0 : V7.cell? ⟨b12, 0, none⟩ = some (.bool n1) := HE.out.blks.2.1.at 0
          have e1 : V7.cell? ⟨b12, 1, none⟩ = some (.slice A1 m1 c1) := HE.out.blks.2.1.at 1
          have e2 : V7.cell? ⟨b12, 2, none⟩ = some (.int .i64 z.rs) := HE.out.blks.2.1.at 2
          have g0 := HE.out.blks.2.1.fr 0
          have g1 := HE.out.blks.2.1.fr 1
          have g2 := HE.out.blks.2.1.fr 2
          go_wp2
          go_meet
          obtain ⟨⟨g1, g2, g3, g4, _⟩, ⟨h1, h2, _⟩, hb⟩ := HE.out
          have E : Env w [(b12, #[.bool n1, .slice A1 m1 c1, .int .i64 z.rs], 241), (w.heap.size + 1, #[.bool false, .slice none 0 0, .int .i64 0], 241)] [(n2, A2, m2, c2, z.c)] V7 := ⟨⟨g2, g4, trivial⟩, ⟨h1, trivial⟩, hb⟩
          exact ⟨n2, A2, m2, c2, E.set3 (by omega) (by simp [Free]; omega) _ _ _⟩
        | false =>
          go_wp2
          go_meet
          obtain ⟨⟨g1, g2, g3, g4, _⟩, ⟨h1, h2, _⟩, hb⟩ := HE.out
          exact ⟨n1, A1, m1, c1, ⟨g2, g4, trivial⟩, ⟨h2, trivial⟩, hb⟩
      case rest =>
        obtain ⟨n, A, m, cc, E⟩ := hcut
        replace HE := Lib.hid E
        clear E
        rw [← HTE.out] at HE
        have hTV := HTV.out
        clear HTV HTE
        generalize (if tc = true then z.c else z.s) = v at *
        generalize turnE q x r p = te at *
        have HTV := Lib.hid hTV
        clear hTV
        go_upto_if 68 with fail
        go_cut [] from 14 (fun wx => ∃ n A m cc, Env w [(b12, #[.bool n, .slice A m cc, .int .i64 te], 241), (w.heap.size + 1, #[.bool false, .slice none 0 0, .int .i64 0], 241)] [(n, A, m, cc, turnV q x r p)] wx)
        case first =>
          by_cases hq : q = 2 ∨ q = 3
          · have hqb : (2 * (q / 2) == 2) = true := by rw [beq_iff_eq]; omega
            have hTV := HTV.out
            rw [if_pos hq] at hTV
            have HT2 := Lib.hid hTV
            clear hTV HTV hq
            have e0 : wc.cell? ⟨b12, 0, none⟩ = some (.bool n) := HE.out.blks.1.at 0
            have e1 : wc.cell? ⟨b12, 1, none⟩ = some (.slice A m cc) := HE.out.blks.1.at 1
            go_wp2_with (go_at_call 219; refine (Neg_calls _ n A m cc v HE.out.wds.1).mono ?_; rintro e V8 ⟨_, rfl, ⟨n8', A8', m8', c8', rfl, hwd8⟩, hb8'⟩; have E8 := (HE.out.below hb8').wd hwd8; have HE8 := Lib.hid E8; have f0 : V8.cell? ⟨b12, 0, none⟩ = some (.bool n) := E8.blks.1.at 0; have f1 : V8.cell? ⟨b12, 1, none⟩ = some (.slice A m cc) := E8.blks.1.at 1; have g0 := E8.blks.1.fr 0; have g1 := E8.blks.1.fr 1; clear E8 hwd8 hb8')
            go_meet
            obtain ⟨hb, ⟨h1, _⟩, hl⟩ := HE8.out
            have E : Env w [(b12, #[.bool n, .slice A m cc, .int .i64 te], 241), (w.heap.size + 1, #[.bool false, .slice none 0 0, .int .i64 0], 241)] [(n8', A8', m8', c8', Num.fit (-v))] V8 := ⟨hb, ⟨h1, trivial⟩, hl⟩
            rw [HT2.out]
            exact ⟨n8', A8', m8', c8', E.set23 (by omega) (by simp [Free]; omega) _ _⟩
          · have hqb : (2 * (q / 2) == 2) = false := by rw [beq_eq_false_iff_ne]; omega
            have hTV := HTV.out
            rw [if_neg hq] at hTV
            have HT2 := Lib.hid hTV
            clear hTV HTV hq
            go_wp2
            go_meet
            rw [HT2.out]
            exact ⟨n, A, m, cc, HE.out⟩
        case rest =>
          obtain ⟨n, A, m, cc, E⟩ := hcut
          replace HE := Lib.hid E
          clear E HTV
          have e0 : wc.cell? ⟨b12, 0, none⟩ = some (.bool n) := HE.out.blks.1.at 0
          have e1 : wc.cell? ⟨b12, 1, none⟩ = some (.slice A m cc) := HE.out.blks.1.at 1
          have e2 : wc.cell? ⟨b12, 2, none⟩ = some (.int .i64 te) := HE.out.blks.1.at 2
          have f0 : wc.cell? ⟨w.heap.size + 1, 0, none⟩ = some (.bool false) := HE.out.blks.2.1.at 0
          have f1 : wc.cell? ⟨w.heap.size + 1, 1, none⟩ = some (.slice none 0 0) := HE.out.blks.2.1.at 1
          have f2 : wc.cell? ⟨w.heap.size + 1, 2, none⟩ = some (.int .i64 0) := HE.out.blks.2.1.at 2
          have g0 := HE.out.blks.2.1.fr 0
          have g1 := HE.out.blks.2.1.fr 1
          have g2 := HE.out.blks.2.1.fr 2
          go_wp2
          have E := HE.out.swap.set3 (by omega) (by simp [Free]; omega) (.bool n) (.slice A m cc) (.int .i64 te)
          have r0 : _ = some (Value.bool n) := E.blks.1.at 0
          have r1 : _ = some (Value.slice A m cc) := E.blks.1.at 1
          have r2 : _ = some (Value.int .i64 te) := E.blks.1.at 2
          refine bodyPost_ret (v := .agg #[.bool n, .slice A m cc, .int .i64 te]) (by simp [results, Tryz.results210, go_sem, r0, r1, r2]) rfl ?_
          exact ⟨n, A, m, cc, rfl, E.wds.1, E.bel⟩

end Go.Proofs.YtilaheplclaokaaGreatDoor
namespace Go.Proofs.YtilaheplclaokaaGreatDoor
open Go.RowKit

theorem tmod_cases (a m : Int) (hm : 0 < m) : (0 ≤ a.tmod m ∧ a.tmod m = a % m) ∨ (a.tmod m < 0 ∧ a.tmod m = a % m - m) := by
  have h0 := Int.emod_nonneg a (show m ≠ 0 by omega)
  have h1 := Int.emod_lt_of_pos a hm
  rw [Int.tmod_eq_emod]
  split
  · left; omega
  · right
    have : ((m.natAbs : Nat) : Int) = m := by omega
    omega

set_option maxHeartbeats 400000 in
theorem norm_calls (w : World) (a : Int) (h0 : -9223372036854775808 ≤ a) (h1 : a < 9223372036854775808) :
    Calls Tryz.prog 83 #[.int .i64 a] w (RetPost (.int .i64 (a % 1296000000000)) w) := by
  have ht := tmod_cases a 1296000000000 (by omega)
  have HT := Lib.hid ht
  clear ht
  go_enter Tryz.func83, Tryz.ntmps83
  go_wp2
  all_goals
    go_ret
    have ht := HT.out
    exact ⟨by congr 2; simp [wrap64]; omega, rfl⟩

set_option maxHeartbeats 400000 in
theorem outside_calls (w : World) (a : Int) :
    Calls Tryz.prog 134 #[.int .i64 a] w (RetPost (.bool (decide (a < -324000000000 ∨ 324000000000 < a))) w) := by
  by_cases h : a < -324000000000
  · rw [decide_eq_true (.inl h)]
    go_enter Tryz.func134, Tryz.ntmps134
    go_wp2
    go_ret
    exact ⟨rfl, rfl⟩
  · by_cases h2 : 324000000000 < a
    · rw [decide_eq_true (.inr h2)]
      go_enter Tryz.func134, Tryz.ntmps134
      go_wp2
      go_ret
      exact ⟨rfl, rfl⟩
    · rw [decide_eq_false (by omega)]
      go_enter Tryz.func134, Tryz.ntmps134
      go_wp2
      go_ret
      exact ⟨rfl, rfl⟩

end Go.Proofs.YtilaheplclaokaaGreatDoor
namespace Go.Proofs.YtilaheplclaokaaGreatDoor
open Go.RowKit Go.Shelf
attribute [local go_sem] Oper.semAt_some

theorem cutBall4 {P : Program} {c : Code} {K : Act → World → Prop} {Q : Exit → Act → World → Prop} {a : Act} {w : World} {F : Nat → Bool → Option Addr → Nat → Nat → World → Prop} (f : Nat → Bool → Option Addr → Nat → Nat → Bool → Option Addr → Nat → Nat → Bool → Option Addr → Nat → Nat → Bool → Option Addr → Nat → Nat → Act)
    (main : (∀ b n0 A0 k0 c0 n1 A1 k1 c1 n2 A2 k2 c2 n3 A3 k3 c3 W, F b n3 A3 k3 c3 W → K (f b n0 A0 k0 c0 n1 A1 k1 c1 n2 A2 k2 c2 n3 A3 k3 c3) W) → c.wp P (Exit.then K Q) a w) (key : ∀ b n0 A0 k0 c0 n1 A1 k1 c1 n2 A2 k2 c2 n3 A3 k3 c3 W, F b n3 A3 k3 c3 W → K (f b n0 A0 k0 c0 n1 A1 k1 c1 n2 A2 k2 c2 n3 A3 k3 c3) W) : c.wp P (Exit.then K Q) a w := main key

set_option maxRecDepth 100000 in
set_option maxHeartbeats 2000000 in
theorem sine_calls (w : World) (a p : Int) (ha0 : -9223372036854775808 ≤ a) (ha1 : a < 9223372036854775808) (hp : 1 ≤ p ∧ p ≤ 1000000) :
    Calls Tryz.prog 156 #[.int .i64 a, .int .i64 p] w (BPost (sineV a p) (sineR a p) w) := by
  have E0 := Lib.hid ((Env.start w).alloc #[.bool false, .slice none 0 0, .int .i64 0] 241)
  obtain ⟨_, hpr0, hpr1⟩ := pi_bounds p
  have CP := Lib.hid fun w' => pi_calls w' p
  have ht := tmod_cases a 1296000000000 (by omega)
  have hn0 := Int.emod_nonneg a (show (1296000000000 : Int) ≠ 0 by omega)
  have hn1 := Int.emod_lt_of_pos a (show (0 : Int) < 1296000000000 by omega)
  have hnA : normA a = a % 1296000000000 := rfl
  rw [← hnA] at ht hn0 hn1
  have HT := Lib.hid ht
  have hTV : sineV a p = turnV (normA a / 324000000000) (Num.fit (piV p * (2 * (normA a % 324000000000))) / 1296000000000) (piR p + 1) p := rfl
  have hTR : sineR a p = turnE (normA a / 324000000000) (Num.fit (piV p * (2 * (normA a % 324000000000))) / 1296000000000) (piR p + 1) p := rfl
  rw [hTV, hTR]
  clear hTV hTR hnA ht
  generalize normA a = d at *
  have hd1 : Int.tmod d 324000000000 = d % 324000000000 := Int.tmod_eq_emod_of_nonneg hn0
  have hd2 : Int.tdiv d 324000000000 = d / 324000000000 := Int.tdiv_eq_ediv_of_nonneg hn0
  have hv1 : IntKind.i64.wrap (2 * (d % 324000000000)) = 2 * (d % 324000000000) := wrap_i64 _ (by omega) (by omega)
  have hv2 : IntKind.i64.wrap (piR p + 1) = piR p + 1 := wrap_i64 _ (by omega) (by omega)
  have HS := Lib.hid fun w' n A m c h => turned_calls w' (d / 324000000000) n A m c (Num.fit (piV p * (2 * (d % 324000000000))) / 1296000000000) (piR p + 1) p (by omega) (by omega) hp ⟨by omega, by omega⟩ h
  generalize turnV (d / 324000000000) (Num.fit (piV p * (2 * (d % 324000000000))) / 1296000000000) (piR p + 1) p = V at *
  generalize turnE (d / 324000000000) (Num.fit (piV p * (2 * (d % 324000000000))) / 1296000000000) (piR p + 1) p = R at *
  generalize piV p = P0 at *
  generalize piR p = R0 at *
  go_enter Tryz.func156, Tryz.ntmps156
  go_upto_if 10 with fail
  go_cut [0] from 7 (fun v wx => v = .int .i64 d ∧ wx = w.alloc (.cells #[.bool false, .slice none 0 0, .int .i64 0] 241))
  case first =>
    by_cases hc : Int.tmod a 1296000000000 < 0
    · have hw : IntKind.i64.wrap (Int.tmod a 1296000000000 + 1296000000000) = d := by
        have := HT.out
        rw [wrap_i64 _ (by omega) (by omega)]
        omega
      go_wp2
      go_meet
      exact ⟨rfl, rfl⟩
    · have hw : Int.tmod a 1296000000000 = d := by have := HT.out; omega
      go_wp2
      go_meet
      exact ⟨rfl, rfl⟩
  case rest =>
    obtain ⟨rfl, rfl⟩ := hcut
    go_wp2_with fail
    go_at_call 206
    refine (CP.out _).mono ?_
    rintro e W1 ⟨n7, A7, k7, c7, rfl, h7, hb1⟩
    have E2 := Lib.hid ((E0.out.below hb1).wd h7)
    clear E0 h7 hb1 CP HT
    go_wp2_with fail
    have E := E2.out.alloc #[.bool n7, .slice A7 k7 c7, .int .i64 R0] 241
    have hb7 : w.heap.size < W1.heap.size := E2.out.blks.1.lt
    clear E2
    generalize W1.alloc (.cells #[.bool n7, .slice A7 k7 c7, .int .i64 R0] 241) = V1 at *
    generalize W1.heap.size = b7 at *
    have HE := Lib.hid E
    clear E W1
    apply cutBall4 (F := fun b8 n8 A8 k8 c8 W => Env w [(b8, #[.bool n8, .slice A8 k8 c8, .int .i64 (R0 + 1)], 241), (b7, #[.bool n7, .slice A7 k7 c7, .int .i64 R0], 241), (w.heap.size, #[.bool false, .slice none 0 0, .int .i64 0], 241)] [(n8, A8, k8, c8, Num.fit (P0 * (2 * (d % 324000000000))) / 1296000000000), (n7, A7, k7, c7, P0)] W ∧ b7 < b8)
    · intro key
      refine region_start (S := fun W' => Env w [(b7, #[.bool n7, .slice A7 k7 c7, .int .i64 R0], 241), (w.heap.size, #[.bool false, .slice none 0 0, .int .i64 0], 241)] [(n7, A7, k7, c7, P0)] W') (by kernel_rfl) ?_
      intro W hW
      have E := HE.out.drew
      rw [← hW] at E
      obtain ⟨B, hBe⟩ : ∃ B, B = W.heap.size := ⟨_, rfl⟩
      have hB : B ≤ W.heap.size := Nat.le_of_eq hBe
      have hBw : b7 < B := by rw [hBe]; exact E.blks.1.lt
      have hbel := E.bel
      clear hBe hW
      have hS := E
      refine wpAnyH_take (i := 0) (v := .pointer (some ⟨b7, 0, none⟩)) rfl (by kernel_rfl) (by kernel_rfl) (by kernel_rfl) (fun _ _ _ h => h) (.inl ⟨rfl, fun w0 hw0 => ?a0⟩) hS ?_
      case a0 =>
        have g := hw0.blks; have e0 : w0.cell? ⟨b7, 0, none⟩ = some (.bool n7) := g.1.at 0; have e1 : w0.cell? ⟨b7, 1, none⟩ = some (.slice A7 k7 c7) := g.1.at 1; have e2 : w0.cell? ⟨b7, 2, none⟩ = some (.int .i64 R0) := g.1.at 2
        go_simp
      refine wpAnyH_take (i := 1) (v := .agg #[.bool n7, .slice A7 k7 c7]) rfl (by kernel_rfl) (by kernel_rfl) (by kernel_rfl) (fun _ _ _ h => h) (.inl ⟨rfl, fun w0 hw0 => ?a1⟩) hS ?_
      case a1 =>
        have g := hw0.blks; have e0 : w0.cell? ⟨b7, 0, none⟩ = some (.bool n7) := g.1.at 0; have e1 : w0.cell? ⟨b7, 1, none⟩ = some (.slice A7 k7 c7) := g.1.at 1; have e2 : w0.cell? ⟨b7, 2, none⟩ = some (.int .i64 R0) := g.1.at 2
        go_simp
      refine wpAnyH_take (i := 2) (v := .int .i64 d) rfl (by kernel_rfl) (by kernel_rfl) (by kernel_rfl) (fun _ _ _ h => h) (.inl ⟨rfl, fun w0 hw0 => ?a2⟩) hS ?_
      case a2 =>
        have g := hw0.blks; have e0 : w0.cell? ⟨b7, 0, none⟩ = some (.bool n7) := g.1.at 0; have e1 : w0.cell? ⟨b7, 1, none⟩ = some (.slice A7 k7 c7) := g.1.at 1; have e2 : w0.cell? ⟨b7, 2, none⟩ = some (.int .i64 R0) := g.1.at 2
        go_simp
      refine wpAnyH_take (i := 3) (v := .int .i64 (d % 324000000000)) rfl (by kernel_rfl) (by kernel_rfl) (by kernel_rfl) (fun _ _ _ h => h) (.inl ⟨rfl, fun w0 hw0 => ?a3⟩) hS ?_
      case a3 =>
        have g := hw0.blks; have e0 : w0.cell? ⟨b7, 0, none⟩ = some (.bool n7) := g.1.at 0; have e1 : w0.cell? ⟨b7, 1, none⟩ = some (.slice A7 k7 c7) := g.1.at 1; have e2 : w0.cell? ⟨b7, 2, none⟩ = some (.int .i64 R0) := g.1.at 2
        go_simp
      refine wpAnyH_take (i := 4) (v := .int .i64 (2 * (d % 324000000000))) rfl (by kernel_rfl) (by kernel_rfl) (by kernel_rfl) (fun _ _ _ h => h) (.inl ⟨rfl, fun w0 hw0 => ?a4⟩) hS ?_
      case a4 =>
        have g := hw0.blks; have e0 : w0.cell? ⟨b7, 0, none⟩ = some (.bool n7) := g.1.at 0; have e1 : w0.cell? ⟨b7, 1, none⟩ = some (.slice A7 k7 c7) := g.1.at 1; have e2 : w0.cell? ⟨b7, 2, none⟩ = some (.int .i64 R0) := g.1.at 2
        go_simp
      refine wpAnyH_take (i := 9) (v := .pointer (some ⟨b7, 2, none⟩)) rfl (by kernel_rfl) (by kernel_rfl) (by kernel_rfl) (fun _ _ _ h => h) (.inl ⟨rfl, fun w0 hw0 => ?a9⟩) hS ?_
      case a9 =>
        have g := hw0.blks; have e0 : w0.cell? ⟨b7, 0, none⟩ = some (.bool n7) := g.1.at 0; have e1 : w0.cell? ⟨b7, 1, none⟩ = some (.slice A7 k7 c7) := g.1.at 1; have e2 : w0.cell? ⟨b7, 2, none⟩ = some (.int .i64 R0) := g.1.at 2
        go_simp
      refine wpAnyH_take (i := 10) (v := .int .i64 R0) rfl (by kernel_rfl) (by kernel_rfl) (by kernel_rfl) (fun _ _ _ h => h) (.inl ⟨rfl, fun w0 hw0 => ?a10⟩) hS ?_
      case a10 =>
        have g := hw0.blks; have e0 : w0.cell? ⟨b7, 0, none⟩ = some (.bool n7) := g.1.at 0; have e1 : w0.cell? ⟨b7, 1, none⟩ = some (.slice A7 k7 c7) := g.1.at 1; have e2 : w0.cell? ⟨b7, 2, none⟩ = some (.int .i64 R0) := g.1.at 2
        go_simp
      refine wpAnyH_take (i := 11) (v := .int .i64 (R0 + 1)) rfl (by kernel_rfl) (by kernel_rfl) (by kernel_rfl) (fun _ _ _ h => h) (.inl ⟨rfl, fun w0 hw0 => ?a11⟩) hS ?_
      case a11 =>
        have g := hw0.blks; have e0 : w0.cell? ⟨b7, 0, none⟩ = some (.bool n7) := g.1.at 0; have e1 : w0.cell? ⟨b7, 1, none⟩ = some (.slice A7 k7 c7) := g.1.at 1; have e2 : w0.cell? ⟨b7, 2, none⟩ = some (.int .i64 R0) := g.1.at 2
        go_simp
      clear hS
      refine wpAnyH_all (rs := [5, 13]) (by kernel_rfl) (by simp) ?_
      intro i0 hi0
      have hi1 : i0 = 5 ∨ i0 = 13 := by simpa using hi0
      clear hi0
      rcases hi1 with rfl | rfl
      · refine wpOp_plain rfl rfl fun K' hK' => ?_
        go_simp
        refine (num_calls _ (2 * (d % 324000000000)) (by omega) (by omega)).mono ?_
        rintro e W ⟨na, Aa, ka, ca, rfl, hna, hstep⟩
        have E := E.below hstep
        have hbel := hbel.trans (hstep.mono hbel.size)
        have hB := Nat.le_trans hB hstep.size
        refine hK' _ _ ⟨E, ?_⟩
        clear hK' K' hstep
        refine wpAnyH_all (rs := [6, 13]) (by kernel_rfl) (by simp) ?_
        intro i0 hi0
        have hi1 : i0 = 6 ∨ i0 = 13 := by simpa using hi0
        clear hi0
        rcases hi1 with rfl | rfl
        · refine wpOp_plain rfl rfl fun K' hK' => ?_
          go_simp
          refine (tmul_calls _ n7 na A7 Aa k7 ka c7 ca P0 (2 * (d % 324000000000)) E.wds.1 hna).mono ?_
          rintro e W ⟨nb, Ab, kb, cb, rfl, hnb, hstep⟩
          have E := E.below hstep
          have hna := hna.below hstep
          have hbel := hbel.trans (hstep.mono hbel.size)
          have hB := Nat.le_trans hB hstep.size
          refine hK' _ _ ⟨E, ?_⟩
          clear hK' K' hstep
          refine wpAnyH_all (rs := [7, 13]) (by kernel_rfl) (by simp) ?_
          intro i0 hi0
          have hi1 : i0 = 7 ∨ i0 = 13 := by simpa using hi0
          clear hi0
          rcases hi1 with rfl | rfl
          · refine wpOp_plain rfl rfl fun K' hK' => ?_
            go_simp
            refine (num_calls _ 1296000000000 (by omega) (by omega)).mono ?_
            rintro e W ⟨nc, Ac, kc, cc, rfl, hnc, hstep⟩
            have E := E.below hstep
            have hna := hna.below hstep
            have hnb := hnb.below hstep
            have hbel := hbel.trans (hstep.mono hbel.size)
            have hB := Nat.le_trans hB hstep.size
            refine hK' _ _ ⟨E, ?_⟩
            clear hK' K' hstep
            refine wpAnyH_all (rs := [8, 13]) (by kernel_rfl) (by simp) ?_
            intro i0 hi0
            have hi1 : i0 = 8 ∨ i0 = 13 := by simpa using hi0
            clear hi0
            rcases hi1 with rfl | rfl
            · refine wpOp_plain rfl rfl fun K' hK' => ?_
              go_simp
              refine (tdiv_calls _ nb nc Ab Ac kb kc cb cc (Num.fit (P0 * (2 * (d % 324000000000)))) 1296000000000 hnb hnc (by omega)).mono ?_
              rintro e W ⟨nd, Ad, kd, cd, rfl, hnd, hstep⟩
              have E := E.below hstep
              have hna := hna.below hstep
              have hnb := hnb.below hstep
              have hnc := hnc.below hstep
              have hbel := hbel.trans (hstep.mono hbel.size)
              have hB := Nat.le_trans hB hstep.size
              refine hK' _ _ ⟨E, ?_⟩
              clear hK' K' hstep
              have hS := E
              refine wpAnyH_take (i := 12) (v := .agg #[.bool nd, .slice Ad kd cd, .int .i64 (R0 + 1)]) rfl (by kernel_rfl) (by kernel_rfl) (by kernel_rfl) (fun _ _ _ h => h) (.inl ⟨rfl, fun w0 hw0 => ?a12⟩) hS ?_
              case a12 =>
                have g := hw0.blks; have e0 : w0.cell? ⟨b7, 0, none⟩ = some (.bool n7) := g.1.at 0; have e1 : w0.cell? ⟨b7, 1, none⟩ = some (.slice A7 k7 c7) := g.1.at 1; have e2 : w0.cell? ⟨b7, 2, none⟩ = some (.int .i64 R0) := g.1.at 2
                go_simp
              clear hS
              refine wpAnyH_all (rs := [13]) (by kernel_rfl) (by simp) ?_
              intro i0 hi0
              obtain rfl : i0 = 13 := by simpa using hi0
              refine wpOp_plain rfl rfl fun K' hK' => ?_
              go_simp
              have hal := (Below.refl W.heap.size W).alloc (Nat.le_refl _) (.cells #[.bool false, .slice none 0 0, .int .i64 0] 241)
              have h5 := Blk.new W #[.bool false, .slice none 0 0, .int .i64 0] 241
              obtain ⟨b5, hb5⟩ : ∃ b5, b5 = W.heap.size := ⟨_, rfl⟩
              rw [← hb5] at h5 ⊢
              have hb5B : B ≤ b5 := by omega
              have E := E.below hal
              have hna := hna.below hal
              have hnb := hnb.below hal
              have hnc := hnc.below hal
              have hnd := hnd.below hal
              have hbel := hbel.trans (hal.mono hbel.size)
              have hB := Nat.le_trans hB hal.size
              clear hb5 hal
              generalize W.alloc (.cells #[.bool false, .slice none 0 0, .int .i64 0] 241) = W at *
              refine hK' _ _ ⟨E, ?_⟩
              clear hK' K'
              have f0 : W.cell? ⟨b5, 0, none⟩ = some (.bool false) := h5.at 0
              have g0 := h5.fr 0
              have f1 : W.cell? ⟨b5, 1, none⟩ = some (.slice none 0 0) := h5.at 1
              have g1 := h5.fr 1
              have f2 : W.cell? ⟨b5, 2, none⟩ = some (.int .i64 0) := h5.at 2
              have g2 := h5.fr 2
              refine wpAnyH_all (rs := [14]) (by kernel_rfl) (by simp) ?_
              intro i0 hi0
              obtain rfl : i0 = 14 := by simpa using hi0
              refine wpOp_plain rfl rfl fun K' hK' => ?_
              go_simp
              exact hK' _ _ ⟨((E.blk h5).set3 (by omega) (by simp [Free]; omega) _ _ _).drop, wpAnyH_done (by kernel_rfl) (key b5 na Aa ka ca nb Ab kb cb nc Ac kc cc nd Ad kd cd _ ⟨((E.blk h5).set3 (by omega) (by simp [Free]; omega) _ _ _).wd (hnd.set3 h5 _ _ _), by omega⟩) _⟩
            · refine wpOp_plain rfl rfl fun K' hK' => ?_
              go_simp
              have hal := (Below.refl W.heap.size W).alloc (Nat.le_refl _) (.cells #[.bool false, .slice none 0 0, .int .i64 0] 241)
              have h5 := Blk.new W #[.bool false, .slice none 0 0, .int .i64 0] 241
              obtain ⟨b5, hb5⟩ : ∃ b5, b5 = W.heap.size := ⟨_, rfl⟩
              rw [← hb5] at h5 ⊢
              have hb5B : B ≤ b5 := by omega
              have E := E.below hal
              have hna := hna.below hal
              have hnb := hnb.below hal
              have hnc := hnc.below hal
              have hbel := hbel.trans (hal.mono hbel.size)
              have hB := Nat.le_trans hB hal.size
              clear hb5 hal
              generalize W.alloc (.cells #[.bool false, .slice none 0 0, .int .i64 0] 241) = W at *
              refine hK' _ _ ⟨E, ?_⟩
              clear hK' K'
              refine wpAnyH_all (rs := [8]) (by kernel_rfl) (by simp) ?_
              intro i0 hi0
              obtain rfl : i0 = 8 := by simpa using hi0
              refine wpOp_plain rfl rfl fun K' hK' => ?_
              go_simp
              refine (tdiv_calls _ nb nc Ab Ac kb kc cb cc (Num.fit (P0 * (2 * (d % 324000000000)))) 1296000000000 hnb hnc (by omega)).mono ?_
              rintro e W ⟨nd, Ad, kd, cd, rfl, hnd, hstep⟩
              have E := E.below hstep
              have hna := hna.below hstep
              have hnb := hnb.below hstep
              have hnc := hnc.below hstep
              have h5 := h5.below hstep
              have hbel := hbel.trans (hstep.mono hbel.size)
              have hB := Nat.le_trans hB hstep.size
              refine hK' _ _ ⟨E, ?_⟩
              clear hK' K' hstep
              have hS := E
              refine wpAnyH_take (i := 12) (v := .agg #[.bool nd, .slice Ad kd cd, .int .i64 (R0 + 1)]) rfl (by kernel_rfl) (by kernel_rfl) (by kernel_rfl) (fun _ _ _ h => h) (.inl ⟨rfl, fun w0 hw0 => ?a12⟩) hS ?_
              case a12 =>
                have g := hw0.blks; have e0 : w0.cell? ⟨b7, 0, none⟩ = some (.bool n7) := g.1.at 0; have e1 : w0.cell? ⟨b7, 1, none⟩ = some (.slice A7 k7 c7) := g.1.at 1; have e2 : w0.cell? ⟨b7, 2, none⟩ = some (.int .i64 R0) := g.1.at 2
                go_simp
              clear hS
              have f0 : W.cell? ⟨b5, 0, none⟩ = some (.bool false) := h5.at 0
              have g0 := h5.fr 0
              have f1 : W.cell? ⟨b5, 1, none⟩ = some (.slice none 0 0) := h5.at 1
              have g1 := h5.fr 1
              have f2 : W.cell? ⟨b5, 2, none⟩ = some (.int .i64 0) := h5.at 2
              have g2 := h5.fr 2
              refine wpAnyH_all (rs := [14]) (by kernel_rfl) (by simp) ?_
              intro i0 hi0
              obtain rfl : i0 = 14 := by simpa using hi0
              refine wpOp_plain rfl rfl fun K' hK' => ?_
              go_simp
              exact hK' _ _ ⟨((E.blk h5).set3 (by omega) (by simp [Free]; omega) _ _ _).drop, wpAnyH_done (by kernel_rfl) (key b5 na Aa ka ca nb Ab kb cb nc Ac kc cc nd Ad kd cd _ ⟨((E.blk h5).set3 (by omega) (by simp [Free]; omega) _ _ _).wd (hnd.set3 h5 _ _ _), by omega⟩) _⟩
          · refine wpOp_plain rfl rfl fun K' hK' => ?_
            go_simp
            have hal := (Below.refl W.heap.size W).alloc (Nat.le_refl _) (.cells #[.bool false, .slice none 0 0, .int .i64 0] 241)
            have h5 := Blk.new W #[.bool false, .slice none 0 0, .int .i64 0] 241
            obtain ⟨b5, hb5⟩ : ∃ b5, b5 = W.heap.size := ⟨_, rfl⟩
            rw [← hb5] at h5 ⊢
            have hb5B : B ≤ b5 := by omega
            have E := E.below hal
            have hna := hna.below hal
            have hnb := hnb.below hal
            have hbel := hbel.trans (hal.mono hbel.size)
            have hB := Nat.le_trans hB hal.size
            clear hb5 hal
            generalize W.alloc (.cells #[.bool false, .slice none 0 0, .int .i64 0] 241) = W at *
            refine hK' _ _ ⟨E, ?_⟩
            clear hK' K'
            refine wpAnyH_all (rs := [7]) (by kernel_rfl) (by simp) ?_
            intro i0 hi0
            obtain rfl : i0 = 7 := by simpa using hi0
            refine wpOp_plain rfl rfl fun K' hK' => ?_
            go_simp
            refine (num_calls _ 1296000000000 (by omega) (by omega)).mono ?_
            rintro e W ⟨nc, Ac, kc, cc, rfl, hnc, hstep⟩
            have E := E.below hstep
            have hna := hna.below hstep
            have hnb := hnb.below hstep
            have h5 := h5.below hstep
            have hbel := hbel.trans (hstep.mono hbel.size)
            have hB := Nat.le_trans hB hstep.size
            refine hK' _ _ ⟨E, ?_⟩
            clear hK' K' hstep
            refine wpAnyH_all (rs := [8]) (by kernel_rfl) (by simp) ?_
            intro i0 hi0
            obtain rfl : i0 = 8 := by simpa using hi0
            refine wpOp_plain rfl rfl fun K' hK' => ?_
            go_simp
            refine (tdiv_calls _ nb nc Ab Ac kb kc cb cc (Num.fit (P0 * (2 * (d % 324000000000)))) 1296000000000 hnb hnc (by omega)).mono ?_
            rintro e W ⟨nd, Ad, kd, cd, rfl, hnd, hstep⟩
            have E := E.below hstep
            have hna := hna.below hstep
            have hnb := hnb.below hstep
            have h5 := h5.below hstep
            have hnc := hnc.below hstep
            have hbel := hbel.trans (hstep.mono hbel.size)
            have hB := Nat.le_trans hB hstep.size
            refine hK' _ _ ⟨E, ?_⟩
            clear hK' K' hstep
            have hS := E
            refine wpAnyH_take (i := 12) (v := .agg #[.bool nd, .slice Ad kd cd, .int .i64 (R0 + 1)]) rfl (by kernel_rfl) (by kernel_rfl) (by kernel_rfl) (fun _ _ _ h => h) (.inl ⟨rfl, fun w0 hw0 => ?a12⟩) hS ?_
            case a12 =>
              have g := hw0.blks; have e0 : w0.cell? ⟨b7, 0, none⟩ = some (.bool n7) := g.1.at 0; have e1 : w0.cell? ⟨b7, 1, none⟩ = some (.slice A7 k7 c7) := g.1.at 1; have e2 : w0.cell? ⟨b7, 2, none⟩ = some (.int .i64 R0) := g.1.at 2
              go_simp
            clear hS
            have f0 : W.cell? ⟨b5, 0, none⟩ = some (.bool false) := h5.at 0
            have g0 := h5.fr 0
            have f1 : W.cell? ⟨b5, 1, none⟩ = some (.slice none 0 0) := h5.at 1
            have g1 := h5.fr 1
            have f2 : W.cell? ⟨b5, 2, none⟩ = some (.int .i64 0) := h5.at 2
            have g2 := h5.fr 2
            refine wpAnyH_all (rs := [14]) (by kernel_rfl) (by simp) ?_
            intro i0 hi0
            obtain rfl : i0 = 14 := by simpa using hi0
            refine wpOp_plain rfl rfl fun K' hK' => ?_
            go_simp
            exact hK' _ _ ⟨((E.blk h5).set3 (by omega) (by simp [Free]; omega) _ _ _).drop, wpAnyH_done (by kernel_rfl) (key b5 na Aa ka ca nb Ab kb cb nc Ac kc cc nd Ad kd cd _ ⟨((E.blk h5).set3 (by omega) (by simp [Free]; omega) _ _ _).wd (hnd.set3 h5 _ _ _), by omega⟩) _⟩
        · refine wpOp_plain rfl rfl fun K' hK' => ?_
          go_simp
          have hal := (Below.refl W.heap.size W).alloc (Nat.le_refl _) (.cells #[.bool false, .slice none 0 0, .int .i64 0] 241)
          have h5 := Blk.new W #[.bool false, .slice none 0 0, .int .i64 0] 241
          obtain ⟨b5, hb5⟩ : ∃ b5, b5 = W.heap.size := ⟨_, rfl⟩
          rw [← hb5] at h5 ⊢
          have hb5B : B ≤ b5 := by omega
          have E := E.below hal
          have hna := hna.below hal
          have hbel := hbel.trans (hal.mono hbel.size)
          have hB := Nat.le_trans hB hal.size
          clear hb5 hal
          generalize W.alloc (.cells #[.bool false, .slice none 0 0, .int .i64 0] 241) = W at *
          refine hK' _ _ ⟨E, ?_⟩
          clear hK' K'
          refine wpAnyH_all (rs := [6]) (by kernel_rfl) (by simp) ?_
          intro i0 hi0
          obtain rfl : i0 = 6 := by simpa using hi0
          refine wpOp_plain rfl rfl fun K' hK' => ?_
          go_simp
          refine (tmul_calls _ n7 na A7 Aa k7 ka c7 ca P0 (2 * (d % 324000000000)) E.wds.1 hna).mono ?_
          rintro e W ⟨nb, Ab, kb, cb, rfl, hnb, hstep⟩
          have E := E.below hstep
          have hna := hna.below hstep
          have h5 := h5.below hstep
          have hbel := hbel.trans (hstep.mono hbel.size)
          have hB := Nat.le_trans hB hstep.size
          refine hK' _ _ ⟨E, ?_⟩
          clear hK' K' hstep
          refine wpAnyH_all (rs := [7]) (by kernel_rfl) (by simp) ?_
          intro i0 hi0
          obtain rfl : i0 = 7 := by simpa using hi0
          refine wpOp_plain rfl rfl fun K' hK' => ?_
          go_simp
          refine (num_calls _ 1296000000000 (by omega) (by omega)).mono ?_
          rintro e W ⟨nc, Ac, kc, cc, rfl, hnc, hstep⟩
          have E := E.below hstep
          have hna := hna.below hstep
          have h5 := h5.below hstep
          have hnb := hnb.below hstep
          have hbel := hbel.trans (hstep.mono hbel.size)
          have hB := Nat.le_trans hB hstep.size
          refine hK' _ _ ⟨E, ?_⟩
          clear hK' K' hstep
          refine wpAnyH_all (rs := [8]) (by kernel_rfl) (by simp) ?_
          intro i0 hi0
          obtain rfl : i0 = 8 := by simpa using hi0
          refine wpOp_plain rfl rfl fun K' hK' => ?_
          go_simp
          refine (tdiv_calls _ nb nc Ab Ac kb kc cb cc (Num.fit (P0 * (2 * (d % 324000000000)))) 1296000000000 hnb hnc (by omega)).mono ?_
          rintro e W ⟨nd, Ad, kd, cd, rfl, hnd, hstep⟩
          have E := E.below hstep
          have hna := hna.below hstep
          have h5 := h5.below hstep
          have hnb := hnb.below hstep
          have hnc := hnc.below hstep
          have hbel := hbel.trans (hstep.mono hbel.size)
          have hB := Nat.le_trans hB hstep.size
          refine hK' _ _ ⟨E, ?_⟩
          clear hK' K' hstep
          have hS := E
          refine wpAnyH_take (i := 12) (v := .agg #[.bool nd, .slice Ad kd cd, .int .i64 (R0 + 1)]) rfl (by kernel_rfl) (by kernel_rfl) (by kernel_rfl) (fun _ _ _ h => h) (.inl ⟨rfl, fun w0 hw0 => ?a12⟩) hS ?_
          case a12 =>
            have g := hw0.blks; have e0 : w0.cell? ⟨b7, 0, none⟩ = some (.bool n7) := g.1.at 0; have e1 : w0.cell? ⟨b7, 1, none⟩ = some (.slice A7 k7 c7) := g.1.at 1; have e2 : w0.cell? ⟨b7, 2, none⟩ = some (.int .i64 R0) := g.1.at 2
            go_simp
          clear hS
          have f0 : W.cell? ⟨b5, 0, none⟩ = some (.bool false) := h5.at 0
          have g0 := h5.fr 0
          have f1 : W.cell? ⟨b5, 1, none⟩ = some (.slice none 0 0) := h5.at 1
          have g1 := h5.fr 1
          have f2 : W.cell? ⟨b5, 2, none⟩ = some (.int .i64 0) := h5.at 2
          have g2 := h5.fr 2
          refine wpAnyH_all (rs := [14]) (by kernel_rfl) (by simp) ?_
          intro i0 hi0
          obtain rfl : i0 = 14 := by simpa using hi0
          refine wpOp_plain rfl rfl fun K' hK' => ?_
          go_simp
          exact hK' _ _ ⟨((E.blk h5).set3 (by omega) (by simp [Free]; omega) _ _ _).drop, wpAnyH_done (by kernel_rfl) (key b5 na Aa ka ca nb Ab kb cb nc Ac kc cc nd Ad kd cd _ ⟨((E.blk h5).set3 (by omega) (by simp [Free]; omega) _ _ _).wd (hnd.set3 h5 _ _ _), by omega⟩) _⟩
      · refine wpOp_plain rfl rfl fun K' hK' => ?_
        go_simp
        have hal := (Below.refl W.heap.size W).alloc (Nat.le_refl _) (.cells #[.bool false, .slice none 0 0, .int .i64 0] 241)
        have h5 := Blk.new W #[.bool false, .slice none 0 0, .int .i64 0] 241
        obtain ⟨b5, hb5⟩ : ∃ b5, b5 = W.heap.size := ⟨_, rfl⟩
        rw [← hb5] at h5 ⊢
        have hb5B : B ≤ b5 := by omega
        have E := E.below hal
        have hbel := hbel.trans (hal.mono hbel.size)
        have hB := Nat.le_trans hB hal.size
        clear hb5 hal
        generalize W.alloc (.cells #[.bool false, .slice none 0 0, .int .i64 0] 241) = W at *
        refine hK' _ _ ⟨E, ?_⟩
        clear hK' K'
        refine wpAnyH_all (rs := [5]) (by kernel_rfl) (by simp) ?_
        intro i0 hi0
        obtain rfl : i0 = 5 := by simpa using hi0
        refine wpOp_plain rfl rfl fun K' hK' => ?_
        go_simp
        refine (num_calls _ (2 * (d % 324000000000)) (by omega) (by omega)).mono ?_
        rintro e W ⟨na, Aa, ka, ca, rfl, hna, hstep⟩
        have E := E.below hstep
        have h5 := h5.below hstep
        have hbel := hbel.trans (hstep.mono hbel.size)
        have hB := Nat.le_trans hB hstep.size
        refine hK' _ _ ⟨E, ?_⟩
        clear hK' K' hstep
        refine wpAnyH_all (rs := [6]) (by kernel_rfl) (by simp) ?_
        intro i0 hi0
        obtain rfl : i0 = 6 := by simpa using hi0
        refine wpOp_plain rfl rfl fun K' hK' => ?_
        go_simp
        refine (tmul_calls _ n7 na A7 Aa k7 ka c7 ca P0 (2 * (d % 324000000000)) E.wds.1 hna).mono ?_
        rintro e W ⟨nb, Ab, kb, cb, rfl, hnb, hstep⟩
        have E := E.below hstep
        have h5 := h5.below hstep
        have hna := hna.below hstep
        have hbel := hbel.trans (hstep.mono hbel.size)
        have hB := Nat.le_trans hB hstep.size
        refine hK' _ _ ⟨E, ?_⟩
        clear hK' K' hstep
        refine wpAnyH_all (rs := [7]) (by kernel_rfl) (by simp) ?_
        intro i0 hi0
        obtain rfl : i0 = 7 := by simpa using hi0
        refine wpOp_plain rfl rfl fun K' hK' => ?_
        go_simp
        refine (num_calls _ 1296000000000 (by omega) (by omega)).mono ?_
        rintro e W ⟨nc, Ac, kc, cc, rfl, hnc, hstep⟩
        have E := E.below hstep
        have h5 := h5.below hstep
        have hna := hna.below hstep
        have hnb := hnb.below hstep
        have hbel := hbel.trans (hstep.mono hbel.size)
        have hB := Nat.le_trans hB hstep.size
        refine hK' _ _ ⟨E, ?_⟩
        clear hK' K' hstep
        refine wpAnyH_all (rs := [8]) (by kernel_rfl) (by simp) ?_
        intro i0 hi0
        obtain rfl : i0 = 8 := by simpa using hi0
        refine wpOp_plain rfl rfl fun K' hK' => ?_
        go_simp
        refine (tdiv_calls _ nb nc Ab Ac kb kc cb cc (Num.fit (P0 * (2 * (d % 324000000000)))) 1296000000000 hnb hnc (by omega)).mono ?_
        rintro e W ⟨nd, Ad, kd, cd, rfl, hnd, hstep⟩
        have E := E.below hstep
        have h5 := h5.below hstep
        have hna := hna.below hstep
        have hnb := hnb.below hstep
        have hnc := hnc.below hstep
        have hbel := hbel.trans (hstep.mono hbel.size)
        have hB := Nat.le_trans hB hstep.size
        refine hK' _ _ ⟨E, ?_⟩
        clear hK' K' hstep
        have hS := E
        refine wpAnyH_take (i := 12) (v := .agg #[.bool nd, .slice Ad kd cd, .int .i64 (R0 + 1)]) rfl (by kernel_rfl) (by kernel_rfl) (by kernel_rfl) (fun _ _ _ h => h) (.inl ⟨rfl, fun w0 hw0 => ?a12⟩) hS ?_
        case a12 =>
          have g := hw0.blks; have e0 : w0.cell? ⟨b7, 0, none⟩ = some (.bool n7) := g.1.at 0; have e1 : w0.cell? ⟨b7, 1, none⟩ = some (.slice A7 k7 c7) := g.1.at 1; have e2 : w0.cell? ⟨b7, 2, none⟩ = some (.int .i64 R0) := g.1.at 2
          go_simp
        clear hS
        have f0 : W.cell? ⟨b5, 0, none⟩ = some (.bool false) := h5.at 0
        have g0 := h5.fr 0
        have f1 : W.cell? ⟨b5, 1, none⟩ = some (.slice none 0 0) := h5.at 1
        have g1 := h5.fr 1
        have f2 : W.cell? ⟨b5, 2, none⟩ = some (.int .i64 0) := h5.at 2
        have g2 := h5.fr 2
        refine wpAnyH_all (rs := [14]) (by kernel_rfl) (by simp) ?_
        intro i0 hi0
        obtain rfl : i0 = 14 := by simpa using hi0
        refine wpOp_plain rfl rfl fun K' hK' => ?_
        go_simp
        exact hK' _ _ ⟨((E.blk h5).set3 (by omega) (by simp [Free]; omega) _ _ _).drop, wpAnyH_done (by kernel_rfl) (key b5 na Aa ka ca nb Ab kb cb nc Ac kc cc nd Ad kd cd _ ⟨((E.blk h5).set3 (by omega) (by simp [Free]; omega) _ _ _).wd (hnd.set3 h5 _ _ _), by omega⟩) _⟩
    rintro b8 _ _ _ _ _ _ _ _ _ _ _ _ n8 A8 k8 c8 V3 ⟨E, hb8⟩
    replace HE := Lib.hid E
    clear E
    have f0 : V3.cell? ⟨b8, 0, none⟩ = some (.bool n8) := HE.out.blks.1.at 0
    have f1 : V3.cell? ⟨b8, 1, none⟩ = some (.slice A8 k8 c8) := HE.out.blks.1.at 1
    have f2 : V3.cell? ⟨b8, 2, none⟩ = some (.int .i64 (R0 + 1)) := HE.out.blks.1.at 2
    go_wp2_with fail
    go_at_call 210
    refine (HS.out _ n8 A8 k8 c8 HE.out.wds.1).mono ?_
    rintro e V4 ⟨n9, A9, k9, c9, rfl, h9, hb4⟩
    replace HE := Lib.hid ((HE.out.below hb4).wd h9)
    clear f0 f1 f2 h9 hb4
    have f0 : V4.cell? ⟨w.heap.size, 0, none⟩ = some (.bool false) := HE.out.blks.2.2.1.at 0
    have f1 : V4.cell? ⟨w.heap.size, 1, none⟩ = some (.slice none 0 0) := HE.out.blks.2.2.1.at 1
    have f2 : V4.cell? ⟨w.heap.size, 2, none⟩ = some (.int .i64 0) := HE.out.blks.2.2.1.at 2
    have g0 := HE.out.blks.2.2.1.fr 0
    have g1 := HE.out.blks.2.2.1.fr 1
    have g2 := HE.out.blks.2.2.1.fr 2
    go_wp2
    have E : Env w [(w.heap.size, #[.bool false, .slice none 0 0, .int .i64 0], 241)] [(n9, A9, k9, c9, V)] V4 := by
      obtain ⟨⟨_, _, g3, _⟩, ⟨h1, _⟩, hb⟩ := HE.out
      exact ⟨⟨g3, trivial⟩, ⟨h1, trivial⟩, hb⟩
    replace E := E.set3 (Nat.le_refl _) (by simp [Free]) (.bool n9) (.slice A9 k9 c9) (.int .i64 R)
    have r0 : _ = some (Value.bool n9) := E.blks.1.at 0
    have r1 : _ = some (Value.slice A9 k9 c9) := E.blks.1.at 1
    have r2 : _ = some (Value.int .i64 R) := E.blks.1.at 2
    refine bodyPost_ret (v := .agg #[.bool n9, .slice A9 k9 c9, .int .i64 R]) (by simp [results, Tryz.results156, go_sem, r0, r1, r2]) rfl ?_
    exact ⟨n9, A9, k9, c9, rfl, E.wds.1, E.bel⟩

end Go.Proofs.YtilaheplclaokaaGreatDoor
namespace Go.Proofs.YtilaheplclaokaaGreatDoor
open Go.RowKit Go.Shelf
attribute [local go_sem] Oper.semAt_some

/-- Whether a ball lies within one unit, and which. -/
def flo (v r p : Int) : Int := if endL v r p = endH v r p then endL v r p else 0
def flb (v r p : Int) : Bool := decide (endL v r p = endH v r p)


set_option maxRecDepth 100000 in
set_option maxHeartbeats 2000000 in
theorem floor_calls (w : World) (nx : Bool) (Ax : Option Addr) (mx cx : Nat) (v r p : Int) (hp : 1 ≤ p ∧ p ≤ 1000000) (hr : 0 ≤ r ∧ r ≤ 1000000000000) (hx : WD w nx Ax mx cx v) (hcl : endL v r p = endH v r p → -1099511627776 ≤ endL v r p ∧ endL v r p < 1099511627776) :
    Calls Tryz.prog 211 #[.agg #[.bool nx, .slice Ax mx cx, .int .i64 r], .int .i64 p] w (OkPost (.tuple #[.int .i64 (flo v r p), .bool (flb v r p)]) w) := by
  have E0 := ((Env.start w).alloc #[.bool nx, .slice Ax mx cx, .int .i64 r] 241).alloc #[.bool false, .slice none 0 0, .bool false, .slice none 0 0] 312
  simp only [World.size_alloc] at E0
  have E1 := Lib.hid (((E0.wd (hx.below E0.bel)).wd (WD.zero _)).wd (WD.zero _))
  have HCL := Lib.hid hcl
  have hw1 : IntKind.i64.wrap (-r) = -r := wrap_i64 _ (by omega) (by omega)
  have hw2 : IntKind.i64.wrap (40 - p) = 40 - p := wrap_i64 _ (by omega) (by omega)
  have hix0 : ∀ (x y : Value) (w : World), (Instr.index 62 (.agg #[x, y]) (.int .i64 0)).run Tryz.prog w = .ok x w := fun _ _ _ => by kernel_rfl
  have hix1 : ∀ (x y : Value) (w : World), (Instr.index 62 (.agg #[x, y]) (.int .i64 1)).run Tryz.prog w = .ok y w := fun _ _ _ => by kernel_rfl
  clear E0 hx hcl
  go_enter Tryz.func211, Tryz.ntmps211
  go_wp2_with fail
  go_loopw [19] (fun i wr => ∃ (k : Nat) (n0 : Bool) (A0 : Option Addr) (m0 c0 : Nat) (n1 : Bool) (A1 : Option Addr) (m1 c1 : Nat), k ≤ 2 ∧ i = .int .i64 k ∧ Env w [(w.heap.size + 1, #[.bool n0, .slice A0 m0 c0, .bool n1, .slice A1 m1 c1], 312), (w.heap.size, #[.bool nx, .slice Ax mx cx, .int .i64 r], 241)] [(n0, A0, m0, c0, if 1 ≤ k then endL v r p else 0), (n1, A1, m1, c1, if 2 ≤ k then endH v r p else 0), (nx, Ax, mx, cx, v)] wr) (fun i _ => 2 - (intOf i).toNat)
  case atStart => exact ⟨0, _, _, _, _, _, _, _, _, by omega, rfl, E1.out⟩
  case round =>
    clear E1
    obtain ⟨k, n0, A0, m0, c0, n1, A1, m1, c1, hk, rfl, E⟩ := hrel
    have HE := Lib.hid E
    clear E
    have hc : k = 0 ∨ k = 1 ∨ k = 2 := by omega
    rcases hc with rfl | rfl | rfl
    · skip
      go_wp2_with fail
      refine region_start (S := fun W' => Env w [(w.heap.size, #[.bool nx, .slice Ax mx cx, .int .i64 r], 241)] [(n0, A0, m0, c0, if 1 ≤ 0 then endL v r p else 0), (n1, A1, m1, c1, if 2 ≤ 0 then endH v r p else 0), (nx, Ax, mx, cx, v)] W') (by kernel_rfl) ?_
      intro W hW
      have E := HE.out.drew
      rw [← hW] at E
      clear hW HE
      have hS := E.drop
      refine wpAnyH_take (i := 0) (v := .int .i64 0) rfl (by kernel_rfl) (by kernel_rfl) (by kernel_rfl) (fun _ _ _ h => h) (.inl ⟨rfl, fun w0 hw0 => ?a0⟩) hS ?_
      case a0 =>
        have g := hw0.blks; have e0 : w0.cell? ⟨w.heap.size, 0, none⟩ = some (.bool nx) := g.1.at 0; have e1 : w0.cell? ⟨w.heap.size, 1, none⟩ = some (.slice Ax mx cx) := g.1.at 1
        go_simp
      refine wpAnyH_take (i := 1) (v := .pointer (some ⟨w.heap.size, 0, none⟩)) rfl (by kernel_rfl) (by kernel_rfl) (by kernel_rfl) (fun _ _ _ h => h) (.inl ⟨rfl, fun w0 hw0 => ?a1⟩) hS ?_
      case a1 =>
        have g := hw0.blks; have e0 : w0.cell? ⟨w.heap.size, 0, none⟩ = some (.bool nx) := g.1.at 0; have e1 : w0.cell? ⟨w.heap.size, 1, none⟩ = some (.slice Ax mx cx) := g.1.at 1
        go_simp
      refine wpAnyH_take (i := 2) (v := .agg #[.bool nx, .slice Ax mx cx]) rfl (by kernel_rfl) (by kernel_rfl) (by kernel_rfl) (fun _ _ _ h => h) (.inl ⟨rfl, fun w0 hw0 => ?a2⟩) hS ?_
      case a2 =>
        have g := hw0.blks; have e0 : w0.cell? ⟨w.heap.size, 0, none⟩ = some (.bool nx) := g.1.at 0; have e1 : w0.cell? ⟨w.heap.size, 1, none⟩ = some (.slice Ax mx cx) := g.1.at 1
        go_simp
      refine wpAnyH_take (i := 3) (v := .int .i64 (-r)) rfl (by kernel_rfl) (by kernel_rfl) (by kernel_rfl) (fun _ _ _ h => h) (.inl ⟨rfl, fun w0 hw0 => ?a3⟩) hS ?_
      case a3 =>
        have g := hw0.blks; have e0 : w0.cell? ⟨w.heap.size, 0, none⟩ = some (.bool nx) := g.1.at 0; have e1 : w0.cell? ⟨w.heap.size, 1, none⟩ = some (.slice Ax mx cx) := g.1.at 1
        go_simp
      refine wpAnyH_take (i := 6) (v := .int .i64 p) rfl (by kernel_rfl) (by kernel_rfl) (by kernel_rfl) (fun _ _ _ h => h) (.inl ⟨rfl, fun w0 hw0 => ?a6⟩) hS ?_
      case a6 =>
        have g := hw0.blks; have e0 : w0.cell? ⟨w.heap.size, 0, none⟩ = some (.bool nx) := g.1.at 0; have e1 : w0.cell? ⟨w.heap.size, 1, none⟩ = some (.slice Ax mx cx) := g.1.at 1
        go_simp
      refine wpAnyH_take (i := 7) (v := .int .i64 (40 - p)) rfl (by kernel_rfl) (by kernel_rfl) (by kernel_rfl) (fun _ _ _ h => h) (.inl ⟨rfl, fun w0 hw0 => ?a7⟩) hS ?_
      case a7 =>
        have g := hw0.blks; have e0 : w0.cell? ⟨w.heap.size, 0, none⟩ = some (.bool nx) := g.1.at 0; have e1 : w0.cell? ⟨w.heap.size, 1, none⟩ = some (.slice Ax mx cx) := g.1.at 1
        go_simp
      clear hS
      refine wpAnyH_all (rs := [4]) (by kernel_rfl) (by simp) ?_
      intro i0 hi0
      obtain rfl : i0 = 4 := by simpa using hi0
      refine wpOp_plain rfl rfl fun K' hK' => ?_
      go_simp
      refine (num_calls _ (-r) (by omega) (by omega)).mono ?_
      rintro e W2 ⟨n3, A3, m3, c3, rfl, h3, hb2⟩
      replace E := (E.below hb2).wd h3
      clear h3 hb2
      refine hK' _ _ ⟨E.drop.dropN, ?_⟩
      clear hK' K'
      refine wpAnyH_all (rs := [5]) (by kernel_rfl) (by simp) ?_
      intro i0 hi0
      obtain rfl : i0 = 5 := by simpa using hi0
      refine wpOp_plain rfl rfl fun K' hK' => ?_
      go_simp
      refine (tadd_calls _ nx n3 Ax A3 mx m3 cx c3 v (-r) E.wds.2.2.2.1 E.wds.1).mono ?_
      rintro e W3 ⟨n4, A4, m4, c4, rfl, h4, hb3⟩
      replace E := (E.dropN.below hb3).wd h4
      clear h4 hb3
      refine hK' _ _ ⟨E.drop.dropN, ?_⟩
      clear hK' K'
      refine wpAnyH_all (rs := [8]) (by kernel_rfl) (by simp) ?_
      intro i0 hi0
      obtain rfl : i0 = 8 := by simpa using hi0
      refine wpOp_plain rfl rfl fun K' hK' => ?_
      go_simp
      refine (tshift_calls _ n4 A4 m4 c4 (Num.fit (v + -r)) (40 - p) E.wds.1).mono ?_
      rintro e W4 ⟨n5, A5, m5, c5, rfl, h5, hb4⟩
      replace E := (E.dropN.below hb4).wd h5
      clear h5 hb4
      refine hK' _ _ ⟨E.drop.dropN, ?_⟩
      clear hK' K'
      have hS := E.drop.dropN
      refine wpAnyH_take (i := 9) (v := .pointer (some ⟨w.heap.size + 1, 2 * 0, none⟩)) rfl (by kernel_rfl) (by kernel_rfl) (by kernel_rfl) (fun _ _ _ h => h) (.inl ⟨rfl, fun w0 hw0 => ?a9⟩) hS ?_
      case a9 =>
        have g := hw0.blks; have e0 : w0.cell? ⟨w.heap.size, 0, none⟩ = some (.bool nx) := g.1.at 0; have e1 : w0.cell? ⟨w.heap.size, 1, none⟩ = some (.slice Ax mx cx) := g.1.at 1
        go_simp
      clear hS
      have f0 : W4.cell? ⟨w.heap.size + 1, 2 * 0, none⟩ = some (.bool n0) := E.blks.1.at (2 * 0)
      have f1 : W4.cell? ⟨w.heap.size + 1, 2 * 0 + 1, none⟩ = some (.slice A0 m0 c0) := E.blks.1.at (2 * 0 + 1)
      have g0 := E.blks.1.fr (2 * 0)
      have g1 := E.blks.1.fr (2 * 0 + 1)
      simp only [Nat.reduceMul, Nat.reduceAdd] at f0 f1 g0 g1
      refine wpAnyH_all (rs := [10]) (by kernel_rfl) (by simp) ?_
      intro i0 hi0
      obtain rfl : i0 = 10 := by simpa using hi0
      refine wpOp_plain rfl rfl fun K' hK' => ?_
      go_simp
      have E2 := (E.setY (by omega) (by simp [Free]) rfl (2 * 0) (.bool n5)).setY (by omega) (by simp [Free]) rfl (2 * 0 + 1) (.slice A5 m5 c5)
      simp only [Nat.reduceMul, Nat.reduceAdd] at E2
      clear f0 f1 g0 g1
      refine hK' _ _ ⟨E2.drop.dropN, wpAnyH_done (by kernel_rfl) ?_ _⟩
      clear hK' K'
      have E3 : Env w [(w.heap.size + 1, #[.bool n5, .slice A5 m5 c5, .bool n1, .slice A1 m1 c1], 312), (w.heap.size, #[.bool nx, .slice Ax mx cx, .int .i64 r], 241)] [(n5, A5, m5, c5, if 1 ≤ 1 then endL v r p else 0), (n1, A1, m1, c1, if 2 ≤ 1 then endH v r p else 0), (nx, Ax, mx, cx, v)] ((W4.setCell ⟨w.heap.size + 1, 0, none⟩ (.bool n5)).setCell ⟨w.heap.size + 1, 1, none⟩ (.slice A5 m5 c5)) := by
        obtain ⟨hb, ⟨h1, h2, h3, h4, _⟩, hl⟩ := E2
        refine ⟨hb, ⟨?_, h3, h4, trivial⟩, hl⟩
        rw [if_pos (Nat.le_refl 1)]
        unfold endL
        rw [Int.sub_eq_add_neg]
        exact h1
      have HE3 := Lib.hid E3
      clear E2 E3 E
      go_wp2
      go_roundw
      case rel => exact ⟨1, n5, A5, m5, c5, n1, A1, m1, c1, by omega, by go_num, HE3.out⟩
      case measure => simp [intOf]
    · skip
      go_wp2_with fail
      refine region_start (S := fun W' => Env w [(w.heap.size, #[.bool nx, .slice Ax mx cx, .int .i64 r], 241)] [(n0, A0, m0, c0, if 1 ≤ 1 then endL v r p else 0), (n1, A1, m1, c1, if 2 ≤ 1 then endH v r p else 0), (nx, Ax, mx, cx, v)] W') (by kernel_rfl) ?_
      intro W hW
      have E := HE.out.drew
      rw [← hW] at E
      clear hW HE
      have hS := E.drop
      refine wpAnyH_take (i := 0) (v := .int .i64 1) rfl (by kernel_rfl) (by kernel_rfl) (by kernel_rfl) (fun _ _ _ h => h) (.inl ⟨rfl, fun w0 hw0 => ?a0⟩) hS ?_
      case a0 =>
        have g := hw0.blks; have e0 : w0.cell? ⟨w.heap.size, 0, none⟩ = some (.bool nx) := g.1.at 0; have e1 : w0.cell? ⟨w.heap.size, 1, none⟩ = some (.slice Ax mx cx) := g.1.at 1
        go_simp
      refine wpAnyH_take (i := 1) (v := .pointer (some ⟨w.heap.size, 0, none⟩)) rfl (by kernel_rfl) (by kernel_rfl) (by kernel_rfl) (fun _ _ _ h => h) (.inl ⟨rfl, fun w0 hw0 => ?a1⟩) hS ?_
      case a1 =>
        have g := hw0.blks; have e0 : w0.cell? ⟨w.heap.size, 0, none⟩ = some (.bool nx) := g.1.at 0; have e1 : w0.cell? ⟨w.heap.size, 1, none⟩ = some (.slice Ax mx cx) := g.1.at 1
        go_simp
      refine wpAnyH_take (i := 2) (v := .agg #[.bool nx, .slice Ax mx cx]) rfl (by kernel_rfl) (by kernel_rfl) (by kernel_rfl) (fun _ _ _ h => h) (.inl ⟨rfl, fun w0 hw0 => ?a2⟩) hS ?_
      case a2 =>
        have g := hw0.blks; have e0 : w0.cell? ⟨w.heap.size, 0, none⟩ = some (.bool nx) := g.1.at 0; have e1 : w0.cell? ⟨w.heap.size, 1, none⟩ = some (.slice Ax mx cx) := g.1.at 1
        go_simp
      refine wpAnyH_take (i := 3) (v := .int .i64 (r)) rfl (by kernel_rfl) (by kernel_rfl) (by kernel_rfl) (fun _ _ _ h => h) (.inl ⟨rfl, fun w0 hw0 => ?a3⟩) hS ?_
      case a3 =>
        have g := hw0.blks; have e0 : w0.cell? ⟨w.heap.size, 0, none⟩ = some (.bool nx) := g.1.at 0; have e1 : w0.cell? ⟨w.heap.size, 1, none⟩ = some (.slice Ax mx cx) := g.1.at 1
        go_simp
      refine wpAnyH_take (i := 6) (v := .int .i64 p) rfl (by kernel_rfl) (by kernel_rfl) (by kernel_rfl) (fun _ _ _ h => h) (.inl ⟨rfl, fun w0 hw0 => ?a6⟩) hS ?_
      case a6 =>
        have g := hw0.blks; have e0 : w0.cell? ⟨w.heap.size, 0, none⟩ = some (.bool nx) := g.1.at 0; have e1 : w0.cell? ⟨w.heap.size, 1, none⟩ = some (.slice Ax mx cx) := g.1.at 1
        go_simp
      refine wpAnyH_take (i := 7) (v := .int .i64 (40 - p)) rfl (by kernel_rfl) (by kernel_rfl) (by kernel_rfl) (fun _ _ _ h => h) (.inl ⟨rfl, fun w0 hw0 => ?a7⟩) hS ?_
      case a7 =>
        have g := hw0.blks; have e0 : w0.cell? ⟨w.heap.size, 0, none⟩ = some (.bool nx) := g.1.at 0; have e1 : w0.cell? ⟨w.heap.size, 1, none⟩ = some (.slice Ax mx cx) := g.1.at 1
        go_simp
      clear hS
      refine wpAnyH_all (rs := [4]) (by kernel_rfl) (by simp) ?_
      intro i0 hi0
      obtain rfl : i0 = 4 := by simpa using hi0
      refine wpOp_plain rfl rfl fun K' hK' => ?_
      go_simp
      refine (num_calls _ (r) (by omega) (by omega)).mono ?_
      rintro e W2 ⟨n3, A3, m3, c3, rfl, h3, hb2⟩
      replace E := (E.below hb2).wd h3
      clear h3 hb2
      refine hK' _ _ ⟨E.drop.dropN, ?_⟩
      clear hK' K'
      refine wpAnyH_all (rs := [5]) (by kernel_rfl) (by simp) ?_
      intro i0 hi0
      obtain rfl : i0 = 5 := by simpa using hi0
      refine wpOp_plain rfl rfl fun K' hK' => ?_
      go_simp
      refine (tadd_calls _ nx n3 Ax A3 mx m3 cx c3 v (r) E.wds.2.2.2.1 E.wds.1).mono ?_
      rintro e W3 ⟨n4, A4, m4, c4, rfl, h4, hb3⟩
      replace E := (E.dropN.below hb3).wd h4
      clear h4 hb3
      refine hK' _ _ ⟨E.drop.dropN, ?_⟩
      clear hK' K'
      refine wpAnyH_all (rs := [8]) (by kernel_rfl) (by simp) ?_
      intro i0 hi0
      obtain rfl : i0 = 8 := by simpa using hi0
      refine wpOp_plain rfl rfl fun K' hK' => ?_
      go_simp
      refine (tshift_calls _ n4 A4 m4 c4 (Num.fit (v + r)) (40 - p) E.wds.1).mono ?_
      rintro e W4 ⟨n5, A5, m5, c5, rfl, h5, hb4⟩
      replace E := (E.dropN.below hb4).wd h5
      clear h5 hb4
      refine hK' _ _ ⟨E.drop.dropN, ?_⟩
      clear hK' K'
      have hS := E.drop.dropN
      refine wpAnyH_take (i := 9) (v := .pointer (some ⟨w.heap.size + 1, 2 * 1, none⟩)) rfl (by kernel_rfl) (by kernel_rfl) (by kernel_rfl) (fun _ _ _ h => h) (.inl ⟨rfl, fun w0 hw0 => ?a9⟩) hS ?_
      case a9 =>
        have g := hw0.blks; have e0 : w0.cell? ⟨w.heap.size, 0, none⟩ = some (.bool nx) := g.1.at 0; have e1 : w0.cell? ⟨w.heap.size, 1, none⟩ = some (.slice Ax mx cx) := g.1.at 1
        go_simp
      clear hS
      have f0 : W4.cell? ⟨w.heap.size + 1, 2 * 1, none⟩ = some (.bool n1) := E.blks.1.at (2 * 1)
      have f1 : W4.cell? ⟨w.heap.size + 1, 2 * 1 + 1, none⟩ = some (.slice A1 m1 c1) := E.blks.1.at (2 * 1 + 1)
      have g0 := E.blks.1.fr (2 * 1)
      have g1 := E.blks.1.fr (2 * 1 + 1)
      simp only [Nat.reduceMul, Nat.reduceAdd] at f0 f1 g0 g1
      refine wpAnyH_all (rs := [10]) (by kernel_rfl) (by simp) ?_
      intro i0 hi0
      obtain rfl : i0 = 10 := by simpa using hi0
      refine wpOp_plain rfl rfl fun K' hK' => ?_
      go_simp
      have E2 := (E.setY (by omega) (by simp [Free]) rfl (2 * 1) (.bool n5)).setY (by omega) (by simp [Free]) rfl (2 * 1 + 1) (.slice A5 m5 c5)
      simp only [Nat.reduceMul, Nat.reduceAdd] at E2
      clear f0 f1 g0 g1
      refine hK' _ _ ⟨E2.drop.dropN, wpAnyH_done (by kernel_rfl) ?_ _⟩
      clear hK' K'
      have E3 : Env w [(w.heap.size + 1, #[.bool n0, .slice A0 m0 c0, .bool n5, .slice A5 m5 c5], 312), (w.heap.size, #[.bool nx, .slice Ax mx cx, .int .i64 r], 241)] [(n0, A0, m0, c0, if 1 ≤ 2 then endL v r p else 0), (n5, A5, m5, c5, if 2 ≤ 2 then endH v r p else 0), (nx, Ax, mx, cx, v)] ((W4.setCell ⟨w.heap.size + 1, 2, none⟩ (.bool n5)).setCell ⟨w.heap.size + 1, 3, none⟩ (.slice A5 m5 c5)) := by
        obtain ⟨hb, ⟨h1, h2, h3, h4, _⟩, hl⟩ := E2
        refine ⟨hb, ⟨?_, ?_, h4, trivial⟩, hl⟩
        · rw [if_pos (by omega)] at h2 ⊢
          exact h2
        · rw [if_pos (Nat.le_refl 2)]
          exact h1
      have HE3 := Lib.hid E3
      clear E2 E3 E
      go_wp2
      go_roundw
      case rel => exact ⟨2, n0, A0, m0, c0, n5, A5, m5, c5, by omega, by go_num, HE3.out⟩
      case measure => simp [intOf]
    · have e0 : wr.cell? ⟨w.heap.size + 1, 0, none⟩ = some (.bool n0) := HE.out.blks.1.at 0
      have e1 : wr.cell? ⟨w.heap.size + 1, 1, none⟩ = some (.slice A0 m0 c0) := HE.out.blks.1.at 1
      have e2 : wr.cell? ⟨w.heap.size + 1, 2, none⟩ = some (.bool n1) := HE.out.blks.1.at 2
      have e3 : wr.cell? ⟨w.heap.size + 1, 3, none⟩ = some (.slice A1 m1 c1) := HE.out.blks.1.at 3
      go_wp2_with fail
      go_at_call 172
      refine (Cmp_calls _ n0 n1 A0 A1 m0 m1 c0 c1 (endL v r p) (endH v r p) (by have h := HE.out.wds.1; rw [if_pos (by omega)] at h; exact h) (by have h := HE.out.wds.2.1; rw [if_pos (by omega)] at h; exact h)).mono ?_
      rintro e V4 ⟨rfl, hb4⟩
      replace HE := Lib.hid (HE.out.below hb4)
      clear e0 e1 e2 e3 hb4
      by_cases heq : endL v r p = endH v r p
      · have hcm : cmpZ (endL v r p) (endH v r p) = 0 := cmpZ_same heq
        have hf1 : flo v r p = endL v r p := by unfold flo; rw [if_pos heq]
        have hf2 : flb v r p = true := by unfold flb; rw [decide_eq_true heq]
        have HF1 := Lib.hid hf1
        have HF2 := Lib.hid hf2
        have hb := HCL.out heq
        have hin : in64 (endL v r p) = true := by unfold in64; rw [decide_eq_true_eq]; omega
        have hz := int64Z_of hin
        have hze := int64E_of hin
        have e0 : V4.cell? ⟨w.heap.size + 1, 0, none⟩ = some (.bool n0) := HE.out.blks.1.at 0
        have e1 : V4.cell? ⟨w.heap.size + 1, 1, none⟩ = some (.slice A0 m0 c0) := HE.out.blks.1.at 1
        rw [hcm]
        clear heq hcm hf1 hf2 hb hin
        go_wp2_with fail
        go_at_call 52
        refine (Int_calls _ n0 A0 m0 c0 (endL v r p) (by have h := HE.out.wds.1; rw [if_pos (by omega)] at h; exact h)).mono ?_
        rw [hz, hze]
        rintro e V5 ⟨rfl, hb5⟩
        replace HE := Lib.hid (HE.out.below hb5)
        clear e0 e1 hb5 hz hze
        go_wp2
        go_ret2
        refine ⟨?_, HE.out.bel⟩
        rw [HF1.out, HF2.out]
        rfl
      · have hcm : ¬ cmpZ (endL v r p) (endH v r p) = 0 := by
          unfold cmpZ
          split
          · omega
          · split
            · omega
            · omega
        have hcb : (cmpZ (endL v r p) (endH v r p) != 0) = true := by rw [bne_iff_ne]; exact hcm
        have hf1 : flo v r p = 0 := by unfold flo; rw [if_neg heq]
        have hf2 : flb v r p = false := by unfold flb; rw [decide_eq_false heq]
        have HF1 := Lib.hid hf1
        have HF2 := Lib.hid hf2
        clear heq hf1 hf2 hcm
        go_wp2
        go_ret2
        refine ⟨?_, HE.out.bel⟩
        rw [HF1.out, HF2.out]
        rfl

set_option maxRecDepth 100000 in
set_option maxHeartbeats 2000000 in
theorem unit_calls (w : World) (nx : Bool) (Ax : Option Addr) (mx cx : Nat) (v r p : Int) (hp : 1 ≤ p ∧ p ≤ 1000000) (hr : 0 ≤ r ∧ r ≤ 1000000000000) (hx : WD w nx Ax mx cx v) (hcl : endL v r p = endH v r p → -1099511627776 ≤ endL v r p ∧ endL v r p < 1099511627776) :
    Calls Tryz.prog 157 #[.agg #[.bool nx, .slice Ax mx cx, .int .i64 r], .int .i64 p] w (OkPost (.tuple #[.agg #[.int .i64 (flo v r p), .int .i64 (flo v r p + 1)], .bool (flb v r p)]) w) := by
  have E0 := ((Env.start w).alloc #[.bool nx, .slice Ax mx cx, .int .i64 r] 241).alloc #[.int .i64 0, .int .i64 0] 32
  simp only [World.size_alloc] at E0
  have E1 := Lib.hid (E0.wd (hx.below E0.bel))
  have hb : -1099511627776 ≤ flo v r p ∧ flo v r p < 1099511627776 := by
    unfold flo
    split
    · rename_i h; exact hcl h
    · omega
  have HF := Lib.hid fun w' h => floor_calls w' nx Ax mx cx v r p hp hr h hcl
  clear E0 hx hcl
  generalize flo v r p = n at *
  generalize flb v r p = b at *
  have hw1 : IntKind.i64.wrap (n + 1) = n + 1 := wrap_i64 _ (by omega) (by omega)
  go_enter Tryz.func157, Tryz.ntmps157
  go_wp2_with fail
  go_at_call 211
  refine (HF.out _ E1.out.wds.1).mono ?_
  rintro e V4 ⟨rfl, hb4⟩
  have HE := Lib.hid (E1.out.below hb4)
  clear E1 HF hb4
  have f0 : V4.cell? ⟨w.heap.size + 1, 0, none⟩ = some (.int .i64 0) := HE.out.blks.1.at 0
  have f1 : V4.cell? ⟨w.heap.size + 1, 1, none⟩ = some (.int .i64 0) := HE.out.blks.1.at 1
  have g0 := HE.out.blks.1.fr 0
  have g1 := HE.out.blks.1.fr 1
  go_wp2
  have E := (HE.out.setY (by omega) (by simp [Free]) rfl 0 (.int .i64 n)).setY (by omega) (by simp [Free]) rfl 1 (.int .i64 (n + 1))
  have r0 : _ = some (Value.int .i64 n) := E.blks.1.at 0
  have r1 : _ = some (Value.int .i64 (n + 1)) := E.blks.1.at 1
  refine bodyPost_ret (v := .tuple #[.agg #[.int .i64 n, .int .i64 (n + 1)], .bool b]) (by simp [results, Tryz.results157, go_sem, r0, r1]) rfl ?_
  exact ⟨rfl, E.bel⟩

end Go.Proofs.YtilaheplclaokaaGreatDoor

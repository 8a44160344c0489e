/-
Walk of trig's circular.
-/
import Derived.Test.YtilaheplclaokaaGreatDoorTurn07
import Derived.Test.YtilaheplclaokaaGreatDoorTurn08
set_option linter.unusedVariables false
set_option linter.unusedSimpArgs false
namespace Go.Proofs.YtilaheplclaokaaGreatDoor
open Go.RowKit Go.Shelf
attribute [local go_sem] Oper.semAt_some

/-- Two balls. -/
def CircPost (q : Quad) (w : World) (e : Ending) (w' : World) : Prop := ∃ n1 A1 m1 c1 n2 A2 m2 c2, e = .returned (.tuple #[.agg #[.bool n1, .slice A1 m1 c1, .int .i64 q.rs], .agg #[.bool n2, .slice A2 m2 c2, .int .i64 q.rc]]) ∧ WD w' n1 A1 m1 c1 q.s ∧ WD w' n2 A2 m2 c2 q.c ∧ Below w.heap.size w w'

set_option maxRecDepth 100000 in
set_option maxHeartbeats 2000000 in
theorem circular_calls (w : World) (nx : Bool) (Ax : Option Addr) (mx cx : Nat) (x r p : Int) (hp : 1 ≤ p ∧ p ≤ 1000000) (hx0 : 0 ≤ x) (hx1 : x ≤ shiftF 1 p) (hr : 0 ≤ r ∧ r ≤ 100000000) (hx : WD w nx Ax mx cx x) :
    Calls Tryz.prog 236 #[.agg #[.bool nx, .slice Ax mx cx, .int .i64 r], .int .i64 p] w (CircPost (circ x r p 5) w) := by
  have E0 := ((((Env.start w).alloc #[.bool nx, .slice Ax mx cx, .int .i64 r] 241).alloc #[.int .i64 p] 3).alloc #[.bool false, .slice none 0 0, .int .i64 0] 241).alloc #[.bool false, .slice none 0 0, .int .i64 0] 241
  simp only [World.size_alloc] at E0
  have E1 := Lib.hid (E0.wd (hx.below E0.bel))
  clear E0 hx
  have HC := Lib.hid (fun i hi => circ_bounds hp.1 hx0 hx1 hr.1 hr.2 i hi)
  have HY := Lib.hid (circY_bounds (by omega) hx0 hx1)
  obtain ⟨ho0, ho1, ho2, _⟩ := shiftF_one p
  have HO := Lib.hid (And.intro ho0 ho1)
  have HCI : Hid (circ x r p 0 = ⟨serV (circY2 x p) p 1 (circY x), serR (circY2 x p) p 1 (circY x) r, serV (circY2 x p) p 0 (shiftF 1 p), serR (circY2 x p) p 0 (shiftF 1 p) r⟩) := Lib.hid rfl
  have hY : shiftF x (-5) = circY x := rfl
  have hY2 : shiftF (Num.fit (circY x * circY x)) (-p) = circY2 x p := rfl
  have hs0 : ∀ i, circ x r p (i + 1) = dbl p (circ x r p i) := fun _ => rfl
  have HS := Lib.hid hs0
  clear hs0 ho0 ho1 ho2
  generalize circ x r p = Q at *
  go_enter Tryz.func236, Tryz.ntmps236
  go_wp2_with fail
  go_at_call 234
  refine (tshift_calls _ nx Ax mx cx x (-5) E1.out.wds.1).mono ?_
  rw [hY]
  rintro e W1 ⟨ny, Ay, ky, cy, rfl, hwy, hb1⟩
  have E2 := Lib.hid ((E1.out.lastN.below hb1).wd hwy)
  have hw1 : IntKind.i64.wrap (-p) = -p := wrap_i64 _ (by omega) (by omega)
  have hw2 : IntKind.i64.wrap (1 - p) = 1 - p := wrap_i64 _ (by omega) (by omega)
  clear E1 hwy hb1 hY
  go_wp2_with fail
  have E5 := E2.out.alloc #[.bool ny, .slice Ay ky cy] 92
  have hb6 : w.heap.size + 1 + 1 + 1 < W1.heap.size := E2.out.blks.1.lt
  clear E2
  generalize W1.alloc (.cells #[.bool ny, .slice Ay ky cy] 92) = V at *
  generalize W1.heap.size = b6 at *
  obtain ⟨L, hL⟩ : ∃ L : List (Nat × Array Value × TypeId), L = [(b6, #[.bool ny, .slice Ay ky cy], 92), (w.heap.size + 1 + 1 + 1, #[.bool false, .slice none 0 0, .int .i64 0], 241), (w.heap.size + 1 + 1, #[.bool false, .slice none 0 0, .int .i64 0], 241), (w.heap.size + 1, #[.int .i64 p], 3), (w.heap.size, #[.bool nx, .slice Ax mx cx, .int .i64 r], 241)] := ⟨_, rfl⟩
  rw [← hL] at E5
  have HE := Lib.hid E5
  have HL := Lib.hid hL
  clear E5 hL W1
  apply cutVar2 (F := fun b7 n7 A7 k7 c7 W => Env w ((b7, #[.bool n7, .slice A7 k7 c7], 92) :: L) [(n7, A7, k7, c7, circY2 x p), (ny, Ay, ky, cy, circY x)] W ∧ b6 < b7)
  · intro key
    refine region_start (S := fun W' => Env w L [(ny, Ay, ky, cy, circY x)] W') (by kernel_rfl) ?_
    intro W hW
    have E : Env w L [(ny, Ay, ky, cy, circY x)] W := by rw [hW]; exact HE.out.drew
    obtain ⟨B, hBe⟩ : ∃ B, B = W.heap.size := ⟨_, rfl⟩
    have hB : B ≤ W.heap.size := Nat.le_of_eq hBe
    have hBw : b6 < B := by rw [hBe]; have g := E.blks; rw [HL.out] at g; exact g.1.lt
    have hbel := E.bel
    clear hBe hW
    have hS := E
    refine wpAnyH_take (i := 0) (v := .agg #[.bool ny, .slice Ay ky cy]) rfl (by kernel_rfl) (by kernel_rfl) (by kernel_rfl) (fun _ _ _ h => h) (.inl ⟨rfl, fun w0 hw0 => ?a0⟩) hS ?_
    case a0 =>
      have g := hw0.blks; rw [HL.out] at g; have e0 := g.1.c0; have e1 := g.1.c1; have e2 := g.2.2.2.1.c
      go_simp
    refine wpAnyH_take (i := 1) (v := .agg #[.bool ny, .slice Ay ky cy]) rfl (by kernel_rfl) (by kernel_rfl) (by kernel_rfl) (fun _ _ _ h => h) (.inl ⟨rfl, fun w0 hw0 => ?a1⟩) hS ?_
    case a1 =>
      have g := hw0.blks; rw [HL.out] at g; have e0 := g.1.c0; have e1 := g.1.c1; have e2 := g.2.2.2.1.c
      go_simp
    refine wpAnyH_take (i := 3) (v := .int .i64 p) rfl (by kernel_rfl) (by kernel_rfl) (by kernel_rfl) (fun _ _ _ h => h) (.inl ⟨rfl, fun w0 hw0 => ?a3⟩) hS ?_
    case a3 =>
      have g := hw0.blks; rw [HL.out] at g; have e0 := g.1.c0; have e1 := g.1.c1; have e2 := g.2.2.2.1.c
      go_simp
    refine wpAnyH_take (i := 4) (v := .int .i64 (-p)) rfl (by kernel_rfl) (by kernel_rfl) (by kernel_rfl) (fun _ _ _ h => h) (.inl ⟨rfl, fun w0 hw0 => ?a4⟩) hS ?_
    case a4 =>
      have g := hw0.blks; rw [HL.out] at g; have e0 := g.1.c0; have e1 := g.1.c1; have e2 := g.2.2.2.1.c
      go_simp
    clear hS
    refine wpAnyH_all (rs := [2, 6]) (by kernel_rfl) (by simp) ?_
    intro i0 hi0
    have hi1 : i0 = 2 ∨ i0 = 6 := by simpa using hi0
    clear hi0
    rcases hi1 with rfl | rfl
    · refine wpOp_plain rfl rfl fun K' hK' => ?_
      go_simp
      refine (tmul_calls _ ny ny Ay Ay ky ky cy cy (circY x) (circY x) E.wds.1 E.wds.1).mono ?_
      rintro e W ⟨na, Aa, ka, ca, rfl, hna, hstep⟩
      have E := E.below hstep
      have hbel := hbel.trans (hstep.mono hbel.size)
      have hB := Nat.le_trans hB hstep.size
      refine hK' _ _ ⟨E, ?_⟩
      clear hK' K' hstep
      refine wpAnyH_all (rs := [5, 6]) (by kernel_rfl) (by simp) ?_
      intro i0 hi0
      have hi1 : i0 = 5 ∨ i0 = 6 := by simpa using hi0
      clear hi0
      rcases hi1 with rfl | rfl
      · refine wpOp_plain rfl rfl fun K' hK' => ?_
        go_simp
        refine (tshift_calls _ na Aa ka ca (Num.fit (circY x * circY x)) (-p) hna).mono ?_
        rintro e W ⟨nb, Ab, kb, cb, rfl, hnb, hstep⟩
        have E := E.below hstep
        have hna := hna.below hstep
        have hbel := hbel.trans (hstep.mono hbel.size)
        have hB := Nat.le_trans hB hstep.size
        refine hK' _ _ ⟨E, ?_⟩
        clear hK' K' hstep
        refine wpAnyH_all (rs := [6]) (by kernel_rfl) (by simp) ?_
        intro i0 hi0
        obtain rfl : i0 = 6 := by simpa using hi0
        refine wpOp_plain rfl rfl fun K' hK' => ?_
        go_simp
        have hal := (Below.refl W.heap.size W).alloc (Nat.le_refl _) (.cells #[.bool false, .slice none 0 0] 92)
        have h5 := Blk.new W #[.bool false, .slice none 0 0] 92
        obtain ⟨b5, hb5⟩ : ∃ b5, b5 = W.heap.size := ⟨_, rfl⟩
        rw [← hb5] at h5 ⊢
        have hb5B : B ≤ b5 := by omega
        have E := E.below hal
        have hna := hna.below hal
        have hnb := hnb.below hal
        have hbel := hbel.trans (hal.mono hbel.size)
        have hB := Nat.le_trans hB hal.size
        clear hb5 hal
        generalize W.alloc (.cells #[.bool false, .slice none 0 0] 92) = W at *
        refine hK' _ _ ⟨E, ?_⟩
        clear hK' K'
        have f0 := h5.c0
        have f1 := h5.c1
        have f2 := h5.fr 0
        have f3 := h5.fr 1
        refine wpAnyH_all (rs := [7]) (by kernel_rfl) (by simp) ?_
        intro i0 hi0
        obtain rfl : i0 = 7 := by simpa using hi0
        refine wpOp_plain rfl rfl fun K' hK' => ?_
        go_simp
        exact hK' _ _ ⟨((E.blk h5).set2 (by omega) (by rw [HL.out]; simp [Free]; omega) _ _).drop, wpAnyH_done (by kernel_rfl) (key b5 na Aa ka ca nb Ab kb cb _ ⟨((E.blk h5).set2 (by omega) (by rw [HL.out]; simp [Free]; omega) _ _).wd (hnb.set2 h5 _ _), by omega⟩) _⟩
      · refine wpOp_plain rfl rfl fun K' hK' => ?_
        go_simp
        have hal := (Below.refl W.heap.size W).alloc (Nat.le_refl _) (.cells #[.bool false, .slice none 0 0] 92)
        have h5 := Blk.new W #[.bool false, .slice none 0 0] 92
        obtain ⟨b5, hb5⟩ : ∃ b5, b5 = W.heap.size := ⟨_, rfl⟩
        rw [← hb5] at h5 ⊢
        have hb5B : B ≤ b5 := by omega
        have E := E.below hal
        have hna := hna.below hal
        have hbel := hbel.trans (hal.mono hbel.size)
        have hB := Nat.le_trans hB hal.size
        clear hb5 hal
        generalize W.alloc (.cells #[.bool false, .slice none 0 0] 92) = W at *
        refine hK' _ _ ⟨E, ?_⟩
        clear hK' K'
        refine wpAnyH_all (rs := [5]) (by kernel_rfl) (by simp) ?_
        intro i0 hi0
        obtain rfl : i0 = 5 := by simpa using hi0
        refine wpOp_plain rfl rfl fun K' hK' => ?_
        go_simp
        refine (tshift_calls _ na Aa ka ca (Num.fit (circY x * circY x)) (-p) hna).mono ?_
        rintro e W ⟨nb, Ab, kb, cb, rfl, hnb, hstep⟩
        have E := E.below hstep
        have hna := hna.below hstep
        have h5 := h5.below hstep
        have hbel := hbel.trans (hstep.mono hbel.size)
        have hB := Nat.le_trans hB hstep.size
        refine hK' _ _ ⟨E, ?_⟩
        clear hK' K' hstep
        have f0 := h5.c0
        have f1 := h5.c1
        have f2 := h5.fr 0
        have f3 := h5.fr 1
        refine wpAnyH_all (rs := [7]) (by kernel_rfl) (by simp) ?_
        intro i0 hi0
        obtain rfl : i0 = 7 := by simpa using hi0
        refine wpOp_plain rfl rfl fun K' hK' => ?_
        go_simp
        exact hK' _ _ ⟨((E.blk h5).set2 (by omega) (by rw [HL.out]; simp [Free]; omega) _ _).drop, wpAnyH_done (by kernel_rfl) (key b5 na Aa ka ca nb Ab kb cb _ ⟨((E.blk h5).set2 (by omega) (by rw [HL.out]; simp [Free]; omega) _ _).wd (hnb.set2 h5 _ _), by omega⟩) _⟩
    · refine wpOp_plain rfl rfl fun K' hK' => ?_
      go_simp
      have hal := (Below.refl W.heap.size W).alloc (Nat.le_refl _) (.cells #[.bool false, .slice none 0 0] 92)
      have h5 := Blk.new W #[.bool false, .slice none 0 0] 92
      obtain ⟨b5, hb5⟩ : ∃ b5, b5 = W.heap.size := ⟨_, rfl⟩
      rw [← hb5] at h5 ⊢
      have hb5B : B ≤ b5 := by omega
      have E := E.below hal
      have hbel := hbel.trans (hal.mono hbel.size)
      have hB := Nat.le_trans hB hal.size
      clear hb5 hal
      generalize W.alloc (.cells #[.bool false, .slice none 0 0] 92) = W at *
      refine hK' _ _ ⟨E, ?_⟩
      clear hK' K'
      refine wpAnyH_all (rs := [2]) (by kernel_rfl) (by simp) ?_
      intro i0 hi0
      obtain rfl : i0 = 2 := by simpa using hi0
      refine wpOp_plain rfl rfl fun K' hK' => ?_
      go_simp
      refine (tmul_calls _ ny ny Ay Ay ky ky cy cy (circY x) (circY x) E.wds.1 E.wds.1).mono ?_
      rintro e W ⟨na, Aa, ka, ca, rfl, hna, hstep⟩
      have E := E.below hstep
      have h5 := h5.below hstep
      have hbel := hbel.trans (hstep.mono hbel.size)
      have hB := Nat.le_trans hB hstep.size
      refine hK' _ _ ⟨E, ?_⟩
      clear hK' K' hstep
      refine wpAnyH_all (rs := [5]) (by kernel_rfl) (by simp) ?_
      intro i0 hi0
      obtain rfl : i0 = 5 := by simpa using hi0
      refine wpOp_plain rfl rfl fun K' hK' => ?_
      go_simp
      refine (tshift_calls _ na Aa ka ca (Num.fit (circY x * circY x)) (-p) hna).mono ?_
      rintro e W ⟨nb, Ab, kb, cb, rfl, hnb, hstep⟩
      have E := E.below hstep
      have h5 := h5.below hstep
      have hna := hna.below hstep
      have hbel := hbel.trans (hstep.mono hbel.size)
      have hB := Nat.le_trans hB hstep.size
      refine hK' _ _ ⟨E, ?_⟩
      clear hK' K' hstep
      have f0 := h5.c0
      have f1 := h5.c1
      have f2 := h5.fr 0
      have f3 := h5.fr 1
      refine wpAnyH_all (rs := [7]) (by kernel_rfl) (by simp) ?_
      intro i0 hi0
      obtain rfl : i0 = 7 := by simpa using hi0
      refine wpOp_plain rfl rfl fun K' hK' => ?_
      go_simp
      exact hK' _ _ ⟨((E.blk h5).set2 (by omega) (by rw [HL.out]; simp [Free]; omega) _ _).drop, wpAnyH_done (by kernel_rfl) (key b5 na Aa ka ca nb Ab kb cb _ ⟨((E.blk h5).set2 (by omega) (by rw [HL.out]; simp [Free]; omega) _ _).wd (hnb.set2 h5 _ _), by omega⟩) _⟩
  rintro b7 na Aa ka ca n7 A7 k7 c7 V2 ⟨E6, hb7⟩
  have HE6 := Lib.hid E6
  clear E6 HE hY2
  go_wp2_with fail
  obtain ⟨L2, hL2⟩ : ∃ L2 : List (Nat × Array Value × TypeId), L2 = (b7, #[.bool n7, .slice A7 k7 c7], 92) :: L := ⟨_, rfl⟩
  rw [← hL2] at HE6
  have HL2 := Lib.hid hL2
  clear hL2
  apply cutVar2 (F := fun b8 n8 A8 k8 c8 W => Env w ((b8, #[.bool n8, .slice A8 k8 c8], 92) :: L2) [(n8, A8, k8, c8, shiftF 1 p), (n7, A7, k7, c7, circY2 x p), (ny, Ay, ky, cy, circY x)] W ∧ b7 < b8)
  · intro key
    refine region_start (S := fun W' => Env w L2 [(n7, A7, k7, c7, circY2 x p), (ny, Ay, ky, cy, circY x)] W') (by kernel_rfl) ?_
    intro W hW
    have E : Env w L2 [(n7, A7, k7, c7, circY2 x p), (ny, Ay, ky, cy, circY x)] W := by rw [hW]; exact HE6.out.drew
    obtain ⟨B, hBe⟩ : ∃ B, B = W.heap.size := ⟨_, rfl⟩
    have hB : B ≤ W.heap.size := Nat.le_of_eq hBe
    have hBw : b7 < B := by rw [hBe]; have g := E.blks; rw [HL2.out] at g; exact g.1.lt
    have hbel := E.bel
    clear hBe hW
    have hS := E
    refine wpAnyH_take (i := 1) (v := .int .i64 p) rfl (by kernel_rfl) (by kernel_rfl) (by kernel_rfl) (fun _ _ _ h => h) (.inl ⟨rfl, fun w0 hw0 => ?a1⟩) hS ?_
    case a1 =>
      have g := hw0.blks; rw [HL2.out, HL.out] at g; have e2 := g.2.2.2.2.1.c
      go_simp
    clear hS
    refine wpAnyH_all (rs := [0, 3]) (by kernel_rfl) (by simp) ?_
    intro i0 hi0
    have hi1 : i0 = 0 ∨ i0 = 3 := by simpa using hi0
    clear hi0
    rcases hi1 with rfl | rfl
    · refine wpOp_plain rfl rfl fun K' hK' => ?_
      go_simp
      refine (num_calls _ 1 (by omega) (by omega)).mono ?_
      rintro e W ⟨na, Aa, ka, ca, rfl, hna, hstep⟩
      have E := E.below hstep
      have hbel := hbel.trans (hstep.mono hbel.size)
      have hB := Nat.le_trans hB hstep.size
      refine hK' _ _ ⟨E, ?_⟩
      clear hK' K' hstep
      refine wpAnyH_all (rs := [2, 3]) (by kernel_rfl) (by simp) ?_
      intro i0 hi0
      have hi1 : i0 = 2 ∨ i0 = 3 := by simpa using hi0
      clear hi0
      rcases hi1 with rfl | rfl
      · refine wpOp_plain rfl rfl fun K' hK' => ?_
        go_simp
        refine (tshift_calls _ na Aa ka ca 1 p hna).mono ?_
        rintro e W ⟨nb, Ab, kb, cb, rfl, hnb, hstep⟩
        have E := E.below hstep
        have hna := hna.below hstep
        have hbel := hbel.trans (hstep.mono hbel.size)
        have hB := Nat.le_trans hB hstep.size
        refine hK' _ _ ⟨E, ?_⟩
        clear hK' K' hstep
        refine wpAnyH_all (rs := [3]) (by kernel_rfl) (by simp) ?_
        intro i0 hi0
        obtain rfl : i0 = 3 := by simpa using hi0
        refine wpOp_plain rfl rfl fun K' hK' => ?_
        go_simp
        have hal := (Below.refl W.heap.size W).alloc (Nat.le_refl _) (.cells #[.bool false, .slice none 0 0] 92)
        have h5 := Blk.new W #[.bool false, .slice none 0 0] 92
        obtain ⟨b5, hb5⟩ : ∃ b5, b5 = W.heap.size := ⟨_, rfl⟩
        rw [← hb5] at h5 ⊢
        have hb5B : B ≤ b5 := by omega
        have E := E.below hal
        have hna := hna.below hal
        have hnb := hnb.below hal
        have hbel := hbel.trans (hal.mono hbel.size)
        have hB := Nat.le_trans hB hal.size
        clear hb5 hal
        generalize W.alloc (.cells #[.bool false, .slice none 0 0] 92) = W at *
        refine hK' _ _ ⟨E, ?_⟩
        clear hK' K'
        have f0 := h5.c0
        have f1 := h5.c1
        have f2 := h5.fr 0
        have f3 := h5.fr 1
        refine wpAnyH_all (rs := [4]) (by kernel_rfl) (by simp) ?_
        intro i0 hi0
        obtain rfl : i0 = 4 := by simpa using hi0
        refine wpOp_plain rfl rfl fun K' hK' => ?_
        go_simp
        exact hK' _ _ ⟨((E.blk h5).set2 (by omega) (by rw [HL2.out, HL.out]; simp [Free]; omega) _ _).drop, wpAnyH_done (by kernel_rfl) (key b5 na Aa ka ca nb Ab kb cb _ ⟨((E.blk h5).set2 (by omega) (by rw [HL2.out, HL.out]; simp [Free]; omega) _ _).wd (hnb.set2 h5 _ _), by omega⟩) _⟩
      · refine wpOp_plain rfl rfl fun K' hK' => ?_
        go_simp
        have hal := (Below.refl W.heap.size W).alloc (Nat.le_refl _) (.cells #[.bool false, .slice none 0 0] 92)
        have h5 := Blk.new W #[.bool false, .slice none 0 0] 92
        obtain ⟨b5, hb5⟩ : ∃ b5, b5 = W.heap.size := ⟨_, rfl⟩
        rw [← hb5] at h5 ⊢
        have hb5B : B ≤ b5 := by omega
        have E := E.below hal
        have hna := hna.below hal
        have hbel := hbel.trans (hal.mono hbel.size)
        have hB := Nat.le_trans hB hal.size
        clear hb5 hal
        generalize W.alloc (.cells #[.bool false, .slice none 0 0] 92) = W at *
        refine hK' _ _ ⟨E, ?_⟩
        clear hK' K'
        refine wpAnyH_all (rs := [2]) (by kernel_rfl) (by simp) ?_
        intro i0 hi0
        obtain rfl : i0 = 2 := by simpa using hi0
        refine wpOp_plain rfl rfl fun K' hK' => ?_
        go_simp
        refine (tshift_calls _ na Aa ka ca 1 p hna).mono ?_
        rintro e W ⟨nb, Ab, kb, cb, rfl, hnb, hstep⟩
        have E := E.below hstep
        have hna := hna.below hstep
        have h5 := h5.below hstep
        have hbel := hbel.trans (hstep.mono hbel.size)
        have hB := Nat.le_trans hB hstep.size
        refine hK' _ _ ⟨E, ?_⟩
        clear hK' K' hstep
        have f0 := h5.c0
        have f1 := h5.c1
        have f2 := h5.fr 0
        have f3 := h5.fr 1
        refine wpAnyH_all (rs := [4]) (by kernel_rfl) (by simp) ?_
        intro i0 hi0
        obtain rfl : i0 = 4 := by simpa using hi0
        refine wpOp_plain rfl rfl fun K' hK' => ?_
        go_simp
        exact hK' _ _ ⟨((E.blk h5).set2 (by omega) (by rw [HL2.out, HL.out]; simp [Free]; omega) _ _).drop, wpAnyH_done (by kernel_rfl) (key b5 na Aa ka ca nb Ab kb cb _ ⟨((E.blk h5).set2 (by omega) (by rw [HL2.out, HL.out]; simp [Free]; omega) _ _).wd (hnb.set2 h5 _ _), by omega⟩) _⟩
    · refine wpOp_plain rfl rfl fun K' hK' => ?_
      go_simp
      have hal := (Below.refl W.heap.size W).alloc (Nat.le_refl _) (.cells #[.bool false, .slice none 0 0] 92)
      have h5 := Blk.new W #[.bool false, .slice none 0 0] 92
      obtain ⟨b5, hb5⟩ : ∃ b5, b5 = W.heap.size := ⟨_, rfl⟩
      rw [← hb5] at h5 ⊢
      have hb5B : B ≤ b5 := by omega
      have E := E.below hal
      have hbel := hbel.trans (hal.mono hbel.size)
      have hB := Nat.le_trans hB hal.size
      clear hb5 hal
      generalize W.alloc (.cells #[.bool false, .slice none 0 0] 92) = W at *
      refine hK' _ _ ⟨E, ?_⟩
      clear hK' K'
      refine wpAnyH_all (rs := [0]) (by kernel_rfl) (by simp) ?_
      intro i0 hi0
      obtain rfl : i0 = 0 := by simpa using hi0
      refine wpOp_plain rfl rfl fun K' hK' => ?_
      go_simp
      refine (num_calls _ 1 (by omega) (by omega)).mono ?_
      rintro e W ⟨na, Aa, ka, ca, rfl, hna, hstep⟩
      have E := E.below hstep
      have h5 := h5.below hstep
      have hbel := hbel.trans (hstep.mono hbel.size)
      have hB := Nat.le_trans hB hstep.size
      refine hK' _ _ ⟨E, ?_⟩
      clear hK' K' hstep
      refine wpAnyH_all (rs := [2]) (by kernel_rfl) (by simp) ?_
      intro i0 hi0
      obtain rfl : i0 = 2 := by simpa using hi0
      refine wpOp_plain rfl rfl fun K' hK' => ?_
      go_simp
      refine (tshift_calls _ na Aa ka ca 1 p hna).mono ?_
      rintro e W ⟨nb, Ab, kb, cb, rfl, hnb, hstep⟩
      have E := E.below hstep
      have h5 := h5.below hstep
      have hna := hna.below hstep
      have hbel := hbel.trans (hstep.mono hbel.size)
      have hB := Nat.le_trans hB hstep.size
      refine hK' _ _ ⟨E, ?_⟩
      clear hK' K' hstep
      have f0 := h5.c0
      have f1 := h5.c1
      have f2 := h5.fr 0
      have f3 := h5.fr 1
      refine wpAnyH_all (rs := [4]) (by kernel_rfl) (by simp) ?_
      intro i0 hi0
      obtain rfl : i0 = 4 := by simpa using hi0
      refine wpOp_plain rfl rfl fun K' hK' => ?_
      go_simp
      exact hK' _ _ ⟨((E.blk h5).set2 (by omega) (by rw [HL2.out, HL.out]; simp [Free]; omega) _ _).drop, wpAnyH_done (by kernel_rfl) (key b5 na Aa ka ca nb Ab kb cb _ ⟨((E.blk h5).set2 (by omega) (by rw [HL2.out, HL.out]; simp [Free]; omega) _ _).wd (hnb.set2 h5 _ _), by omega⟩) _⟩
  rintro b8 _ _ _ _ n8 A8 k8 c8 V3 ⟨E7, hb8⟩
  have E8 : Env w [(w.heap.size + 1 + 1, #[.bool false, .slice none 0 0, .int .i64 0], 241), (w.heap.size + 1 + 1 + 1, #[.bool false, .slice none 0 0, .int .i64 0], 241), (b8, #[.bool n8, .slice A8 k8 c8], 92), (b7, #[.bool n7, .slice A7 k7 c7], 92), (b6, #[.bool ny, .slice Ay ky cy], 92), (w.heap.size + 1, #[.int .i64 p], 3), (w.heap.size, #[.bool nx, .slice Ax mx cx, .int .i64 r], 241)] [(n8, A8, k8, c8, shiftF 1 p), (n7, A7, k7, c7, circY2 x p), (ny, Ay, ky, cy, circY x)] V3 := by
    rw [HL2.out, HL.out] at E7
    obtain ⟨⟨g1, g2, g3, g4, g5, g6, g7, _⟩, hn, hb⟩ := E7
    exact ⟨⟨g5, g4, g1, g2, g3, g6, g7, trivial⟩, hn, hb⟩
  have HE8 := Lib.hid E8
  clear E7 E8 HE6 HL2 HL L L2 V2 V
  go_wp2_with fail
  obtain ⟨R, hR⟩ : ∃ R : List (Nat × Array Value × TypeId), R = [(b8, #[.bool n8, .slice A8 k8 c8], 92), (b7, #[.bool n7, .slice A7 k7 c7], 92), (b6, #[.bool ny, .slice Ay ky cy], 92), (w.heap.size + 1, #[.int .i64 p], 3), (w.heap.size, #[.bool nx, .slice Ax mx cx, .int .i64 r], 241)] := ⟨_, rfl⟩
  have HR := Lib.hid hR
  rw [← hR] at HE8
  have hFs : Hid (Free (w.heap.size + 1 + 1) R ∧ Free (w.heap.size + 1 + 1 + 1) R) := Lib.hid (by rw [hR]; simp [Free]; omega)
  clear hR
  refine region_start (S := fun W' => Env w R [(n8, A8, k8, c8, shiftF 1 p), (n7, A7, k7, c7, circY2 x p), (ny, Ay, ky, cy, circY x)] W') (by kernel_rfl) ?_
  intro W hW
  have E : Env w ((w.heap.size + 1 + 1, #[.bool false, .slice none 0 0, .int .i64 0], 241) :: (w.heap.size + 1 + 1 + 1, #[.bool false, .slice none 0 0, .int .i64 0], 241) :: R) [(n8, A8, k8, c8, shiftF 1 p), (n7, A7, k7, c7, circY2 x p), (ny, Ay, ky, cy, circY x)] W := by rw [hW]; exact HE8.out.drew
  clear hW HE8
  have hS := E.drop.drop
  refine wpAnyH_take (i := 0) (v := .func (.func 253) #[] #[.pointer (some ⟨b7, 0, none⟩), .pointer (some ⟨w.heap.size + 1, 0, none⟩), .pointer (some ⟨w.heap.size, 0, none⟩)]) rfl (by kernel_rfl) (by kernel_rfl) (by kernel_rfl) (fun _ _ _ h => h) (.inl ⟨rfl, fun w0 hw0 => ?a0⟩) hS ?_
  case a0 =>
    have g := hw0.blks; rw [HR.out] at g; have e0 := g.1.c0; have e1 := g.1.c1; have e2 := g.2.2.1.c0; have e3 := g.2.2.1.c1
    go_simp
  refine wpAnyH_take (i := 1) (v := .agg #[.bool ny, .slice Ay ky cy]) rfl (by kernel_rfl) (by kernel_rfl) (by kernel_rfl) (fun _ _ _ h => h) (.inl ⟨rfl, fun w0 hw0 => ?a1⟩) hS ?_
  case a1 =>
    have g := hw0.blks; rw [HR.out] at g; have e0 := g.1.c0; have e1 := g.1.c1; have e2 := g.2.2.1.c0; have e3 := g.2.2.1.c1
    go_simp
  refine wpAnyH_take (i := 3) (v := .func (.func 253) #[] #[.pointer (some ⟨b7, 0, none⟩), .pointer (some ⟨w.heap.size + 1, 0, none⟩), .pointer (some ⟨w.heap.size, 0, none⟩)]) rfl (by kernel_rfl) (by kernel_rfl) (by kernel_rfl) (fun _ _ _ h => h) (.inl ⟨rfl, fun w0 hw0 => ?a3⟩) hS ?_
  case a3 =>
    have g := hw0.blks; rw [HR.out] at g; have e0 := g.1.c0; have e1 := g.1.c1; have e2 := g.2.2.1.c0; have e3 := g.2.2.1.c1
    go_simp
  refine wpAnyH_take (i := 4) (v := .agg #[.bool n8, .slice A8 k8 c8]) rfl (by kernel_rfl) (by kernel_rfl) (by kernel_rfl) (fun _ _ _ h => h) (.inl ⟨rfl, fun w0 hw0 => ?a4⟩) hS ?_
  case a4 =>
    have g := hw0.blks; rw [HR.out] at g; have e0 := g.1.c0; have e1 := g.1.c1; have e2 := g.2.2.1.c0; have e3 := g.2.2.1.c1
    go_simp
  clear hS
  have hyy := HY.out
  have hoo := HO.out
  refine wpAnyH_all (rs := [2]) (by kernel_rfl) (by simp) ?_
  intro i0 hi0
  obtain rfl : i0 = 2 := by simpa using hi0
  refine wpOp_plain rfl rfl fun K' hK' => ?_
  go_simp
  have gb := E.blks
  rw [HR.out] at gb
  refine (series_calls _ ny n7 nx Ay A7 Ax ky k7 mx cy c7 cx b7 (w.heap.size + 1) w.heap.size (circY x) (circY2 x p) p 1 r ⟨by omega, hp.2⟩ hyy.2.2.2.2 hyy.1 hyy.2.2.2.1 (by omega) ⟨hr.1, by omega⟩ E.wds.2.2.1 gb.2.2.2.1 E.wds.2.1 gb.2.2.2.2.2.1 gb.2.2.2.2.2.2.1).mono ?_
  clear gb
  rintro e W2 ⟨n1, A1, m1, c1, rfl, h1, hb2⟩
  replace E := (E.below hb2).wd h1
  clear h1 hb2
  refine hK' _ _ ⟨E.drop.drop.dropN, ?_⟩
  clear hK' K'
  refine wpAnyH_all (rs := [5]) (by kernel_rfl) (by simp) ?_
  intro i0 hi0
  obtain rfl : i0 = 5 := by simpa using hi0
  refine wpOp_plain rfl rfl fun K' hK' => ?_
  go_simp
  have gb := E.blks
  rw [HR.out] at gb
  refine (series_calls _ n8 n7 nx A8 A7 Ax k8 k7 mx c8 c7 cx b7 (w.heap.size + 1) w.heap.size (shiftF 1 p) (circY2 x p) p 0 r ⟨by omega, hp.2⟩ hyy.2.2.2.2 hoo.1 hyy.2.2.2.1 (by omega) ⟨hr.1, by omega⟩ E.wds.2.1 gb.2.2.2.1 E.wds.2.2.1 gb.2.2.2.2.2.1 gb.2.2.2.2.2.2.1).mono ?_
  clear gb
  rintro e W3 ⟨n2, A2, m2, c2, rfl, h2, hb3⟩
  replace E := (E.below hb3).wd h2
  clear h2 hb3 hyy hoo
  refine hK' _ _ ⟨E.drop.drop.dropN.dropN, ?_⟩
  clear hK' K'
  have f0 : W3.cell? ⟨w.heap.size + 1 + 1, 0, none⟩ = some (.bool false) := E.blks.1.at 0
  have f1 : W3.cell? ⟨w.heap.size + 1 + 1, 1, none⟩ = some (.slice none 0 0) := E.blks.1.at 1
  have f2 : W3.cell? ⟨w.heap.size + 1 + 1, 2, none⟩ = some (.int .i64 0) := E.blks.1.at 2
  have g0 := E.blks.1.fr 0
  have g1 := E.blks.1.fr 1
  have g2 := E.blks.1.fr 2
  refine wpAnyH_all (rs := [6]) (by kernel_rfl) (by simp) ?_
  intro i0 hi0
  obtain rfl : i0 = 6 := by simpa using hi0
  refine wpOp_plain rfl rfl fun K' hK' => ?_
  go_simp
  replace E := E.set3 (by omega) ⟨by simp, hFs.out.1⟩ (.bool n1) (.slice A1 m1 c1) (.int .i64 (serR (circY2 x p) p 1 (circY x) r))
  clear f0 f1 f2 g0 g1 g2
  generalize (((W3.setCell ⟨w.heap.size + 1 + 1, 0, none⟩ (.bool n1)).setCell ⟨w.heap.size + 1 + 1, 1, none⟩ (.slice A1 m1 c1)).setCell ⟨w.heap.size + 1 + 1, 2, none⟩ (.int .i64 (serR (circY2 x p) p 1 (circY x) r))) = W4 at *
  refine hK' _ _ ⟨E.drop.drop.dropN.dropN, ?_⟩
  clear hK' K'
  have f0 : W4.cell? ⟨w.heap.size + 1 + 1 + 1, 0, none⟩ = some (.bool false) := E.blks.2.1.at 0
  have f1 : W4.cell? ⟨w.heap.size + 1 + 1 + 1, 1, none⟩ = some (.slice none 0 0) := E.blks.2.1.at 1
  have f2 : W4.cell? ⟨w.heap.size + 1 + 1 + 1, 2, none⟩ = some (.int .i64 0) := E.blks.2.1.at 2
  have g0 := E.blks.2.1.fr 0
  have g1 := E.blks.2.1.fr 1
  have g2 := E.blks.2.1.fr 2
  refine wpAnyH_all (rs := [7]) (by kernel_rfl) (by simp) ?_
  intro i0 hi0
  obtain rfl : i0 = 7 := by simpa using hi0
  refine wpOp_plain rfl rfl fun K' hK' => ?_
  go_simp
  replace E := (E.swap.set3 (by omega) ⟨by simp, hFs.out.2⟩ (.bool n2) (.slice A2 m2 c2) (.int .i64 (serR (circY2 x p) p 0 (shiftF 1 p) r))).swap
  clear f0 f1 f2 g0 g1 g2
  generalize (((W4.setCell ⟨w.heap.size + 1 + 1 + 1, 0, none⟩ (.bool n2)).setCell ⟨w.heap.size + 1 + 1 + 1, 1, none⟩ (.slice A2 m2 c2)).setCell ⟨w.heap.size + 1 + 1 + 1, 2, none⟩ (.int .i64 (serR (circY2 x p) p 0 (shiftF 1 p) r))) = W5 at *
  refine hK' _ _ ⟨E.drop.drop.dropN.dropN, wpAnyH_done (by kernel_rfl) ?_ _⟩
  clear hK' K'
  have E9 : Env w ((w.heap.size + 1 + 1, #[.bool n1, .slice A1 m1 c1, .int .i64 (Q 0).rs], 241) :: (w.heap.size + 1 + 1 + 1, #[.bool n2, .slice A2 m2 c2, .int .i64 (Q 0).rc], 241) :: R) [(n2, A2, m2, c2, (Q 0).c), (n1, A1, m1, c1, (Q 0).s), (n8, A8, k8, c8, shiftF 1 p)] W5 := by
    rw [HCI.out]
    obtain ⟨hb, ⟨h1, h2, h3, _⟩, hl⟩ := E
    exact ⟨hb, ⟨h1, h2, h3, trivial⟩, hl⟩
  have HE9 := Lib.hid E9
  clear E E9
  go_wp2_with fail
  go_loopw [31] (fun i wr => ∃ (j : Nat) (n1 : Bool) (A1 : Option Addr) (m1 c1 : Nat) (n2 : Bool) (A2 : Option Addr) (m2 c2 : Nat), j ≤ 5 ∧ i = .int .i64 j ∧ Env w ((w.heap.size + 1 + 1, #[.bool n1, .slice A1 m1 c1, .int .i64 (Q j).rs], 241) :: (w.heap.size + 1 + 1 + 1, #[.bool n2, .slice A2 m2 c2, .int .i64 (Q j).rc], 241) :: R) [(n2, A2, m2, c2, (Q j).c), (n1, A1, m1, c1, (Q j).s), (n8, A8, k8, c8, shiftF 1 p)] wr) (fun i _ => 5 - (intOf i).toNat)
  case atStart => exact ⟨0, n1, A1, m1, c1, n2, A2, m2, c2, by omega, rfl, HE9.out⟩
  case round =>
    clear HE9
    obtain ⟨j, n1, A1, m1, c1, n2, A2, m2, c2, hj, rfl, Ej⟩ := hrel
    by_cases hlt : j < 5
    · have hq := HS.out j
      obtain ⟨_, _, _, _, hrs0, hrs1, hrc0, hrc1⟩ := HC.out j hj
      have hQs : Hid (Q (j + 1) = ⟨shiftF (Num.fit ((Q j).s * (Q j).c)) (1 - p), 2 * ((Q j).rs + (Q j).rc) + 4, Num.fit (shiftF 1 p - shiftF (Num.fit ((Q j).s * (Q j).s)) (1 - p)), 4 * (Q j).rs + 4⟩) := Lib.hid hq
      clear hq HC HS
      generalize (Q j).s = sj at *
      generalize (Q j).c = cj at *
      generalize (Q j).rs = rs at *
      generalize (Q j).rc = rc at *
      have hv1 : IntKind.i64.wrap (rs + rc) = rs + rc := wrap_i64 _ (by omega) (by omega)
      have hv2 : IntKind.i64.wrap (2 * (rs + rc)) = 2 * (rs + rc) := wrap_i64 _ (by omega) (by omega)
      have hv3 : IntKind.i64.wrap (2 * (rs + rc) + 4) = 2 * (rs + rc) + 4 := wrap_i64 _ (by omega) (by omega)
      have hv4 : IntKind.i64.wrap (4 * rs) = 4 * rs := wrap_i64 _ (by omega) (by omega)
      have hv5 : IntKind.i64.wrap (4 * rs + 4) = 4 * rs + 4 := wrap_i64 _ (by omega) (by omega)
      obtain ⟨L, hL⟩ : ∃ L : List (Nat × Array Value × TypeId), L = (w.heap.size + 1 + 1, #[.bool n1, .slice A1 m1 c1, .int .i64 rs], 241) :: (w.heap.size + 1 + 1 + 1, #[.bool n2, .slice A2 m2 c2, .int .i64 rc], 241) :: R := ⟨_, rfl⟩
      have HL := Lib.hid hL
      rw [← hL] at Ej
      have HEj := Lib.hid Ej
      clear hL Ej
      go_wp2_with fail
      apply cutVar2 (F := fun b n A k c W => Env w ((b, #[.bool n, .slice A k c], 92) :: L) [(n, A, k, c, shiftF (Num.fit (sj * cj)) (1 - p)), (n2, A2, m2, c2, cj), (n1, A1, m1, c1, sj), (n8, A8, k8, c8, shiftF 1 p)] W ∧ b8 < b)
      · intro key
        refine region_start (S := fun W' => Env w L [(n2, A2, m2, c2, cj), (n1, A1, m1, c1, sj), (n8, A8, k8, c8, shiftF 1 p)] W') (by kernel_rfl) ?_
        intro W hW
        have E : Env w L [(n2, A2, m2, c2, cj), (n1, A1, m1, c1, sj), (n8, A8, k8, c8, shiftF 1 p)] W := by rw [hW]; exact HEj.out.drew
        obtain ⟨B, hBe⟩ : ∃ B, B = W.heap.size := ⟨_, rfl⟩
        have hB : B ≤ W.heap.size := Nat.le_of_eq hBe
        have hBw : b8 < B := by rw [hBe]; have g := E.blks; rw [HL.out, HR.out] at g; exact g.2.2.1.lt
        have hbel := E.bel
        clear hBe hW
        have hS := E
        refine wpAnyH_take (i := 0) (v := .pointer (some ⟨w.heap.size + 1 + 1, 0, none⟩)) rfl (by kernel_rfl) (by kernel_rfl) (by kernel_rfl) (fun _ _ _ h => h) (.inl ⟨rfl, fun w0 hw0 => ?a0⟩) hS ?_
        case a0 =>
          have g := hw0.blks; rw [HL.out, HR.out] at g; have e0 : w0.cell? ⟨w.heap.size + 1 + 1, 0, none⟩ = some (.bool n1) := g.1.at 0; have e1 : w0.cell? ⟨w.heap.size + 1 + 1, 1, none⟩ = some (.slice A1 m1 c1) := g.1.at 1; have e2 : w0.cell? ⟨w.heap.size + 1 + 1 + 1, 0, none⟩ = some (.bool n2) := g.2.1.at 0; have e3 : w0.cell? ⟨w.heap.size + 1 + 1 + 1, 1, none⟩ = some (.slice A2 m2 c2) := g.2.1.at 1; have e4 := g.2.2.2.2.2.1.c
          go_simp
        refine wpAnyH_take (i := 1) (v := .agg #[.bool n1, .slice A1 m1 c1]) rfl (by kernel_rfl) (by kernel_rfl) (by kernel_rfl) (fun _ _ _ h => h) (.inl ⟨rfl, fun w0 hw0 => ?a1⟩) hS ?_
        case a1 =>
          have g := hw0.blks; rw [HL.out, HR.out] at g; have e0 : w0.cell? ⟨w.heap.size + 1 + 1, 0, none⟩ = some (.bool n1) := g.1.at 0; have e1 : w0.cell? ⟨w.heap.size + 1 + 1, 1, none⟩ = some (.slice A1 m1 c1) := g.1.at 1; have e2 : w0.cell? ⟨w.heap.size + 1 + 1 + 1, 0, none⟩ = some (.bool n2) := g.2.1.at 0; have e3 : w0.cell? ⟨w.heap.size + 1 + 1 + 1, 1, none⟩ = some (.slice A2 m2 c2) := g.2.1.at 1; have e4 := g.2.2.2.2.2.1.c
          go_simp
        refine wpAnyH_take (i := 2) (v := .pointer (some ⟨w.heap.size + 1 + 1 + 1, 0, none⟩)) rfl (by kernel_rfl) (by kernel_rfl) (by kernel_rfl) (fun _ _ _ h => h) (.inl ⟨rfl, fun w0 hw0 => ?a2⟩) hS ?_
        case a2 =>
          have g := hw0.blks; rw [HL.out, HR.out] at g; have e0 : w0.cell? ⟨w.heap.size + 1 + 1, 0, none⟩ = some (.bool n1) := g.1.at 0; have e1 : w0.cell? ⟨w.heap.size + 1 + 1, 1, none⟩ = some (.slice A1 m1 c1) := g.1.at 1; have e2 : w0.cell? ⟨w.heap.size + 1 + 1 + 1, 0, none⟩ = some (.bool n2) := g.2.1.at 0; have e3 : w0.cell? ⟨w.heap.size + 1 + 1 + 1, 1, none⟩ = some (.slice A2 m2 c2) := g.2.1.at 1; have e4 := g.2.2.2.2.2.1.c
          go_simp
        refine wpAnyH_take (i := 3) (v := .agg #[.bool n2, .slice A2 m2 c2]) rfl (by kernel_rfl) (by kernel_rfl) (by kernel_rfl) (fun _ _ _ h => h) (.inl ⟨rfl, fun w0 hw0 => ?a3⟩) hS ?_
        case a3 =>
          have g := hw0.blks; rw [HL.out, HR.out] at g; have e0 : w0.cell? ⟨w.heap.size + 1 + 1, 0, none⟩ = some (.bool n1) := g.1.at 0; have e1 : w0.cell? ⟨w.heap.size + 1 + 1, 1, none⟩ = some (.slice A1 m1 c1) := g.1.at 1; have e2 : w0.cell? ⟨w.heap.size + 1 + 1 + 1, 0, none⟩ = some (.bool n2) := g.2.1.at 0; have e3 : w0.cell? ⟨w.heap.size + 1 + 1 + 1, 1, none⟩ = some (.slice A2 m2 c2) := g.2.1.at 1; have e4 := g.2.2.2.2.2.1.c
          go_simp
        refine wpAnyH_take (i := 5) (v := .int .i64 p) rfl (by kernel_rfl) (by kernel_rfl) (by kernel_rfl) (fun _ _ _ h => h) (.inl ⟨rfl, fun w0 hw0 => ?a5⟩) hS ?_
        case a5 =>
          have g := hw0.blks; rw [HL.out, HR.out] at g; have e0 : w0.cell? ⟨w.heap.size + 1 + 1, 0, none⟩ = some (.bool n1) := g.1.at 0; have e1 : w0.cell? ⟨w.heap.size + 1 + 1, 1, none⟩ = some (.slice A1 m1 c1) := g.1.at 1; have e2 : w0.cell? ⟨w.heap.size + 1 + 1 + 1, 0, none⟩ = some (.bool n2) := g.2.1.at 0; have e3 : w0.cell? ⟨w.heap.size + 1 + 1 + 1, 1, none⟩ = some (.slice A2 m2 c2) := g.2.1.at 1; have e4 := g.2.2.2.2.2.1.c
          go_simp
        refine wpAnyH_take (i := 6) (v := .int .i64 (1 - p)) rfl (by kernel_rfl) (by kernel_rfl) (by kernel_rfl) (fun _ _ _ h => h) (.inl ⟨rfl, fun w0 hw0 => ?a6⟩) hS ?_
        case a6 =>
          have g := hw0.blks; rw [HL.out, HR.out] at g; have e0 : w0.cell? ⟨w.heap.size + 1 + 1, 0, none⟩ = some (.bool n1) := g.1.at 0; have e1 : w0.cell? ⟨w.heap.size + 1 + 1, 1, none⟩ = some (.slice A1 m1 c1) := g.1.at 1; have e2 : w0.cell? ⟨w.heap.size + 1 + 1 + 1, 0, none⟩ = some (.bool n2) := g.2.1.at 0; have e3 : w0.cell? ⟨w.heap.size + 1 + 1 + 1, 1, none⟩ = some (.slice A2 m2 c2) := g.2.1.at 1; have e4 := g.2.2.2.2.2.1.c
          go_simp
        clear hS
        refine wpAnyH_all (rs := [4, 8]) (by kernel_rfl) (by simp) ?_
        intro i0 hi0
        have hi1 : i0 = 4 ∨ i0 = 8 := by simpa using hi0
        clear hi0
        rcases hi1 with rfl | rfl
        · refine wpOp_plain rfl rfl fun K' hK' => ?_
          go_simp
          refine (tmul_calls _ n1 n2 A1 A2 m1 m2 c1 c2 sj cj E.wds.2.1 E.wds.1).mono ?_
          rintro e W ⟨na, Aa, ka, ca, rfl, hna, hstep⟩
          have E := E.below hstep
          have hbel := hbel.trans (hstep.mono hbel.size)
          have hB := Nat.le_trans hB hstep.size
          refine hK' _ _ ⟨E, ?_⟩
          clear hK' K' hstep
          refine wpAnyH_all (rs := [7, 8]) (by kernel_rfl) (by simp) ?_
          intro i0 hi0
          have hi1 : i0 = 7 ∨ i0 = 8 := by simpa using hi0
          clear hi0
          rcases hi1 with rfl | rfl
          · refine wpOp_plain rfl rfl fun K' hK' => ?_
            go_simp
            refine (tshift_calls _ na Aa ka ca (Num.fit (sj * cj)) (1 - p) hna).mono ?_
            rintro e W ⟨nb, Ab, kb, cb, rfl, hnb, hstep⟩
            have E := E.below hstep
            have hna := hna.below hstep
            have hbel := hbel.trans (hstep.mono hbel.size)
            have hB := Nat.le_trans hB hstep.size
            refine hK' _ _ ⟨E, ?_⟩
            clear hK' K' hstep
            refine wpAnyH_all (rs := [8]) (by kernel_rfl) (by simp) ?_
            intro i0 hi0
            obtain rfl : i0 = 8 := by simpa using hi0
            refine wpOp_plain rfl rfl fun K' hK' => ?_
            go_simp
            have hal := (Below.refl W.heap.size W).alloc (Nat.le_refl _) (.cells #[.bool false, .slice none 0 0] 92)
            have h5 := Blk.new W #[.bool false, .slice none 0 0] 92
            obtain ⟨b5, hb5⟩ : ∃ b5, b5 = W.heap.size := ⟨_, rfl⟩
            rw [← hb5] at h5 ⊢
            have hb5B : B ≤ b5 := by omega
            have E := E.below hal
            have hna := hna.below hal
            have hnb := hnb.below hal
            have hbel := hbel.trans (hal.mono hbel.size)
            have hB := Nat.le_trans hB hal.size
            clear hb5 hal
            generalize W.alloc (.cells #[.bool false, .slice none 0 0] 92) = W at *
            refine hK' _ _ ⟨E, ?_⟩
            clear hK' K'
            have f0 := h5.c0
            have f1 := h5.c1
            have f2 := h5.fr 0
            have f3 := h5.fr 1
            refine wpAnyH_all (rs := [9]) (by kernel_rfl) (by simp) ?_
            intro i0 hi0
            obtain rfl : i0 = 9 := by simpa using hi0
            refine wpOp_plain rfl rfl fun K' hK' => ?_
            go_simp
            exact hK' _ _ ⟨((E.blk h5).set2 (by omega) (by rw [HL.out, HR.out]; simp [Free]; omega) _ _).drop, wpAnyH_done (by kernel_rfl) (key b5 na Aa ka ca nb Ab kb cb _ ⟨((E.blk h5).set2 (by omega) (by rw [HL.out, HR.out]; simp [Free]; omega) _ _).wd (hnb.set2 h5 _ _), by omega⟩) _⟩
          · refine wpOp_plain rfl rfl fun K' hK' => ?_
            go_simp
            have hal := (Below.refl W.heap.size W).alloc (Nat.le_refl _) (.cells #[.bool false, .slice none 0 0] 92)
            have h5 := Blk.new W #[.bool false, .slice none 0 0] 92
            obtain ⟨b5, hb5⟩ : ∃ b5, b5 = W.heap.size := ⟨_, rfl⟩
            rw [← hb5] at h5 ⊢
            have hb5B : B ≤ b5 := by omega
            have E := E.below hal
            have hna := hna.below hal
            have hbel := hbel.trans (hal.mono hbel.size)
            have hB := Nat.le_trans hB hal.size
            clear hb5 hal
            generalize W.alloc (.cells #[.bool false, .slice none 0 0] 92) = W at *
            refine hK' _ _ ⟨E, ?_⟩
            clear hK' K'
            refine wpAnyH_all (rs := [7]) (by kernel_rfl) (by simp) ?_
            intro i0 hi0
            obtain rfl : i0 = 7 := by simpa using hi0
            refine wpOp_plain rfl rfl fun K' hK' => ?_
            go_simp
            refine (tshift_calls _ na Aa ka ca (Num.fit (sj * cj)) (1 - p) hna).mono ?_
            rintro e W ⟨nb, Ab, kb, cb, rfl, hnb, hstep⟩
            have E := E.below hstep
            have hna := hna.below hstep
            have h5 := h5.below hstep
            have hbel := hbel.trans (hstep.mono hbel.size)
            have hB := Nat.le_trans hB hstep.size
            refine hK' _ _ ⟨E, ?_⟩
            clear hK' K' hstep
            have f0 := h5.c0
            have f1 := h5.c1
            have f2 := h5.fr 0
            have f3 := h5.fr 1
            refine wpAnyH_all (rs := [9]) (by kernel_rfl) (by simp) ?_
            intro i0 hi0
            obtain rfl : i0 = 9 := by simpa using hi0
            refine wpOp_plain rfl rfl fun K' hK' => ?_
            go_simp
            exact hK' _ _ ⟨((E.blk h5).set2 (by omega) (by rw [HL.out, HR.out]; simp [Free]; omega) _ _).drop, wpAnyH_done (by kernel_rfl) (key b5 na Aa ka ca nb Ab kb cb _ ⟨((E.blk h5).set2 (by omega) (by rw [HL.out, HR.out]; simp [Free]; omega) _ _).wd (hnb.set2 h5 _ _), by omega⟩) _⟩
        · refine wpOp_plain rfl rfl fun K' hK' => ?_
          go_simp
          have hal := (Below.refl W.heap.size W).alloc (Nat.le_refl _) (.cells #[.bool false, .slice none 0 0] 92)
          have h5 := Blk.new W #[.bool false, .slice none 0 0] 92
          obtain ⟨b5, hb5⟩ : ∃ b5, b5 = W.heap.size := ⟨_, rfl⟩
          rw [← hb5] at h5 ⊢
          have hb5B : B ≤ b5 := by omega
          have E := E.below hal
          have hbel := hbel.trans (hal.mono hbel.size)
          have hB := Nat.le_trans hB hal.size
          clear hb5 hal
          generalize W.alloc (.cells #[.bool false, .slice none 0 0] 92) = W at *
          refine hK' _ _ ⟨E, ?_⟩
          clear hK' K'
          refine wpAnyH_all (rs := [4]) (by kernel_rfl) (by simp) ?_
          intro i0 hi0
          obtain rfl : i0 = 4 := by simpa using hi0
          refine wpOp_plain rfl rfl fun K' hK' => ?_
          go_simp
          refine (tmul_calls _ n1 n2 A1 A2 m1 m2 c1 c2 sj cj E.wds.2.1 E.wds.1).mono ?_
          rintro e W ⟨na, Aa, ka, ca, rfl, hna, hstep⟩
          have E := E.below hstep
          have h5 := h5.below hstep
          have hbel := hbel.trans (hstep.mono hbel.size)
          have hB := Nat.le_trans hB hstep.size
          refine hK' _ _ ⟨E, ?_⟩
          clear hK' K' hstep
          refine wpAnyH_all (rs := [7]) (by kernel_rfl) (by simp) ?_
          intro i0 hi0
          obtain rfl : i0 = 7 := by simpa using hi0
          refine wpOp_plain rfl rfl fun K' hK' => ?_
          go_simp
          refine (tshift_calls _ na Aa ka ca (Num.fit (sj * cj)) (1 - p) hna).mono ?_
          rintro e W ⟨nb, Ab, kb, cb, rfl, hnb, hstep⟩
          have E := E.below hstep
          have h5 := h5.below hstep
          have hna := hna.below hstep
          have hbel := hbel.trans (hstep.mono hbel.size)
          have hB := Nat.le_trans hB hstep.size
          refine hK' _ _ ⟨E, ?_⟩
          clear hK' K' hstep
          have f0 := h5.c0
          have f1 := h5.c1
          have f2 := h5.fr 0
          have f3 := h5.fr 1
          refine wpAnyH_all (rs := [9]) (by kernel_rfl) (by simp) ?_
          intro i0 hi0
          obtain rfl : i0 = 9 := by simpa using hi0
          refine wpOp_plain rfl rfl fun K' hK' => ?_
          go_simp
          exact hK' _ _ ⟨((E.blk h5).set2 (by omega) (by rw [HL.out, HR.out]; simp [Free]; omega) _ _).drop, wpAnyH_done (by kernel_rfl) (key b5 na Aa ka ca nb Ab kb cb _ ⟨((E.blk h5).set2 (by omega) (by rw [HL.out, HR.out]; simp [Free]; omega) _ _).wd (hnb.set2 h5 _ _), by omega⟩) _⟩
      rintro b10 _ _ _ _ n10 A10 k10 c10 V4 ⟨E10, hb10⟩
      have HE10 := Lib.hid E10
      clear E10 HEj
      go_wp2_with fail
      apply cutVar2 (F := fun b n A k c W => Env w ((b, #[.bool n, .slice A k c], 92) :: (b10, #[.bool n10, .slice A10 k10 c10], 92) :: L) [(n, A, k, c, shiftF (Num.fit (sj * sj)) (1 - p)), (n10, A10, k10, c10, shiftF (Num.fit (sj * cj)) (1 - p)), (n2, A2, m2, c2, cj), (n1, A1, m1, c1, sj), (n8, A8, k8, c8, shiftF 1 p)] W ∧ b10 < b)
      · intro key
        refine region_start (S := fun W' => Env w ((b10, #[.bool n10, .slice A10 k10 c10], 92) :: L) [(n10, A10, k10, c10, shiftF (Num.fit (sj * cj)) (1 - p)), (n2, A2, m2, c2, cj), (n1, A1, m1, c1, sj), (n8, A8, k8, c8, shiftF 1 p)] W') (by kernel_rfl) ?_
        intro W hW
        have E : Env w ((b10, #[.bool n10, .slice A10 k10 c10], 92) :: L) [(n10, A10, k10, c10, shiftF (Num.fit (sj * cj)) (1 - p)), (n2, A2, m2, c2, cj), (n1, A1, m1, c1, sj), (n8, A8, k8, c8, shiftF 1 p)] W := by rw [hW]; exact HE10.out.drew
        obtain ⟨B, hBe⟩ : ∃ B, B = W.heap.size := ⟨_, rfl⟩
        have hB : B ≤ W.heap.size := Nat.le_of_eq hBe
        have hBw : b10 < B := by rw [hBe]; exact E.blks.1.lt
        have hbel := E.bel
        clear hBe hW
        have hS := E
        refine wpAnyH_take (i := 0) (v := .pointer (some ⟨w.heap.size + 1 + 1, 0, none⟩)) rfl (by kernel_rfl) (by kernel_rfl) (by kernel_rfl) (fun _ _ _ h => h) (.inl ⟨rfl, fun w0 hw0 => ?a0⟩) hS ?_
        case a0 =>
          have g := hw0.blks.2; rw [HL.out, HR.out] at g; have e0 : w0.cell? ⟨w.heap.size + 1 + 1, 0, none⟩ = some (.bool n1) := g.1.at 0; have e1 : w0.cell? ⟨w.heap.size + 1 + 1, 1, none⟩ = some (.slice A1 m1 c1) := g.1.at 1; have e4 := g.2.2.2.2.2.1.c
          go_simp
        refine wpAnyH_take (i := 1) (v := .agg #[.bool n1, .slice A1 m1 c1]) rfl (by kernel_rfl) (by kernel_rfl) (by kernel_rfl) (fun _ _ _ h => h) (.inl ⟨rfl, fun w0 hw0 => ?a1⟩) hS ?_
        case a1 =>
          have g := hw0.blks.2; rw [HL.out, HR.out] at g; have e0 : w0.cell? ⟨w.heap.size + 1 + 1, 0, none⟩ = some (.bool n1) := g.1.at 0; have e1 : w0.cell? ⟨w.heap.size + 1 + 1, 1, none⟩ = some (.slice A1 m1 c1) := g.1.at 1; have e4 := g.2.2.2.2.2.1.c
          go_simp
        refine wpAnyH_take (i := 2) (v := .pointer (some ⟨w.heap.size + 1 + 1, 0, none⟩)) rfl (by kernel_rfl) (by kernel_rfl) (by kernel_rfl) (fun _ _ _ h => h) (.inl ⟨rfl, fun w0 hw0 => ?a2⟩) hS ?_
        case a2 =>
          have g := hw0.blks.2; rw [HL.out, HR.out] at g; have e0 : w0.cell? ⟨w.heap.size + 1 + 1, 0, none⟩ = some (.bool n1) := g.1.at 0; have e1 : w0.cell? ⟨w.heap.size + 1 + 1, 1, none⟩ = some (.slice A1 m1 c1) := g.1.at 1; have e4 := g.2.2.2.2.2.1.c
          go_simp
        refine wpAnyH_take (i := 3) (v := .agg #[.bool n1, .slice A1 m1 c1]) rfl (by kernel_rfl) (by kernel_rfl) (by kernel_rfl) (fun _ _ _ h => h) (.inl ⟨rfl, fun w0 hw0 => ?a3⟩) hS ?_
        case a3 =>
          have g := hw0.blks.2; rw [HL.out, HR.out] at g; have e0 : w0.cell? ⟨w.heap.size + 1 + 1, 0, none⟩ = some (.bool n1) := g.1.at 0; have e1 : w0.cell? ⟨w.heap.size + 1 + 1, 1, none⟩ = some (.slice A1 m1 c1) := g.1.at 1; have e4 := g.2.2.2.2.2.1.c
          go_simp
        refine wpAnyH_take (i := 5) (v := .int .i64 p) rfl (by kernel_rfl) (by kernel_rfl) (by kernel_rfl) (fun _ _ _ h => h) (.inl ⟨rfl, fun w0 hw0 => ?a5⟩) hS ?_
        case a5 =>
          have g := hw0.blks.2; rw [HL.out, HR.out] at g; have e0 : w0.cell? ⟨w.heap.size + 1 + 1, 0, none⟩ = some (.bool n1) := g.1.at 0; have e1 : w0.cell? ⟨w.heap.size + 1 + 1, 1, none⟩ = some (.slice A1 m1 c1) := g.1.at 1; have e4 := g.2.2.2.2.2.1.c
          go_simp
        refine wpAnyH_take (i := 6) (v := .int .i64 (1 - p)) rfl (by kernel_rfl) (by kernel_rfl) (by kernel_rfl) (fun _ _ _ h => h) (.inl ⟨rfl, fun w0 hw0 => ?a6⟩) hS ?_
        case a6 =>
          have g := hw0.blks.2; rw [HL.out, HR.out] at g; have e0 : w0.cell? ⟨w.heap.size + 1 + 1, 0, none⟩ = some (.bool n1) := g.1.at 0; have e1 : w0.cell? ⟨w.heap.size + 1 + 1, 1, none⟩ = some (.slice A1 m1 c1) := g.1.at 1; have e4 := g.2.2.2.2.2.1.c
          go_simp
        clear hS
        refine wpAnyH_all (rs := [4, 8]) (by kernel_rfl) (by simp) ?_
        intro i0 hi0
        have hi1 : i0 = 4 ∨ i0 = 8 := by simpa using hi0
        clear hi0
        rcases hi1 with rfl | rfl
        · refine wpOp_plain rfl rfl fun K' hK' => ?_
          go_simp
          refine (tmul_calls _ n1 n1 A1 A1 m1 m1 c1 c1 sj sj E.wds.2.2.1 E.wds.2.2.1).mono ?_
          rintro e W ⟨na, Aa, ka, ca, rfl, hna, hstep⟩
          have E := E.below hstep
          have hbel := hbel.trans (hstep.mono hbel.size)
          have hB := Nat.le_trans hB hstep.size
          refine hK' _ _ ⟨E, ?_⟩
          clear hK' K' hstep
          refine wpAnyH_all (rs := [7, 8]) (by kernel_rfl) (by simp) ?_
          intro i0 hi0
          have hi1 : i0 = 7 ∨ i0 = 8 := by simpa using hi0
          clear hi0
          rcases hi1 with rfl | rfl
          · refine wpOp_plain rfl rfl fun K' hK' => ?_
            go_simp
            refine (tshift_calls _ na Aa ka ca (Num.fit (sj * sj)) (1 - p) hna).mono ?_
            rintro e W ⟨nb, Ab, kb, cb, rfl, hnb, hstep⟩
            have E := E.below hstep
            have hna := hna.below hstep
            have hbel := hbel.trans (hstep.mono hbel.size)
            have hB := Nat.le_trans hB hstep.size
            refine hK' _ _ ⟨E, ?_⟩
            clear hK' K' hstep
            refine wpAnyH_all (rs := [8]) (by kernel_rfl) (by simp) ?_
            intro i0 hi0
            obtain rfl : i0 = 8 := by simpa using hi0
            refine wpOp_plain rfl rfl fun K' hK' => ?_
            go_simp
            have hal := (Below.refl W.heap.size W).alloc (Nat.le_refl _) (.cells #[.bool false, .slice none 0 0] 92)
            have h5 := Blk.new W #[.bool false, .slice none 0 0] 92
            obtain ⟨b5, hb5⟩ : ∃ b5, b5 = W.heap.size := ⟨_, rfl⟩
            rw [← hb5] at h5 ⊢
            have hb5B : B ≤ b5 := by omega
            have E := E.below hal
            have hna := hna.below hal
            have hnb := hnb.below hal
            have hbel := hbel.trans (hal.mono hbel.size)
            have hB := Nat.le_trans hB hal.size
            clear hb5 hal
            generalize W.alloc (.cells #[.bool false, .slice none 0 0] 92) = W at *
            refine hK' _ _ ⟨E, ?_⟩
            clear hK' K'
            have f0 := h5.c0
            have f1 := h5.c1
            have f2 := h5.fr 0
            have f3 := h5.fr 1
            refine wpAnyH_all (rs := [9]) (by kernel_rfl) (by simp) ?_
            intro i0 hi0
            obtain rfl : i0 = 9 := by simpa using hi0
            refine wpOp_plain rfl rfl fun K' hK' => ?_
            go_simp
            exact hK' _ _ ⟨((E.blk h5).set2 (by omega) (by rw [HL.out, HR.out]; simp [Free]; omega) _ _).drop, wpAnyH_done (by kernel_rfl) (key b5 na Aa ka ca nb Ab kb cb _ ⟨((E.blk h5).set2 (by omega) (by rw [HL.out, HR.out]; simp [Free]; omega) _ _).wd (hnb.set2 h5 _ _), by omega⟩) _⟩
          · refine wpOp_plain rfl rfl fun K' hK' => ?_
            go_simp
            have hal := (Below.refl W.heap.size W).alloc (Nat.le_refl _) (.cells #[.bool false, .slice none 0 0] 92)
            have h5 := Blk.new W #[.bool false, .slice none 0 0] 92
            obtain ⟨b5, hb5⟩ : ∃ b5, b5 = W.heap.size := ⟨_, rfl⟩
            rw [← hb5] at h5 ⊢
            have hb5B : B ≤ b5 := by omega
            have E := E.below hal
            have hna := hna.below hal
            have hbel := hbel.trans (hal.mono hbel.size)
            have hB := Nat.le_trans hB hal.size
            clear hb5 hal
            generalize W.alloc (.cells #[.bool false, .slice none 0 0] 92) = W at *
            refine hK' _ _ ⟨E, ?_⟩
            clear hK' K'
            refine wpAnyH_all (rs := [7]) (by kernel_rfl) (by simp) ?_
            intro i0 hi0
            obtain rfl : i0 = 7 := by simpa using hi0
            refine wpOp_plain rfl rfl fun K' hK' => ?_
            go_simp
            refine (tshift_calls _ na Aa ka ca (Num.fit (sj * sj)) (1 - p) hna).mono ?_
            rintro e W ⟨nb, Ab, kb, cb, rfl, hnb, hstep⟩
            have E := E.below hstep
            have hna := hna.below hstep
            have h5 := h5.below hstep
            have hbel := hbel.trans (hstep.mono hbel.size)
            have hB := Nat.le_trans hB hstep.size
            refine hK' _ _ ⟨E, ?_⟩
            clear hK' K' hstep
            have f0 := h5.c0
            have f1 := h5.c1
            have f2 := h5.fr 0
            have f3 := h5.fr 1
            refine wpAnyH_all (rs := [9]) (by kernel_rfl) (by simp) ?_
            intro i0 hi0
            obtain rfl : i0 = 9 := by simpa using hi0
            refine wpOp_plain rfl rfl fun K' hK' => ?_
            go_simp
            exact hK' _ _ ⟨((E.blk h5).set2 (by omega) (by rw [HL.out, HR.out]; simp [Free]; omega) _ _).drop, wpAnyH_done (by kernel_rfl) (key b5 na Aa ka ca nb Ab kb cb _ ⟨((E.blk h5).set2 (by omega) (by rw [HL.out, HR.out]; simp [Free]; omega) _ _).wd (hnb.set2 h5 _ _), by omega⟩) _⟩
        · refine wpOp_plain rfl rfl fun K' hK' => ?_
          go_simp
          have hal := (Below.refl W.heap.size W).alloc (Nat.le_refl _) (.cells #[.bool false, .slice none 0 0] 92)
          have h5 := Blk.new W #[.bool false, .slice none 0 0] 92
          obtain ⟨b5, hb5⟩ : ∃ b5, b5 = W.heap.size := ⟨_, rfl⟩
          rw [← hb5] at h5 ⊢
          have hb5B : B ≤ b5 := by omega
          have E := E.below hal
          have hbel := hbel.trans (hal.mono hbel.size)
          have hB := Nat.le_trans hB hal.size
          clear hb5 hal
          generalize W.alloc (.cells #[.bool false, .slice none 0 0] 92) = W at *
          refine hK' _ _ ⟨E, ?_⟩
          clear hK' K'
          refine wpAnyH_all (rs := [4]) (by kernel_rfl) (by simp) ?_
          intro i0 hi0
          obtain rfl : i0 = 4 := by simpa using hi0
          refine wpOp_plain rfl rfl fun K' hK' => ?_
          go_simp
          refine (tmul_calls _ n1 n1 A1 A1 m1 m1 c1 c1 sj sj E.wds.2.2.1 E.wds.2.2.1).mono ?_
          rintro e W ⟨na, Aa, ka, ca, rfl, hna, hstep⟩
          have E := E.below hstep
          have h5 := h5.below hstep
          have hbel := hbel.trans (hstep.mono hbel.size)
          have hB := Nat.le_trans hB hstep.size
          refine hK' _ _ ⟨E, ?_⟩
          clear hK' K' hstep
          refine wpAnyH_all (rs := [7]) (by kernel_rfl) (by simp) ?_
          intro i0 hi0
          obtain rfl : i0 = 7 := by simpa using hi0
          refine wpOp_plain rfl rfl fun K' hK' => ?_
          go_simp
          refine (tshift_calls _ na Aa ka ca (Num.fit (sj * sj)) (1 - p) hna).mono ?_
          rintro e W ⟨nb, Ab, kb, cb, rfl, hnb, hstep⟩
          have E := E.below hstep
          have h5 := h5.below hstep
          have hna := hna.below hstep
          have hbel := hbel.trans (hstep.mono hbel.size)
          have hB := Nat.le_trans hB hstep.size
          refine hK' _ _ ⟨E, ?_⟩
          clear hK' K' hstep
          have f0 := h5.c0
          have f1 := h5.c1
          have f2 := h5.fr 0
          have f3 := h5.fr 1
          refine wpAnyH_all (rs := [9]) (by kernel_rfl) (by simp) ?_
          intro i0 hi0
          obtain rfl : i0 = 9 := by simpa using hi0
          refine wpOp_plain rfl rfl fun K' hK' => ?_
          go_simp
          exact hK' _ _ ⟨((E.blk h5).set2 (by omega) (by rw [HL.out, HR.out]; simp [Free]; omega) _ _).drop, wpAnyH_done (by kernel_rfl) (key b5 na Aa ka ca nb Ab kb cb _ ⟨((E.blk h5).set2 (by omega) (by rw [HL.out, HR.out]; simp [Free]; omega) _ _).wd (hnb.set2 h5 _ _), by omega⟩) _⟩
      rintro b11 _ _ _ _ n11 A11 k11 c11 V5 ⟨E11, hb11⟩
      have HE11 := Lib.hid E11
      clear E11 HE10
      go_wp2_with fail
      refine region_startM (m := 17) (A := fun W' => Env w ((b11, #[.bool n11, .slice A11 k11 c11], 92) :: (b10, #[.bool n10, .slice A10 k10 c10], 92) :: R) [(n11, A11, k11, c11, shiftF (Num.fit (sj * sj)) (1 - p)), (n10, A10, k10, c10, shiftF (Num.fit (sj * cj)) (1 - p)), (n8, A8, k8, c8, shiftF 1 p)] W') (B := fun W' => Blk W' (w.heap.size + 1 + 1) #[.bool n1, .slice A1 m1 c1, .int .i64 rs] 241 ∧ Blk W' (w.heap.size + 1 + 1 + 1) #[.bool n2, .slice A2 m2 c2, .int .i64 rc] 241) (by kernel_rfl) ?_
      intro W hW
      have E : Env w ((w.heap.size + 1 + 1, #[.bool n1, .slice A1 m1 c1, .int .i64 rs], 241) :: (w.heap.size + 1 + 1 + 1, #[.bool n2, .slice A2 m2 c2, .int .i64 rc], 241) :: (b11, #[.bool n11, .slice A11 k11 c11], 92) :: (b10, #[.bool n10, .slice A10 k10 c10], 92) :: R) [(n11, A11, k11, c11, shiftF (Num.fit (sj * sj)) (1 - p)), (n10, A10, k10, c10, shiftF (Num.fit (sj * cj)) (1 - p)), (n8, A8, k8, c8, shiftF 1 p)] W := by
        rw [hW]
        have E := HE11.out.drew
        rw [HL.out] at E
        obtain ⟨⟨g1, g2, g3, g4, g5⟩, ⟨h1, h2, _, _, h5, _⟩, hb⟩ := E
        exact ⟨⟨g3, g4, g1, g2, g5⟩, ⟨h1, h2, h5, trivial⟩, hb⟩
      clear hW HE11
      have hfr : Free (w.heap.size + 1 + 1) ((b11, #[.bool n11, .slice A11 k11 c11], 92) :: (b10, #[.bool n10, .slice A10 k10 c10], 92) :: R) ∧ Free (w.heap.size + 1 + 1 + 1) ((b11, #[.bool n11, .slice A11 k11 c11], 92) :: (b10, #[.bool n10, .slice A10 k10 c10], 92) :: R) := by rw [HR.out]; simp [Free]; omega
      have hS := And.intro E.drop.drop (And.intro E.blks.1 E.blks.2.1)
      refine wpAnyM_take (i := 0) (v := .agg #[.bool n10, .slice A10 k10 c10]) rfl (by kernel_rfl) (by kernel_rfl) (by kernel_rfl) rfl rfl (by kernel_rfl) (by kernel_rfl) (fun _ _ _ h => h) (.inl ⟨rfl, fun w0 hw0 => ?a0⟩) hS ?_
      case a0 =>
        have g := hw0.1.blks; rw [HR.out] at g; have e0 := g.1.c0; have e1 := g.1.c1; have e2 := g.2.1.c0; have e3 := g.2.1.c1; have e4 := g.2.2.1.c0; have e5 := g.2.2.1.c1; have e6 : w0.cell? ⟨w.heap.size + 1 + 1, 2, none⟩ = some (.int .i64 rs) := hw0.2.1.at 2; have e7 : w0.cell? ⟨w.heap.size + 1 + 1 + 1, 2, none⟩ = some (.int .i64 rc) := hw0.2.2.at 2
        go_simp
      refine wpAnyM_take (i := 1) (v := .pointer (some ⟨w.heap.size + 1 + 1, 2, none⟩)) rfl (by kernel_rfl) (by kernel_rfl) (by kernel_rfl) rfl rfl (by kernel_rfl) (by kernel_rfl) (fun _ _ _ h => h) (.inl ⟨rfl, fun w0 hw0 => ?a1⟩) hS ?_
      case a1 =>
        have g := hw0.1.blks; rw [HR.out] at g; have e0 := g.1.c0; have e1 := g.1.c1; have e2 := g.2.1.c0; have e3 := g.2.1.c1; have e4 := g.2.2.1.c0; have e5 := g.2.2.1.c1; have e6 : w0.cell? ⟨w.heap.size + 1 + 1, 2, none⟩ = some (.int .i64 rs) := hw0.2.1.at 2; have e7 : w0.cell? ⟨w.heap.size + 1 + 1 + 1, 2, none⟩ = some (.int .i64 rc) := hw0.2.2.at 2
        go_simp
      refine wpAnyM_take (i := 2) (v := .int .i64 rs) rfl (by kernel_rfl) (by kernel_rfl) (by kernel_rfl) rfl rfl (by kernel_rfl) (by kernel_rfl) (fun _ _ _ h => h) (.inl ⟨rfl, fun w0 hw0 => ?a2⟩) hS ?_
      case a2 =>
        have g := hw0.1.blks; rw [HR.out] at g; have e0 := g.1.c0; have e1 := g.1.c1; have e2 := g.2.1.c0; have e3 := g.2.1.c1; have e4 := g.2.2.1.c0; have e5 := g.2.2.1.c1; have e6 : w0.cell? ⟨w.heap.size + 1 + 1, 2, none⟩ = some (.int .i64 rs) := hw0.2.1.at 2; have e7 : w0.cell? ⟨w.heap.size + 1 + 1 + 1, 2, none⟩ = some (.int .i64 rc) := hw0.2.2.at 2
        go_simp
      refine wpAnyM_take (i := 3) (v := .pointer (some ⟨w.heap.size + 1 + 1 + 1, 2, none⟩)) rfl (by kernel_rfl) (by kernel_rfl) (by kernel_rfl) rfl rfl (by kernel_rfl) (by kernel_rfl) (fun _ _ _ h => h) (.inl ⟨rfl, fun w0 hw0 => ?a3⟩) hS ?_
      case a3 =>
        have g := hw0.1.blks; rw [HR.out] at g; have e0 := g.1.c0; have e1 := g.1.c1; have e2 := g.2.1.c0; have e3 := g.2.1.c1; have e4 := g.2.2.1.c0; have e5 := g.2.2.1.c1; have e6 : w0.cell? ⟨w.heap.size + 1 + 1, 2, none⟩ = some (.int .i64 rs) := hw0.2.1.at 2; have e7 : w0.cell? ⟨w.heap.size + 1 + 1 + 1, 2, none⟩ = some (.int .i64 rc) := hw0.2.2.at 2
        go_simp
      refine wpAnyM_take (i := 4) (v := .int .i64 rc) rfl (by kernel_rfl) (by kernel_rfl) (by kernel_rfl) rfl rfl (by kernel_rfl) (by kernel_rfl) (fun _ _ _ h => h) (.inl ⟨rfl, fun w0 hw0 => ?a4⟩) hS ?_
      case a4 =>
        have g := hw0.1.blks; rw [HR.out] at g; have e0 := g.1.c0; have e1 := g.1.c1; have e2 := g.2.1.c0; have e3 := g.2.1.c1; have e4 := g.2.2.1.c0; have e5 := g.2.2.1.c1; have e6 : w0.cell? ⟨w.heap.size + 1 + 1, 2, none⟩ = some (.int .i64 rs) := hw0.2.1.at 2; have e7 : w0.cell? ⟨w.heap.size + 1 + 1 + 1, 2, none⟩ = some (.int .i64 rc) := hw0.2.2.at 2
        go_simp
      refine wpAnyM_take (i := 5) (v := .int .i64 (rs + rc)) rfl (by kernel_rfl) (by kernel_rfl) (by kernel_rfl) rfl rfl (by kernel_rfl) (by kernel_rfl) (fun _ _ _ h => h) (.inl ⟨rfl, fun w0 hw0 => ?a5⟩) hS ?_
      case a5 =>
        have g := hw0.1.blks; rw [HR.out] at g; have e0 := g.1.c0; have e1 := g.1.c1; have e2 := g.2.1.c0; have e3 := g.2.1.c1; have e4 := g.2.2.1.c0; have e5 := g.2.2.1.c1; have e6 : w0.cell? ⟨w.heap.size + 1 + 1, 2, none⟩ = some (.int .i64 rs) := hw0.2.1.at 2; have e7 : w0.cell? ⟨w.heap.size + 1 + 1 + 1, 2, none⟩ = some (.int .i64 rc) := hw0.2.2.at 2
        go_simp
      refine wpAnyM_take (i := 6) (v := .int .i64 (2 * (rs + rc))) rfl (by kernel_rfl) (by kernel_rfl) (by kernel_rfl) rfl rfl (by kernel_rfl) (by kernel_rfl) (fun _ _ _ h => h) (.inl ⟨rfl, fun w0 hw0 => ?a6⟩) hS ?_
      case a6 =>
        have g := hw0.1.blks; rw [HR.out] at g; have e0 := g.1.c0; have e1 := g.1.c1; have e2 := g.2.1.c0; have e3 := g.2.1.c1; have e4 := g.2.2.1.c0; have e5 := g.2.2.1.c1; have e6 : w0.cell? ⟨w.heap.size + 1 + 1, 2, none⟩ = some (.int .i64 rs) := hw0.2.1.at 2; have e7 : w0.cell? ⟨w.heap.size + 1 + 1 + 1, 2, none⟩ = some (.int .i64 rc) := hw0.2.2.at 2
        go_simp
      refine wpAnyM_take (i := 7) (v := .int .i64 (2 * (rs + rc) + 4)) rfl (by kernel_rfl) (by kernel_rfl) (by kernel_rfl) rfl rfl (by kernel_rfl) (by kernel_rfl) (fun _ _ _ h => h) (.inl ⟨rfl, fun w0 hw0 => ?a7⟩) hS ?_
      case a7 =>
        have g := hw0.1.blks; rw [HR.out] at g; have e0 := g.1.c0; have e1 := g.1.c1; have e2 := g.2.1.c0; have e3 := g.2.1.c1; have e4 := g.2.2.1.c0; have e5 := g.2.2.1.c1; have e6 : w0.cell? ⟨w.heap.size + 1 + 1, 2, none⟩ = some (.int .i64 rs) := hw0.2.1.at 2; have e7 : w0.cell? ⟨w.heap.size + 1 + 1 + 1, 2, none⟩ = some (.int .i64 rc) := hw0.2.2.at 2
        go_simp
      refine wpAnyM_take (i := 8) (v := .agg #[.bool n10, .slice A10 k10 c10, .int .i64 (2 * (rs + rc) + 4)]) rfl (by kernel_rfl) (by kernel_rfl) (by kernel_rfl) rfl rfl (by kernel_rfl) (by kernel_rfl) (fun _ _ _ h => h) (.inl ⟨rfl, fun w0 hw0 => ?a8⟩) hS ?_
      case a8 =>
        have g := hw0.1.blks; rw [HR.out] at g; have e0 := g.1.c0; have e1 := g.1.c1; have e2 := g.2.1.c0; have e3 := g.2.1.c1; have e4 := g.2.2.1.c0; have e5 := g.2.2.1.c1; have e6 : w0.cell? ⟨w.heap.size + 1 + 1, 2, none⟩ = some (.int .i64 rs) := hw0.2.1.at 2; have e7 : w0.cell? ⟨w.heap.size + 1 + 1 + 1, 2, none⟩ = some (.int .i64 rc) := hw0.2.2.at 2
        go_simp
      refine wpAnyM_takeA (i := 9) (v := .agg #[.bool n8, .slice A8 k8 c8]) rfl (by kernel_rfl) (by kernel_rfl) (by kernel_rfl) rfl (fun _ _ _ h => h) (.inl ⟨rfl, fun w0 hw0 => ?a9⟩) hS ?_
      case a9 =>
        have g := hw0.blks; rw [HR.out] at g; have e0 := g.1.c0; have e1 := g.1.c1; have e2 := g.2.1.c0; have e3 := g.2.1.c1; have e4 := g.2.2.1.c0; have e5 := g.2.2.1.c1
        go_simp
      refine wpAnyM_takeA (i := 10) (v := .agg #[.bool n11, .slice A11 k11 c11]) rfl (by kernel_rfl) (by kernel_rfl) (by kernel_rfl) rfl (fun _ _ _ h => h) (.inl ⟨rfl, fun w0 hw0 => ?a10⟩) hS ?_
      case a10 =>
        have g := hw0.blks; rw [HR.out] at g; have e0 := g.1.c0; have e1 := g.1.c1; have e2 := g.2.1.c0; have e3 := g.2.1.c1; have e4 := g.2.2.1.c0; have e5 := g.2.2.1.c1
        go_simp
      refine wpAnyM_take (i := 12) (v := .pointer (some ⟨w.heap.size + 1 + 1, 2, none⟩)) rfl (by kernel_rfl) (by kernel_rfl) (by kernel_rfl) rfl rfl (by kernel_rfl) (by kernel_rfl) (fun _ _ _ h => h) (.inl ⟨rfl, fun w0 hw0 => ?a12⟩) hS ?_
      case a12 =>
        have g := hw0.1.blks; rw [HR.out] at g; have e0 := g.1.c0; have e1 := g.1.c1; have e2 := g.2.1.c0; have e3 := g.2.1.c1; have e4 := g.2.2.1.c0; have e5 := g.2.2.1.c1; have e6 : w0.cell? ⟨w.heap.size + 1 + 1, 2, none⟩ = some (.int .i64 rs) := hw0.2.1.at 2; have e7 : w0.cell? ⟨w.heap.size + 1 + 1 + 1, 2, none⟩ = some (.int .i64 rc) := hw0.2.2.at 2
        go_simp
      refine wpAnyM_take (i := 13) (v := .int .i64 rs) rfl (by kernel_rfl) (by kernel_rfl) (by kernel_rfl) rfl rfl (by kernel_rfl) (by kernel_rfl) (fun _ _ _ h => h) (.inl ⟨rfl, fun w0 hw0 => ?a13⟩) hS ?_
      case a13 =>
        have g := hw0.1.blks; rw [HR.out] at g; have e0 := g.1.c0; have e1 := g.1.c1; have e2 := g.2.1.c0; have e3 := g.2.1.c1; have e4 := g.2.2.1.c0; have e5 := g.2.2.1.c1; have e6 : w0.cell? ⟨w.heap.size + 1 + 1, 2, none⟩ = some (.int .i64 rs) := hw0.2.1.at 2; have e7 : w0.cell? ⟨w.heap.size + 1 + 1 + 1, 2, none⟩ = some (.int .i64 rc) := hw0.2.2.at 2
        go_simp
      refine wpAnyM_takeA (i := 14) (v := .int .i64 (4 * rs)) rfl (by kernel_rfl) (by kernel_rfl) (by kernel_rfl) rfl (fun _ _ _ h => h) (.inl ⟨rfl, fun w0 hw0 => ?a14⟩) hS ?_
      case a14 =>
        have g := hw0.blks; rw [HR.out] at g; have e0 := g.1.c0; have e1 := g.1.c1; have e2 := g.2.1.c0; have e3 := g.2.1.c1; have e4 := g.2.2.1.c0; have e5 := g.2.2.1.c1
        go_simp
      refine wpAnyM_takeA (i := 15) (v := .int .i64 (4 * rs + 4)) rfl (by kernel_rfl) (by kernel_rfl) (by kernel_rfl) rfl (fun _ _ _ h => h) (.inl ⟨rfl, fun w0 hw0 => ?a15⟩) hS ?_
      case a15 =>
        have g := hw0.blks; rw [HR.out] at g; have e0 := g.1.c0; have e1 := g.1.c1; have e2 := g.2.1.c0; have e3 := g.2.1.c1; have e4 := g.2.2.1.c0; have e5 := g.2.2.1.c1
        go_simp
      clear hS
      refine wpAnyM_all (rs := [11]) (by kernel_rfl) (by simp) ?_
      intro i0 hi0
      obtain rfl : i0 = 11 := by simpa using hi0
      refine wpOp_plain rfl rfl fun K' hK' => ?_
      go_simp
      refine (tsub_calls _ n8 n11 A8 A11 k8 k11 c8 c11 (shiftF 1 p) (shiftF (Num.fit (sj * sj)) (1 - p)) E.wds.2.2.1 E.wds.1).mono ?_
      rintro e W2 ⟨n12, A12, k12, c12, rfl, h12, hb2⟩
      replace E := (E.below hb2).wd h12
      clear h12 hb2
      refine hK' _ _ ⟨⟨E.drop.drop.dropN, fun _ => ⟨E.blks.1, E.blks.2.1⟩⟩, ?_⟩
      clear hK' K'
      have hS := And.intro E.drop.drop.dropN (And.intro E.blks.1 E.blks.2.1)
      refine wpAnyM_takeA (i := 16) (v := .agg #[.bool n12, .slice A12 k12 c12, .int .i64 (4 * rs + 4)]) rfl (by kernel_rfl) (by kernel_rfl) (by kernel_rfl) rfl (fun _ _ _ h => h) (.inl ⟨rfl, fun w0 hw0 => ?a16⟩) hS ?_
      case a16 =>
        have g := hw0.blks; rw [HR.out] at g; have e0 := g.1.c0; have e1 := g.1.c1; have e2 := g.2.1.c0; have e3 := g.2.1.c1; have e4 := g.2.2.1.c0; have e5 := g.2.2.1.c1
        go_simp
      clear hS
      have f0 : W2.cell? ⟨w.heap.size + 1 + 1, 0, none⟩ = some (.bool n1) := E.blks.1.at 0
      have f1 : W2.cell? ⟨w.heap.size + 1 + 1, 1, none⟩ = some (.slice A1 m1 c1) := E.blks.1.at 1
      have f2 : W2.cell? ⟨w.heap.size + 1 + 1, 2, none⟩ = some (.int .i64 rs) := E.blks.1.at 2
      have g0 := E.blks.1.fr 0
      have g1 := E.blks.1.fr 1
      have g2 := E.blks.1.fr 2
      refine wpAnyM_all (rs := [17]) (by kernel_rfl) (by simp) ?_
      intro i0 hi0
      obtain rfl : i0 = 17 := by simpa using hi0
      refine wpOp_plain rfl rfl fun K' hK' => ?_
      go_simp
      replace E := E.set3 (by omega) ⟨by simp, hfr.1⟩ (.bool n10) (.slice A10 k10 c10) (.int .i64 (2 * (rs + rc) + 4))
      clear f0 f1 f2 g0 g1 g2
      generalize (((W2.setCell ⟨w.heap.size + 1 + 1, 0, none⟩ (.bool n10)).setCell ⟨w.heap.size + 1 + 1, 1, none⟩ (.slice A10 k10 c10)).setCell ⟨w.heap.size + 1 + 1, 2, none⟩ (.int .i64 (2 * (rs + rc) + 4))) = W4 at *
      refine hK' _ _ ⟨⟨E.drop.drop.dropN, fun h => absurd h (by simp)⟩, ?_⟩
      clear hK' K'
      have f0 : W4.cell? ⟨w.heap.size + 1 + 1 + 1, 0, none⟩ = some (.bool n2) := E.blks.2.1.at 0
      have f1 : W4.cell? ⟨w.heap.size + 1 + 1 + 1, 1, none⟩ = some (.slice A2 m2 c2) := E.blks.2.1.at 1
      have f2 : W4.cell? ⟨w.heap.size + 1 + 1 + 1, 2, none⟩ = some (.int .i64 rc) := E.blks.2.1.at 2
      have g0 := E.blks.2.1.fr 0
      have g1 := E.blks.2.1.fr 1
      have g2 := E.blks.2.1.fr 2
      refine wpAnyM_all (rs := [18]) (by kernel_rfl) (by simp) ?_
      intro i0 hi0
      obtain rfl : i0 = 18 := by simpa using hi0
      refine wpOp_plain rfl rfl fun K' hK' => ?_
      go_simp
      replace E := (E.swap.set3 (by omega) ⟨by simp, hfr.2⟩ (.bool n12) (.slice A12 k12 c12) (.int .i64 (4 * rs + 4))).swap
      clear f0 f1 f2 g0 g1 g2
      generalize (((W4.setCell ⟨w.heap.size + 1 + 1 + 1, 0, none⟩ (.bool n12)).setCell ⟨w.heap.size + 1 + 1 + 1, 1, none⟩ (.slice A12 k12 c12)).setCell ⟨w.heap.size + 1 + 1 + 1, 2, none⟩ (.int .i64 (4 * rs + 4))) = W5 at *
      refine hK' _ _ ⟨⟨E.drop.drop.dropN, fun h => absurd h (by simp)⟩, wpAnyM_done (by kernel_rfl) ?_ _⟩
      clear hK' K'
      have E12 : Env w ((w.heap.size + 1 + 1, #[.bool n10, .slice A10 k10 c10, .int .i64 (Q (j + 1)).rs], 241) :: (w.heap.size + 1 + 1 + 1, #[.bool n12, .slice A12 k12 c12, .int .i64 (Q (j + 1)).rc], 241) :: R) [(n12, A12, k12, c12, (Q (j + 1)).c), (n10, A10, k10, c10, (Q (j + 1)).s), (n8, A8, k8, c8, shiftF 1 p)] W5 := by
        rw [hQs.out]
        obtain ⟨⟨g1, g2, g3, g4, g5⟩, ⟨h1, h2, h3, h4, _⟩, hl⟩ := E
        exact ⟨⟨g1, g2, g5⟩, ⟨h1, h3, h4, trivial⟩, hl⟩
      have HE12 := Lib.hid E12
      clear E E12
      go_wp2
      go_roundw
      case rel => exact ⟨j + 1, n10, A10, k10, c10, n12, A12, k12, c12, hlt, by go_num, HE12.out⟩
      case measure => simp [intOf]; omega
    · obtain rfl : j = 5 := by omega
      have HEj := Lib.hid Ej
      clear Ej HC HS
      go_wp2_with fail
      refine region_start (S := fun W' => Env w ((w.heap.size + 1 + 1, #[.bool n1, .slice A1 m1 c1, .int .i64 (Q 5).rs], 241) :: (w.heap.size + 1 + 1 + 1, #[.bool n2, .slice A2 m2 c2, .int .i64 (Q 5).rc], 241) :: R) [(n2, A2, m2, c2, (Q 5).c), (n1, A1, m1, c1, (Q 5).s), (n8, A8, k8, c8, shiftF 1 p)] W') (by kernel_rfl) ?_
      intro W hW
      have E : Env w ((w.heap.size + 1 + 1, #[.bool n1, .slice A1 m1 c1, .int .i64 (Q 5).rs], 241) :: (w.heap.size + 1 + 1 + 1, #[.bool n2, .slice A2 m2 c2, .int .i64 (Q 5).rc], 241) :: R) [(n2, A2, m2, c2, (Q 5).c), (n1, A1, m1, c1, (Q 5).s), (n8, A8, k8, c8, shiftF 1 p)] W := by rw [hW]; exact HEj.out.drew
      clear hW HEj
      have hfr := hFs.out
      have hS := E
      refine wpAnyH_take (i := 0) (v := .agg #[.bool n1, .slice A1 m1 c1, .int .i64 (Q 5).rs]) rfl (by kernel_rfl) (by kernel_rfl) (by kernel_rfl) (fun _ _ _ h => h) (.inl ⟨rfl, fun w0 hw0 => ?a0⟩) hS ?_
      case a0 =>
        have g := hw0.blks; have e0 : w0.cell? ⟨w.heap.size + 1 + 1, 0, none⟩ = some (.bool n1) := g.1.at 0; have e1 : w0.cell? ⟨w.heap.size + 1 + 1, 1, none⟩ = some (.slice A1 m1 c1) := g.1.at 1; have e2 : w0.cell? ⟨w.heap.size + 1 + 1, 2, none⟩ = some (.int .i64 (Q 5).rs) := g.1.at 2; have e3 : w0.cell? ⟨w.heap.size + 1 + 1 + 1, 0, none⟩ = some (.bool n2) := g.2.1.at 0; have e4 : w0.cell? ⟨w.heap.size + 1 + 1 + 1, 1, none⟩ = some (.slice A2 m2 c2) := g.2.1.at 1; have e5 : w0.cell? ⟨w.heap.size + 1 + 1 + 1, 2, none⟩ = some (.int .i64 (Q 5).rc) := g.2.1.at 2
        go_simp
      refine wpAnyH_take (i := 1) (v := .agg #[.bool n2, .slice A2 m2 c2, .int .i64 (Q 5).rc]) rfl (by kernel_rfl) (by kernel_rfl) (by kernel_rfl) (fun _ _ _ h => h) (.inl ⟨rfl, fun w0 hw0 => ?a1⟩) hS ?_
      case a1 =>
        have g := hw0.blks; have e0 : w0.cell? ⟨w.heap.size + 1 + 1, 0, none⟩ = some (.bool n1) := g.1.at 0; have e1 : w0.cell? ⟨w.heap.size + 1 + 1, 1, none⟩ = some (.slice A1 m1 c1) := g.1.at 1; have e2 : w0.cell? ⟨w.heap.size + 1 + 1, 2, none⟩ = some (.int .i64 (Q 5).rs) := g.1.at 2; have e3 : w0.cell? ⟨w.heap.size + 1 + 1 + 1, 0, none⟩ = some (.bool n2) := g.2.1.at 0; have e4 : w0.cell? ⟨w.heap.size + 1 + 1 + 1, 1, none⟩ = some (.slice A2 m2 c2) := g.2.1.at 1; have e5 : w0.cell? ⟨w.heap.size + 1 + 1 + 1, 2, none⟩ = some (.int .i64 (Q 5).rc) := g.2.1.at 2
        go_simp
      clear hS
      have f0 : W.cell? ⟨w.heap.size + 1 + 1, 0, none⟩ = some (.bool n1) := E.blks.1.at 0
      have f1 : W.cell? ⟨w.heap.size + 1 + 1, 1, none⟩ = some (.slice A1 m1 c1) := E.blks.1.at 1
      have f2 : W.cell? ⟨w.heap.size + 1 + 1, 2, none⟩ = some (.int .i64 (Q 5).rs) := E.blks.1.at 2
      have g0 := E.blks.1.fr 0
      have g1 := E.blks.1.fr 1
      have g2 := E.blks.1.fr 2
      refine wpAnyH_all (rs := [2]) (by kernel_rfl) (by simp) ?_
      intro i0 hi0
      obtain rfl : i0 = 2 := by simpa using hi0
      refine wpOp_plain rfl rfl fun K' hK' => ?_
      go_simp
      replace E := E.set3 (by omega) ⟨by simp, hfr.1⟩ (.bool n1) (.slice A1 m1 c1) (.int .i64 (Q 5).rs)
      clear f0 f1 f2 g0 g1 g2
      generalize (((W.setCell ⟨w.heap.size + 1 + 1, 0, none⟩ (.bool n1)).setCell ⟨w.heap.size + 1 + 1, 1, none⟩ (.slice A1 m1 c1)).setCell ⟨w.heap.size + 1 + 1, 2, none⟩ (.int .i64 (Q 5).rs)) = W4 at *
      refine hK' _ _ ⟨E, ?_⟩
      clear hK' K'
      have f0 : W4.cell? ⟨w.heap.size + 1 + 1 + 1, 0, none⟩ = some (.bool n2) := E.blks.2.1.at 0
      have f1 : W4.cell? ⟨w.heap.size + 1 + 1 + 1, 1, none⟩ = some (.slice A2 m2 c2) := E.blks.2.1.at 1
      have f2 : W4.cell? ⟨w.heap.size + 1 + 1 + 1, 2, none⟩ = some (.int .i64 (Q 5).rc) := E.blks.2.1.at 2
      have g0 := E.blks.2.1.fr 0
      have g1 := E.blks.2.1.fr 1
      have g2 := E.blks.2.1.fr 2
      refine wpAnyH_all (rs := [3]) (by kernel_rfl) (by simp) ?_
      intro i0 hi0
      obtain rfl : i0 = 3 := by simpa using hi0
      refine wpOp_plain rfl rfl fun K' hK' => ?_
      go_simp
      replace E := (E.swap.set3 (by omega) ⟨by simp, hfr.2⟩ (.bool n2) (.slice A2 m2 c2) (.int .i64 (Q 5).rc)).swap
      clear f0 f1 f2 g0 g1 g2
      generalize (((W4.setCell ⟨w.heap.size + 1 + 1 + 1, 0, none⟩ (.bool n2)).setCell ⟨w.heap.size + 1 + 1 + 1, 1, none⟩ (.slice A2 m2 c2)).setCell ⟨w.heap.size + 1 + 1 + 1, 2, none⟩ (.int .i64 (Q 5).rc)) = W5 at *
      refine hK' _ _ ⟨E, wpAnyH_done (by kernel_rfl) ?_ _⟩
      clear hK' K'
      have r0 : W5.cell? ⟨w.heap.size + 1 + 1, 0, none⟩ = some (.bool n1) := E.blks.1.at 0
      have r1 : W5.cell? ⟨w.heap.size + 1 + 1, 1, none⟩ = some (.slice A1 m1 c1) := E.blks.1.at 1
      have r2 : W5.cell? ⟨w.heap.size + 1 + 1, 2, none⟩ = some (.int .i64 (Q 5).rs) := E.blks.1.at 2
      have r3 : W5.cell? ⟨w.heap.size + 1 + 1 + 1, 0, none⟩ = some (.bool n2) := E.blks.2.1.at 0
      have r4 : W5.cell? ⟨w.heap.size + 1 + 1 + 1, 1, none⟩ = some (.slice A2 m2 c2) := E.blks.2.1.at 1
      have r5 : W5.cell? ⟨w.heap.size + 1 + 1 + 1, 2, none⟩ = some (.int .i64 (Q 5).rc) := E.blks.2.1.at 2
      have HE := Lib.hid E
      clear E
      go_wp2
      refine bodyPost_ret (v := .tuple #[.agg #[.bool n1, .slice A1 m1 c1, .int .i64 (Q 5).rs], .agg #[.bool n2, .slice A2 m2 c2, .int .i64 (Q 5).rc]]) (by simp [results, Tryz.results236, go_sem, r0, r1, r2, r3, r4, r5]) rfl ?_
      exact ⟨n1, A1, m1, c1, n2, A2, m2, c2, rfl, HE.out.wds.2.1, HE.out.wds.1, HE.out.bel⟩

end Go.Proofs.YtilaheplclaokaaGreatDoor

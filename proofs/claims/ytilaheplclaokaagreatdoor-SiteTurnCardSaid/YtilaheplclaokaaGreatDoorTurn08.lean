/-
Walk of trig's pi.
Plain law: the terms of sine's and cosine's series. No program here.
Walk of the inner function 'series' of trig's circular.
Walk of trig's plain.
Plain law: what circular, turned, sine and Sin calculate, and the bounds of it. No program here.
-/
import Derived.Test.YtilaheplclaokaaGreatDoorTurn01
import Derived.Test.YtilaheplclaokaaGreatDoorTurn06
import Derived.Test.YtilaheplclaokaaGreatDoorTurn07
set_option linter.unusedVariables false
set_option linter.unusedSimpArgs false
namespace Go.Proofs.YtilaheplclaokaaGreatDoor
open Go.RowKit Go.Shelf
attribute [local go_sem] Oper.semAt_some

theorem cutVar5 {P : Program} {c : Code} {K : Act → World → Prop} {Q : Exit → Act → World → Prop} {a : Act} {w : World} {F : Nat → Bool → Option Addr → Nat → Nat → World → Prop} (f : Nat → Bool → Option Addr → Nat → Nat → Bool → Option Addr → Nat → Nat → Bool → Option Addr → Nat → Nat → Bool → Option Addr → Nat → Nat → Bool → Option Addr → Nat → Nat → Act)
    (main : (∀ b n0 A0 k0 c0 n1 A1 k1 c1 n2 A2 k2 c2 n3 A3 k3 c3 n4 A4 k4 c4 W, F b n4 A4 k4 c4 W → K (f b n0 A0 k0 c0 n1 A1 k1 c1 n2 A2 k2 c2 n3 A3 k3 c3 n4 A4 k4 c4) W) → c.wp P (Exit.then K Q) a w) (key : ∀ b n0 A0 k0 c0 n1 A1 k1 c1 n2 A2 k2 c2 n3 A3 k3 c3 n4 A4 k4 c4 W, F b n4 A4 k4 c4 W → K (f b n0 A0 k0 c0 n1 A1 k1 c1 n2 A2 k2 c2 n3 A3 k3 c3 n4 A4 k4 c4) W) : c.wp P (Exit.then K Q) a w := main key

theorem fit_le {x b : Int} (hx : x ≤ b) (hb : 0 ≤ b) : Num.fit x ≤ b := by unfold Num.fit; split <;> omega
theorem fit_nonneg {x : Int} (hx : 0 ≤ x) : 0 ≤ Num.fit x := by unfold Num.fit; split <;> omega
theorem pi_bound (p xa xb xc : Int) (ha : xa ≤ shiftF 1 p / 18) (hb : xb ≤ shiftF 1 p / 57) (hc : 0 ≤ xc) (ha0 : 0 ≤ xa) (hb0 : 0 ≤ xb) : Num.fit (Num.fit (Num.fit (48 * xa) + Num.fit (32 * xb)) - Num.fit (20 * xc)) ≤ 4 * shiftF 1 p := by
  have h0 := (shiftF_one p).1
  have h1 : Num.fit (48 * xa) ≤ 48 * xa := fit_le (Int.le_refl _) (by omega)
  have h2 : Num.fit (32 * xb) ≤ 32 * xb := fit_le (Int.le_refl _) (by omega)
  have h3 : 0 ≤ Num.fit (20 * xc) := fit_nonneg (by omega)
  have h4 : Num.fit (Num.fit (48 * xa) + Num.fit (32 * xb)) ≤ 48 * xa + 32 * xb := fit_le (by omega) (by omega)
  exact fit_le (by omega) (by omega)

/-- The circle's half, times 2^p, and how far it is off. -/
def piV (p : Int) : Int := Num.fit (Num.fit (Num.fit (48 * atanV p 18) + Num.fit (32 * atanV p 57)) - Num.fit (20 * atanV p 239))
def piR (p : Int) : Int := 48 * atanR p 18 + 32 * atanR p 57 + 20 * atanR p 239
theorem pi_bounds (p : Int) : piV p ≤ 4 * shiftF 1 p ∧ 400 ≤ piR p ∧ piR p ≤ 26215000 := by
  have ha := atan_bounds p 18 (by omega)
  have hb := atan_bounds p 57 (by omega)
  have hc := atan_bounds p 239 (by omega)
  refine ⟨pi_bound p _ _ _ ha.2.1 hb.2.1 hc.1 ha.1 hb.1, ?_⟩
  unfold piR
  omega

set_option maxRecDepth 100000 in
set_option maxHeartbeats 2000000 in
theorem pi_calls (w : World) (p : Int) :
    Calls Tryz.prog 206 #[.int .i64 p] w (BPost (piV p) (piR p) w) := by
  have hV : piV p = Num.fit (Num.fit (Num.fit (48 * atanV p 18) + Num.fit (32 * atanV p 57)) - Num.fit (20 * atanV p 239)) := rfl
  have hR : piR p = 48 * atanR p 18 + 32 * atanR p 57 + 20 * atanR p 239 := rfl
  rw [hV, hR]
  clear hV hR
  obtain ⟨_, _, hra0, hra1⟩ := atan_bounds p 18 (by omega)
  obtain ⟨_, _, hrb0, hrb1⟩ := atan_bounds p 57 (by omega)
  obtain ⟨_, _, hrc0, hrc1⟩ := atan_bounds p 239 (by omega)
  have CA := Lib.hid fun w' => arctan_calls w' 18 p (by omega) (by omega)
  have CB := Lib.hid fun w' => arctan_calls w' 57 p (by omega) (by omega)
  have CC := Lib.hid fun w' => arctan_calls w' 239 p (by omega) (by omega)
  generalize atanV p 18 = xa at *
  generalize atanV p 57 = xb at *
  generalize atanV p 239 = xc at *
  generalize atanR p 18 = ra at *
  generalize atanR p 57 = rb at *
  generalize atanR p 239 = rc at *
  have K4 := Lib.hid (Blk.new w #[.bool false, .slice none 0 0, .int .i64 0] 241)
  have HB0 := Lib.hid ((Below.refl w.heap.size w).alloc (Nat.le_refl _) (.cells #[.bool false, .slice none 0 0, .int .i64 0] 241))
  go_enter Tryz.func206, Tryz.ntmps206
  go_wp2_with fail
  go_at_call 231
  refine (CA.out _).mono ?_
  rintro e w1 ⟨na, Aa, ka, ca, rfl, hwa, hb1⟩
  have HKa := Lib.hid (K4.out.below hb1)
  have HBa := Lib.hid (HB0.out.trans (hb1.mono (by simp)))
  have HWa := Lib.hid hwa
  clear hwa hb1 K4 HB0
  go_wp2_with fail
  go_at_call 231
  refine (CB.out _).mono ?_
  rintro e w2 ⟨nb, Ab, kb, cb, rfl, hwb, hb2⟩
  have HKb := Lib.hid (HKa.out.below hb2)
  have HBb := Lib.hid (HBa.out.trans (hb2.mono HBa.out.size))
  have HWa2 := Lib.hid (HWa.out.below hb2)
  have HWb := Lib.hid hwb
  clear hwb hb2 HKa HBa HWa
  go_wp2_with fail
  go_at_call 231
  refine (CC.out _).mono ?_
  rintro e w3 ⟨nc, Ac, kc, cc, rfl, hwc, hb3⟩
  have HKc := Lib.hid (HKb.out.below hb3)
  have HBc := Lib.hid (HBb.out.trans (hb3.mono HBb.out.size))
  have HWa3 := Lib.hid (HWa2.out.below hb3)
  have HWb3 := Lib.hid (HWb.out.below hb3)
  have HWc := Lib.hid hwc
  have hl3 := HKc.out.lt
  clear hwc hb3 HKb HBb HWa2 HWb
  go_wp2_with fail
  have hal := (((Below.refl w3.heap.size w3).alloc (Nat.le_refl _) (.cells #[.bool na, .slice Aa ka ca, .int .i64 ra] 241)).alloc (by simp) (.cells #[.bool nb, .slice Ab kb cb, .int .i64 rb] 241)).alloc (by simp; omega) (.cells #[.bool nc, .slice Ac kc cc, .int .i64 rc] 241)
  have sa := ((Blk.new w3 #[.bool na, .slice Aa ka ca, .int .i64 ra] 241).alloc (.cells #[.bool nb, .slice Ab kb cb, .int .i64 rb] 241)).alloc (.cells #[.bool nc, .slice Ac kc cc, .int .i64 rc] 241)
  have sb := (Blk.new (w3.alloc (.cells #[.bool na, .slice Aa ka ca, .int .i64 ra] 241)) #[.bool nb, .slice Ab kb cb, .int .i64 rb] 241).alloc (.cells #[.bool nc, .slice Ac kc cc, .int .i64 rc] 241)
  have sc := Blk.new ((w3.alloc (.cells #[.bool na, .slice Aa ka ca, .int .i64 ra] 241)).alloc (.cells #[.bool nb, .slice Ab kb cb, .int .i64 rb] 241)) #[.bool nc, .slice Ac kc cc, .int .i64 rc] 241
  simp only [World.size_alloc] at sa sb sc
  have h4 := HKc.out.below hal
  have xa' := HWa3.out.below hal
  have xb' := HWb3.out.below hal
  have xc' := HWc.out.below hal
  have hbel := HBc.out.trans (hal.mono HBc.out.size)
  clear hal HKc HWa3 HWb3 HWc HBc
  generalize (((w3.alloc (.cells #[.bool na, .slice Aa ka ca, .int .i64 ra] 241)).alloc (.cells #[.bool nb, .slice Ab kb cb, .int .i64 rb] 241)).alloc (.cells #[.bool nc, .slice Ac kc cc, .int .i64 rc] 241)) = V at *
  generalize w3.heap.size = m at *
  have H4 := Lib.hid h4
  have Sa := Lib.hid sa
  have Sb := Lib.hid sb
  have Sc := Lib.hid sc
  have Xa := Lib.hid xa'
  have Xb := Lib.hid xb'
  have Xc := Lib.hid xc'
  have HBel := Lib.hid hbel
  clear h4 sa sb sc xa' xb' xc' hbel
  apply cutVar5 (F := fun b5 n5 A5 k5 c5 W => WD W n5 A5 k5 c5 (Num.fit (Num.fit (48 * xa) + Num.fit (32 * xb))) ∧ m + 1 + 1 < b5 ∧ Blk W b5 #[.bool n5, .slice A5 k5 c5] 92 ∧ Blk W w.heap.size #[.bool false, .slice none 0 0, .int .i64 0] 241 ∧ Blk W m #[.bool na, .slice Aa ka ca, .int .i64 ra] 241 ∧ Blk W (m + 1) #[.bool nb, .slice Ab kb cb, .int .i64 rb] 241 ∧ Blk W (m + 1 + 1) #[.bool nc, .slice Ac kc cc, .int .i64 rc] 241 ∧ WD W nc Ac kc cc xc ∧ Below w.heap.size w W)
  · intro key
    refine region_start (S := fun W' => Blk W' m #[.bool na, .slice Aa ka ca, .int .i64 ra] 241 ∧ Blk W' (m + 1) #[.bool nb, .slice Ab kb cb, .int .i64 rb] 241) (by kernel_rfl) ?_
    intro W hW
    have h4 : Blk W w.heap.size #[.bool false, .slice none 0 0, .int .i64 0] 241 := by rw [hW]; exact H4.out
    have sa : Blk W m #[.bool na, .slice Aa ka ca, .int .i64 ra] 241 := by rw [hW]; exact Sa.out
    have sb : Blk W (m + 1) #[.bool nb, .slice Ab kb cb, .int .i64 rb] 241 := by rw [hW]; exact Sb.out
    have sc : Blk W (m + 1 + 1) #[.bool nc, .slice Ac kc cc, .int .i64 rc] 241 := by rw [hW]; exact Sc.out
    have ya : WD W na Aa ka ca xa := by rw [hW]; exact Xa.out
    have yb : WD W nb Ab kb cb xb := by rw [hW]; exact Xb.out
    have yc : WD W nc Ac kc cc xc := by rw [hW]; exact Xc.out
    have hbel : Below w.heap.size w W := by rw [hW]; exact below_drewN HBel.out 1
    obtain ⟨B, hBe⟩ : ∃ B, B = W.heap.size := ⟨_, rfl⟩
    have hB : B ≤ W.heap.size := Nat.le_of_eq hBe
    have hBw : m + 1 + 1 < B := by rw [hBe]; exact sc.lt
    have hBz : w.heap.size < B := by rw [hBe]; exact h4.lt
    clear hBe hW
    have hS : Blk W m #[.bool na, .slice Aa ka ca, .int .i64 ra] 241 ∧ Blk W (m + 1) #[.bool nb, .slice Ab kb cb, .int .i64 rb] 241 := ⟨sa, sb⟩
    refine wpAnyH_take (i := 1) (v := .pointer (some ⟨m, 0, none⟩)) rfl (by kernel_rfl) (by kernel_rfl) (by kernel_rfl) (fun _ _ _ h => h) (.inl ⟨rfl, fun w0 hw0 => ?a1⟩) hS ?_
    case a1 =>
      obtain ⟨ga, gb⟩ := hw0; have e0 : w0.cell? ⟨m, 0, none⟩ = some (.bool na) := ga.at 0; have e1 : w0.cell? ⟨m, 1, none⟩ = some (.slice Aa ka ca) := ga.at 1; have e2 : w0.cell? ⟨m + 1, 0, none⟩ = some (.bool nb) := gb.at 0; have e3 : w0.cell? ⟨m + 1, 1, none⟩ = some (.slice Ab kb cb) := gb.at 1
      go_simp
    refine wpAnyH_take (i := 2) (v := .agg #[.bool na, .slice Aa ka ca]) rfl (by kernel_rfl) (by kernel_rfl) (by kernel_rfl) (fun _ _ _ h => h) (.inl ⟨rfl, fun w0 hw0 => ?a2⟩) hS ?_
    case a2 =>
      obtain ⟨ga, gb⟩ := hw0; have e0 : w0.cell? ⟨m, 0, none⟩ = some (.bool na) := ga.at 0; have e1 : w0.cell? ⟨m, 1, none⟩ = some (.slice Aa ka ca) := ga.at 1; have e2 : w0.cell? ⟨m + 1, 0, none⟩ = some (.bool nb) := gb.at 0; have e3 : w0.cell? ⟨m + 1, 1, none⟩ = some (.slice Ab kb cb) := gb.at 1
      go_simp
    refine wpAnyH_take (i := 5) (v := .pointer (some ⟨m + 1, 0, none⟩)) rfl (by kernel_rfl) (by kernel_rfl) (by kernel_rfl) (fun _ _ _ h => h) (.inl ⟨rfl, fun w0 hw0 => ?a5⟩) hS ?_
    case a5 =>
      obtain ⟨ga, gb⟩ := hw0; have e0 : w0.cell? ⟨m, 0, none⟩ = some (.bool na) := ga.at 0; have e1 : w0.cell? ⟨m, 1, none⟩ = some (.slice Aa ka ca) := ga.at 1; have e2 : w0.cell? ⟨m + 1, 0, none⟩ = some (.bool nb) := gb.at 0; have e3 : w0.cell? ⟨m + 1, 1, none⟩ = some (.slice Ab kb cb) := gb.at 1
      go_simp
    refine wpAnyH_take (i := 6) (v := .agg #[.bool nb, .slice Ab kb cb]) rfl (by kernel_rfl) (by kernel_rfl) (by kernel_rfl) (fun _ _ _ h => h) (.inl ⟨rfl, fun w0 hw0 => ?a6⟩) hS ?_
    case a6 =>
      obtain ⟨ga, gb⟩ := hw0; have e0 : w0.cell? ⟨m, 0, none⟩ = some (.bool na) := ga.at 0; have e1 : w0.cell? ⟨m, 1, none⟩ = some (.slice Aa ka ca) := ga.at 1; have e2 : w0.cell? ⟨m + 1, 0, none⟩ = some (.bool nb) := gb.at 0; have e3 : w0.cell? ⟨m + 1, 1, none⟩ = some (.slice Ab kb cb) := gb.at 1
      go_simp
    clear hS
    refine wpAnyH_all (rs := [0, 9]) (by kernel_rfl) (by simp) ?_
    intro i0 hi0
    have hi1 : i0 = 0 ∨ i0 = 9 := by simpa using hi0
    clear hi0
    rcases hi1 with rfl | rfl
    · refine wpOp_plain rfl rfl fun K' hK' => ?_
      go_simp
      refine (num_calls _ 48 (by omega) (by omega)).mono ?_
      rintro e W ⟨n0, A0, k0, c0, rfl, hn0, hstep⟩
      have h4 := h4.below hstep
      have sa := sa.below hstep
      have sb := sb.below hstep
      have sc := sc.below hstep
      have ya := ya.below hstep
      have yb := yb.below hstep
      have yc := yc.below hstep
      have hbel := hbel.trans (hstep.mono hbel.size)
      have hB := Nat.le_trans hB hstep.size
      refine hK' _ _ ⟨⟨sa, sb⟩, ?_⟩
      clear hK' K' hstep
      refine wpAnyH_all (rs := [3, 9]) (by kernel_rfl) (by simp) ?_
      intro i0 hi0
      have hi1 : i0 = 3 ∨ i0 = 9 := by simpa using hi0
      clear hi0
      rcases hi1 with rfl | rfl
      · refine wpOp_plain rfl rfl fun K' hK' => ?_
        go_simp
        refine (tmul_calls _ n0 na A0 Aa k0 ka c0 ca 48 xa hn0 ya).mono ?_
        rintro e W ⟨n1, A1, k1, c1, rfl, hn1, hstep⟩
        have h4 := h4.below hstep
        have sa := sa.below hstep
        have sb := sb.below hstep
        have sc := sc.below hstep
        have ya := ya.below hstep
        have yb := yb.below hstep
        have yc := yc.below hstep
        have hn0 := hn0.below hstep
        have hbel := hbel.trans (hstep.mono hbel.size)
        have hB := Nat.le_trans hB hstep.size
        refine hK' _ _ ⟨⟨sa, sb⟩, ?_⟩
        clear hK' K' hstep
        refine wpAnyH_all (rs := [4, 9]) (by kernel_rfl) (by simp) ?_
        intro i0 hi0
        have hi1 : i0 = 4 ∨ i0 = 9 := by simpa using hi0
        clear hi0
        rcases hi1 with rfl | rfl
        · refine wpOp_plain rfl rfl fun K' hK' => ?_
          go_simp
          refine (num_calls _ 32 (by omega) (by omega)).mono ?_
          rintro e W ⟨n2, A2, k2, c2, rfl, hn2, hstep⟩
          have h4 := h4.below hstep
          have sa := sa.below hstep
          have sb := sb.below hstep
          have sc := sc.below hstep
          have ya := ya.below hstep
          have yb := yb.below hstep
          have yc := yc.below hstep
          have hn0 := hn0.below hstep
          have hn1 := hn1.below hstep
          have hbel := hbel.trans (hstep.mono hbel.size)
          have hB := Nat.le_trans hB hstep.size
          refine hK' _ _ ⟨⟨sa, sb⟩, ?_⟩
          clear hK' K' hstep
          refine wpAnyH_all (rs := [7, 9]) (by kernel_rfl) (by simp) ?_
          intro i0 hi0
          have hi1 : i0 = 7 ∨ i0 = 9 := by simpa using hi0
          clear hi0
          rcases hi1 with rfl | rfl
          · refine wpOp_plain rfl rfl fun K' hK' => ?_
            go_simp
            refine (tmul_calls _ n2 nb A2 Ab k2 kb c2 cb 32 xb hn2 yb).mono ?_
            rintro e W ⟨n3, A3, k3, c3, rfl, hn3, hstep⟩
            have h4 := h4.below hstep
            have sa := sa.below hstep
            have sb := sb.below hstep
            have sc := sc.below hstep
            have ya := ya.below hstep
            have yb := yb.below hstep
            have yc := yc.below hstep
            have hn0 := hn0.below hstep
            have hn1 := hn1.below hstep
            have hn2 := hn2.below hstep
            have hbel := hbel.trans (hstep.mono hbel.size)
            have hB := Nat.le_trans hB hstep.size
            refine hK' _ _ ⟨⟨sa, sb⟩, ?_⟩
            clear hK' K' hstep
            refine wpAnyH_all (rs := [8, 9]) (by kernel_rfl) (by simp) ?_
            intro i0 hi0
            have hi1 : i0 = 8 ∨ i0 = 9 := by simpa using hi0
            clear hi0
            rcases hi1 with rfl | rfl
            · refine wpOp_plain rfl rfl fun K' hK' => ?_
              go_simp
              refine (tadd_calls _ n1 n3 A1 A3 k1 k3 c1 c3 (Num.fit (48 * xa)) (Num.fit (32 * xb)) hn1 hn3).mono ?_
              rintro e W ⟨n4, A4, k4, c4, rfl, hn4, hstep⟩
              have h4 := h4.below hstep
              have sa := sa.below hstep
              have sb := sb.below hstep
              have sc := sc.below hstep
              have ya := ya.below hstep
              have yb := yb.below hstep
              have yc := yc.below hstep
              have hn0 := hn0.below hstep
              have hn1 := hn1.below hstep
              have hn2 := hn2.below hstep
              have hn3 := hn3.below hstep
              have hbel := hbel.trans (hstep.mono hbel.size)
              have hB := Nat.le_trans hB hstep.size
              refine hK' _ _ ⟨⟨sa, sb⟩, ?_⟩
              clear hK' K' hstep
              refine wpAnyH_all (rs := [9]) (by kernel_rfl) (by simp) ?_
              intro i0 hi0
              obtain rfl : i0 = 9 := by simpa using hi0
              refine wpOp_plain rfl rfl fun K' hK' => ?_
              go_simp
              have hal := (Below.refl W.heap.size W).alloc (Nat.le_refl _) (.cells #[.bool false, .slice none 0 0] 92)
              have h5 := Blk.new W #[.bool false, .slice none 0 0] 92
              obtain ⟨b5, hb5⟩ : ∃ b5, b5 = W.heap.size := ⟨_, rfl⟩
              rw [← hb5] at h5 ⊢
              have hb5B : B ≤ b5 := by omega
              have h4 := h4.below hal
              have sa := sa.below hal
              have sb := sb.below hal
              have sc := sc.below hal
              have ya := ya.below hal
              have yb := yb.below hal
              have yc := yc.below hal
              have hn0 := hn0.below hal
              have hn1 := hn1.below hal
              have hn2 := hn2.below hal
              have hn3 := hn3.below hal
              have hn4 := hn4.below hal
              have hbel := hbel.trans (hal.mono hbel.size)
              have hB := Nat.le_trans hB hal.size
              clear hb5 hal
              generalize W.alloc (.cells #[.bool false, .slice none 0 0] 92) = W at *
              refine hK' _ _ ⟨⟨sa, sb⟩, ?_⟩
              clear hK' K'
              have f0 := h5.c0
              have f1 := h5.c1
              have f2 := h5.fr 0
              have f3 := h5.fr 1
              refine wpAnyH_all (rs := [10]) (by kernel_rfl) (by simp) ?_
              intro i0 hi0
              obtain rfl : i0 = 10 := by simpa using hi0
              refine wpOp_plain rfl rfl fun K' hK' => ?_
              go_simp
              exact hK' _ _ ⟨⟨sa.far2 _ _ _ (by omega), sb.far2 _ _ _ (by omega)⟩, wpAnyH_done (by kernel_rfl) (key b5 n0 A0 k0 c0 n1 A1 k1 c1 n2 A2 k2 c2 n3 A3 k3 c3 n4 A4 k4 c4 _ ⟨hn4.set2 h5 _ _, by omega, h5.set2 _ _, h4.far2 _ _ _ (by omega), sa.far2 _ _ _ (by omega), sb.far2 _ _ _ (by omega), sc.far2 _ _ _ (by omega), yc.set2 h5 _ _, below_set2 hbel b5 (by omega) _ _⟩) _⟩
            · refine wpOp_plain rfl rfl fun K' hK' => ?_
              go_simp
              have hal := (Below.refl W.heap.size W).alloc (Nat.le_refl _) (.cells #[.bool false, .slice none 0 0] 92)
              have h5 := Blk.new W #[.bool false, .slice none 0 0] 92
              obtain ⟨b5, hb5⟩ : ∃ b5, b5 = W.heap.size := ⟨_, rfl⟩
              rw [← hb5] at h5 ⊢
              have hb5B : B ≤ b5 := by omega
              have h4 := h4.below hal
              have sa := sa.below hal
              have sb := sb.below hal
              have sc := sc.below hal
              have ya := ya.below hal
              have yb := yb.below hal
              have yc := yc.below hal
              have hn0 := hn0.below hal
              have hn1 := hn1.below hal
              have hn2 := hn2.below hal
              have hn3 := hn3.below hal
              have hbel := hbel.trans (hal.mono hbel.size)
              have hB := Nat.le_trans hB hal.size
              clear hb5 hal
              generalize W.alloc (.cells #[.bool false, .slice none 0 0] 92) = W at *
              refine hK' _ _ ⟨⟨sa, sb⟩, ?_⟩
              clear hK' K'
              refine wpAnyH_all (rs := [8]) (by kernel_rfl) (by simp) ?_
              intro i0 hi0
              obtain rfl : i0 = 8 := by simpa using hi0
              refine wpOp_plain rfl rfl fun K' hK' => ?_
              go_simp
              refine (tadd_calls _ n1 n3 A1 A3 k1 k3 c1 c3 (Num.fit (48 * xa)) (Num.fit (32 * xb)) hn1 hn3).mono ?_
              rintro e W ⟨n4, A4, k4, c4, rfl, hn4, hstep⟩
              have h4 := h4.below hstep
              have sa := sa.below hstep
              have sb := sb.below hstep
              have sc := sc.below hstep
              have ya := ya.below hstep
              have yb := yb.below hstep
              have yc := yc.below hstep
              have hn0 := hn0.below hstep
              have hn1 := hn1.below hstep
              have hn2 := hn2.below hstep
              have hn3 := hn3.below hstep
              have h5 := h5.below hstep
              have hbel := hbel.trans (hstep.mono hbel.size)
              have hB := Nat.le_trans hB hstep.size
              refine hK' _ _ ⟨⟨sa, sb⟩, ?_⟩
              clear hK' K' hstep
              have f0 := h5.c0
              have f1 := h5.c1
              have f2 := h5.fr 0
              have f3 := h5.fr 1
              refine wpAnyH_all (rs := [10]) (by kernel_rfl) (by simp) ?_
              intro i0 hi0
              obtain rfl : i0 = 10 := by simpa using hi0
              refine wpOp_plain rfl rfl fun K' hK' => ?_
              go_simp
              exact hK' _ _ ⟨⟨sa.far2 _ _ _ (by omega), sb.far2 _ _ _ (by omega)⟩, wpAnyH_done (by kernel_rfl) (key b5 n0 A0 k0 c0 n1 A1 k1 c1 n2 A2 k2 c2 n3 A3 k3 c3 n4 A4 k4 c4 _ ⟨hn4.set2 h5 _ _, by omega, h5.set2 _ _, h4.far2 _ _ _ (by omega), sa.far2 _ _ _ (by omega), sb.far2 _ _ _ (by omega), sc.far2 _ _ _ (by omega), yc.set2 h5 _ _, below_set2 hbel b5 (by omega) _ _⟩) _⟩
          · refine wpOp_plain rfl rfl fun K' hK' => ?_
            go_simp
            have hal := (Below.refl W.heap.size W).alloc (Nat.le_refl _) (.cells #[.bool false, .slice none 0 0] 92)
            have h5 := Blk.new W #[.bool false, .slice none 0 0] 92
            obtain ⟨b5, hb5⟩ : ∃ b5, b5 = W.heap.size := ⟨_, rfl⟩
            rw [← hb5] at h5 ⊢
            have hb5B : B ≤ b5 := by omega
            have h4 := h4.below hal
            have sa := sa.below hal
            have sb := sb.below hal
            have sc := sc.below hal
            have ya := ya.below hal
            have yb := yb.below hal
            have yc := yc.below hal
            have hn0 := hn0.below hal
            have hn1 := hn1.below hal
            have hn2 := hn2.below hal
            have hbel := hbel.trans (hal.mono hbel.size)
            have hB := Nat.le_trans hB hal.size
            clear hb5 hal
            generalize W.alloc (.cells #[.bool false, .slice none 0 0] 92) = W at *
            refine hK' _ _ ⟨⟨sa, sb⟩, ?_⟩
            clear hK' K'
            refine wpAnyH_all (rs := [7]) (by kernel_rfl) (by simp) ?_
            intro i0 hi0
            obtain rfl : i0 = 7 := by simpa using hi0
            refine wpOp_plain rfl rfl fun K' hK' => ?_
            go_simp
            refine (tmul_calls _ n2 nb A2 Ab k2 kb c2 cb 32 xb hn2 yb).mono ?_
            rintro e W ⟨n3, A3, k3, c3, rfl, hn3, hstep⟩
            have h4 := h4.below hstep
            have sa := sa.below hstep
            have sb := sb.below hstep
            have sc := sc.below hstep
            have ya := ya.below hstep
            have yb := yb.below hstep
            have yc := yc.below hstep
            have hn0 := hn0.below hstep
            have hn1 := hn1.below hstep
            have hn2 := hn2.below hstep
            have h5 := h5.below hstep
            have hbel := hbel.trans (hstep.mono hbel.size)
            have hB := Nat.le_trans hB hstep.size
            refine hK' _ _ ⟨⟨sa, sb⟩, ?_⟩
            clear hK' K' hstep
            refine wpAnyH_all (rs := [8]) (by kernel_rfl) (by simp) ?_
            intro i0 hi0
            obtain rfl : i0 = 8 := by simpa using hi0
            refine wpOp_plain rfl rfl fun K' hK' => ?_
            go_simp
            refine (tadd_calls _ n1 n3 A1 A3 k1 k3 c1 c3 (Num.fit (48 * xa)) (Num.fit (32 * xb)) hn1 hn3).mono ?_
            rintro e W ⟨n4, A4, k4, c4, rfl, hn4, hstep⟩
            have h4 := h4.below hstep
            have sa := sa.below hstep
            have sb := sb.below hstep
            have sc := sc.below hstep
            have ya := ya.below hstep
            have yb := yb.below hstep
            have yc := yc.below hstep
            have hn0 := hn0.below hstep
            have hn1 := hn1.below hstep
            have hn2 := hn2.below hstep
            have h5 := h5.below hstep
            have hn3 := hn3.below hstep
            have hbel := hbel.trans (hstep.mono hbel.size)
            have hB := Nat.le_trans hB hstep.size
            refine hK' _ _ ⟨⟨sa, sb⟩, ?_⟩
            clear hK' K' hstep
            have f0 := h5.c0
            have f1 := h5.c1
            have f2 := h5.fr 0
            have f3 := h5.fr 1
            refine wpAnyH_all (rs := [10]) (by kernel_rfl) (by simp) ?_
            intro i0 hi0
            obtain rfl : i0 = 10 := by simpa using hi0
            refine wpOp_plain rfl rfl fun K' hK' => ?_
            go_simp
            exact hK' _ _ ⟨⟨sa.far2 _ _ _ (by omega), sb.far2 _ _ _ (by omega)⟩, wpAnyH_done (by kernel_rfl) (key b5 n0 A0 k0 c0 n1 A1 k1 c1 n2 A2 k2 c2 n3 A3 k3 c3 n4 A4 k4 c4 _ ⟨hn4.set2 h5 _ _, by omega, h5.set2 _ _, h4.far2 _ _ _ (by omega), sa.far2 _ _ _ (by omega), sb.far2 _ _ _ (by omega), sc.far2 _ _ _ (by omega), yc.set2 h5 _ _, below_set2 hbel b5 (by omega) _ _⟩) _⟩
        · refine wpOp_plain rfl rfl fun K' hK' => ?_
          go_simp
          have hal := (Below.refl W.heap.size W).alloc (Nat.le_refl _) (.cells #[.bool false, .slice none 0 0] 92)
          have h5 := Blk.new W #[.bool false, .slice none 0 0] 92
          obtain ⟨b5, hb5⟩ : ∃ b5, b5 = W.heap.size := ⟨_, rfl⟩
          rw [← hb5] at h5 ⊢
          have hb5B : B ≤ b5 := by omega
          have h4 := h4.below hal
          have sa := sa.below hal
          have sb := sb.below hal
          have sc := sc.below hal
          have ya := ya.below hal
          have yb := yb.below hal
          have yc := yc.below hal
          have hn0 := hn0.below hal
          have hn1 := hn1.below hal
          have hbel := hbel.trans (hal.mono hbel.size)
          have hB := Nat.le_trans hB hal.size
          clear hb5 hal
          generalize W.alloc (.cells #[.bool false, .slice none 0 0] 92) = W at *
          refine hK' _ _ ⟨⟨sa, sb⟩, ?_⟩
          clear hK' K'
          refine wpAnyH_all (rs := [4]) (by kernel_rfl) (by simp) ?_
          intro i0 hi0
          obtain rfl : i0 = 4 := by simpa using hi0
          refine wpOp_plain rfl rfl fun K' hK' => ?_
          go_simp
          refine (num_calls _ 32 (by omega) (by omega)).mono ?_
          rintro e W ⟨n2, A2, k2, c2, rfl, hn2, hstep⟩
          have h4 := h4.below hstep
          have sa := sa.below hstep
          have sb := sb.below hstep
          have sc := sc.below hstep
          have ya := ya.below hstep
          have yb := yb.below hstep
          have yc := yc.below hstep
          have hn0 := hn0.below hstep
          have hn1 := hn1.below hstep
          have h5 := h5.below hstep
          have hbel := hbel.trans (hstep.mono hbel.size)
          have hB := Nat.le_trans hB hstep.size
          refine hK' _ _ ⟨⟨sa, sb⟩, ?_⟩
          clear hK' K' hstep
          refine wpAnyH_all (rs := [7]) (by kernel_rfl) (by simp) ?_
          intro i0 hi0
          obtain rfl : i0 = 7 := by simpa using hi0
          refine wpOp_plain rfl rfl fun K' hK' => ?_
          go_simp
          refine (tmul_calls _ n2 nb A2 Ab k2 kb c2 cb 32 xb hn2 yb).mono ?_
          rintro e W ⟨n3, A3, k3, c3, rfl, hn3, hstep⟩
          have h4 := h4.below hstep
          have sa := sa.below hstep
          have sb := sb.below hstep
          have sc := sc.below hstep
          have ya := ya.below hstep
          have yb := yb.below hstep
          have yc := yc.below hstep
          have hn0 := hn0.below hstep
          have hn1 := hn1.below hstep
          have h5 := h5.below hstep
          have hn2 := hn2.below hstep
          have hbel := hbel.trans (hstep.mono hbel.size)
          have hB := Nat.le_trans hB hstep.size
          refine hK' _ _ ⟨⟨sa, sb⟩, ?_⟩
          clear hK' K' hstep
          refine wpAnyH_all (rs := [8]) (by kernel_rfl) (by simp) ?_
          intro i0 hi0
          obtain rfl : i0 = 8 := by simpa using hi0
          refine wpOp_plain rfl rfl fun K' hK' => ?_
          go_simp
          refine (tadd_calls _ n1 n3 A1 A3 k1 k3 c1 c3 (Num.fit (48 * xa)) (Num.fit (32 * xb)) hn1 hn3).mono ?_
          rintro e W ⟨n4, A4, k4, c4, rfl, hn4, hstep⟩
          have h4 := h4.below hstep
          have sa := sa.below hstep
          have sb := sb.below hstep
          have sc := sc.below hstep
          have ya := ya.below hstep
          have yb := yb.below hstep
          have yc := yc.below hstep
          have hn0 := hn0.below hstep
          have hn1 := hn1.below hstep
          have h5 := h5.below hstep
          have hn2 := hn2.below hstep
          have hn3 := hn3.below hstep
          have hbel := hbel.trans (hstep.mono hbel.size)
          have hB := Nat.le_trans hB hstep.size
          refine hK' _ _ ⟨⟨sa, sb⟩, ?_⟩
          clear hK' K' hstep
          have f0 := h5.c0
          have f1 := h5.c1
          have f2 := h5.fr 0
          have f3 := h5.fr 1
          refine wpAnyH_all (rs := [10]) (by kernel_rfl) (by simp) ?_
          intro i0 hi0
          obtain rfl : i0 = 10 := by simpa using hi0
          refine wpOp_plain rfl rfl fun K' hK' => ?_
          go_simp
          exact hK' _ _ ⟨⟨sa.far2 _ _ _ (by omega), sb.far2 _ _ _ (by omega)⟩, wpAnyH_done (by kernel_rfl) (key b5 n0 A0 k0 c0 n1 A1 k1 c1 n2 A2 k2 c2 n3 A3 k3 c3 n4 A4 k4 c4 _ ⟨hn4.set2 h5 _ _, by omega, h5.set2 _ _, h4.far2 _ _ _ (by omega), sa.far2 _ _ _ (by omega), sb.far2 _ _ _ (by omega), sc.far2 _ _ _ (by omega), yc.set2 h5 _ _, below_set2 hbel b5 (by omega) _ _⟩) _⟩
      · refine wpOp_plain rfl rfl fun K' hK' => ?_
        go_simp
        have hal := (Below.refl W.heap.size W).alloc (Nat.le_refl _) (.cells #[.bool false, .slice none 0 0] 92)
        have h5 := Blk.new W #[.bool false, .slice none 0 0] 92
        obtain ⟨b5, hb5⟩ : ∃ b5, b5 = W.heap.size := ⟨_, rfl⟩
        rw [← hb5] at h5 ⊢
        have hb5B : B ≤ b5 := by omega
        have h4 := h4.below hal
        have sa := sa.below hal
        have sb := sb.below hal
        have sc := sc.below hal
        have ya := ya.below hal
        have yb := yb.below hal
        have yc := yc.below hal
        have hn0 := hn0.below hal
        have hbel := hbel.trans (hal.mono hbel.size)
        have hB := Nat.le_trans hB hal.size
        clear hb5 hal
        generalize W.alloc (.cells #[.bool false, .slice none 0 0] 92) = W at *
        refine hK' _ _ ⟨⟨sa, sb⟩, ?_⟩
        clear hK' K'
        refine wpAnyH_all (rs := [3]) (by kernel_rfl) (by simp) ?_
        intro i0 hi0
        obtain rfl : i0 = 3 := by simpa using hi0
        refine wpOp_plain rfl rfl fun K' hK' => ?_
        go_simp
        refine (tmul_calls _ n0 na A0 Aa k0 ka c0 ca 48 xa hn0 ya).mono ?_
        rintro e W ⟨n1, A1, k1, c1, rfl, hn1, hstep⟩
        have h4 := h4.below hstep
        have sa := sa.below hstep
        have sb := sb.below hstep
        have sc := sc.below hstep
        have ya := ya.below hstep
        have yb := yb.below hstep
        have yc := yc.below hstep
        have hn0 := hn0.below hstep
        have h5 := h5.below hstep
        have hbel := hbel.trans (hstep.mono hbel.size)
        have hB := Nat.le_trans hB hstep.size
        refine hK' _ _ ⟨⟨sa, sb⟩, ?_⟩
        clear hK' K' hstep
        refine wpAnyH_all (rs := [4]) (by kernel_rfl) (by simp) ?_
        intro i0 hi0
        obtain rfl : i0 = 4 := by simpa using hi0
        refine wpOp_plain rfl rfl fun K' hK' => ?_
        go_simp
        refine (num_calls _ 32 (by omega) (by omega)).mono ?_
        rintro e W ⟨n2, A2, k2, c2, rfl, hn2, hstep⟩
        have h4 := h4.below hstep
        have sa := sa.below hstep
        have sb := sb.below hstep
        have sc := sc.below hstep
        have ya := ya.below hstep
        have yb := yb.below hstep
        have yc := yc.below hstep
        have hn0 := hn0.below hstep
        have h5 := h5.below hstep
        have hn1 := hn1.below hstep
        have hbel := hbel.trans (hstep.mono hbel.size)
        have hB := Nat.le_trans hB hstep.size
        refine hK' _ _ ⟨⟨sa, sb⟩, ?_⟩
        clear hK' K' hstep
        refine wpAnyH_all (rs := [7]) (by kernel_rfl) (by simp) ?_
        intro i0 hi0
        obtain rfl : i0 = 7 := by simpa using hi0
        refine wpOp_plain rfl rfl fun K' hK' => ?_
        go_simp
        refine (tmul_calls _ n2 nb A2 Ab k2 kb c2 cb 32 xb hn2 yb).mono ?_
        rintro e W ⟨n3, A3, k3, c3, rfl, hn3, hstep⟩
        have h4 := h4.below hstep
        have sa := sa.below hstep
        have sb := sb.below hstep
        have sc := sc.below hstep
        have ya := ya.below hstep
        have yb := yb.below hstep
        have yc := yc.below hstep
        have hn0 := hn0.below hstep
        have h5 := h5.below hstep
        have hn1 := hn1.below hstep
        have hn2 := hn2.below hstep
        have hbel := hbel.trans (hstep.mono hbel.size)
        have hB := Nat.le_trans hB hstep.size
        refine hK' _ _ ⟨⟨sa, sb⟩, ?_⟩
        clear hK' K' hstep
        refine wpAnyH_all (rs := [8]) (by kernel_rfl) (by simp) ?_
        intro i0 hi0
        obtain rfl : i0 = 8 := by simpa using hi0
        refine wpOp_plain rfl rfl fun K' hK' => ?_
        go_simp
        refine (tadd_calls _ n1 n3 A1 A3 k1 k3 c1 c3 (Num.fit (48 * xa)) (Num.fit (32 * xb)) hn1 hn3).mono ?_
        rintro e W ⟨n4, A4, k4, c4, rfl, hn4, hstep⟩
        have h4 := h4.below hstep
        have sa := sa.below hstep
        have sb := sb.below hstep
        have sc := sc.below hstep
        have ya := ya.below hstep
        have yb := yb.below hstep
        have yc := yc.below hstep
        have hn0 := hn0.below hstep
        have h5 := h5.below hstep
        have hn1 := hn1.below hstep
        have hn2 := hn2.below hstep
        have hn3 := hn3.below hstep
        have hbel := hbel.trans (hstep.mono hbel.size)
        have hB := Nat.le_trans hB hstep.size
        refine hK' _ _ ⟨⟨sa, sb⟩, ?_⟩
        clear hK' K' hstep
        have f0 := h5.c0
        have f1 := h5.c1
        have f2 := h5.fr 0
        have f3 := h5.fr 1
        refine wpAnyH_all (rs := [10]) (by kernel_rfl) (by simp) ?_
        intro i0 hi0
        obtain rfl : i0 = 10 := by simpa using hi0
        refine wpOp_plain rfl rfl fun K' hK' => ?_
        go_simp
        exact hK' _ _ ⟨⟨sa.far2 _ _ _ (by omega), sb.far2 _ _ _ (by omega)⟩, wpAnyH_done (by kernel_rfl) (key b5 n0 A0 k0 c0 n1 A1 k1 c1 n2 A2 k2 c2 n3 A3 k3 c3 n4 A4 k4 c4 _ ⟨hn4.set2 h5 _ _, by omega, h5.set2 _ _, h4.far2 _ _ _ (by omega), sa.far2 _ _ _ (by omega), sb.far2 _ _ _ (by omega), sc.far2 _ _ _ (by omega), yc.set2 h5 _ _, below_set2 hbel b5 (by omega) _ _⟩) _⟩
    · refine wpOp_plain rfl rfl fun K' hK' => ?_
      go_simp
      have hal := (Below.refl W.heap.size W).alloc (Nat.le_refl _) (.cells #[.bool false, .slice none 0 0] 92)
      have h5 := Blk.new W #[.bool false, .slice none 0 0] 92
      obtain ⟨b5, hb5⟩ : ∃ b5, b5 = W.heap.size := ⟨_, rfl⟩
      rw [← hb5] at h5 ⊢
      have hb5B : B ≤ b5 := by omega
      have h4 := h4.below hal
      have sa := sa.below hal
      have sb := sb.below hal
      have sc := sc.below hal
      have ya := ya.below hal
      have yb := yb.below hal
      have yc := yc.below hal
      have hbel := hbel.trans (hal.mono hbel.size)
      have hB := Nat.le_trans hB hal.size
      clear hb5 hal
      generalize W.alloc (.cells #[.bool false, .slice none 0 0] 92) = W at *
      refine hK' _ _ ⟨⟨sa, sb⟩, ?_⟩
      clear hK' K'
      refine wpAnyH_all (rs := [0]) (by kernel_rfl) (by simp) ?_
      intro i0 hi0
      obtain rfl : i0 = 0 := by simpa using hi0
      refine wpOp_plain rfl rfl fun K' hK' => ?_
      go_simp
      refine (num_calls _ 48 (by omega) (by omega)).mono ?_
      rintro e W ⟨n0, A0, k0, c0, rfl, hn0, hstep⟩
      have h4 := h4.below hstep
      have sa := sa.below hstep
      have sb := sb.below hstep
      have sc := sc.below hstep
      have ya := ya.below hstep
      have yb := yb.below hstep
      have yc := yc.below hstep
      have h5 := h5.below hstep
      have hbel := hbel.trans (hstep.mono hbel.size)
      have hB := Nat.le_trans hB hstep.size
      refine hK' _ _ ⟨⟨sa, sb⟩, ?_⟩
      clear hK' K' hstep
      refine wpAnyH_all (rs := [3]) (by kernel_rfl) (by simp) ?_
      intro i0 hi0
      obtain rfl : i0 = 3 := by simpa using hi0
      refine wpOp_plain rfl rfl fun K' hK' => ?_
      go_simp
      refine (tmul_calls _ n0 na A0 Aa k0 ka c0 ca 48 xa hn0 ya).mono ?_
      rintro e W ⟨n1, A1, k1, c1, rfl, hn1, hstep⟩
      have h4 := h4.below hstep
      have sa := sa.below hstep
      have sb := sb.below hstep
      have sc := sc.below hstep
      have ya := ya.below hstep
      have yb := yb.below hstep
      have yc := yc.below hstep
      have h5 := h5.below hstep
      have hn0 := hn0.below hstep
      have hbel := hbel.trans (hstep.mono hbel.size)
      have hB := Nat.le_trans hB hstep.size
      refine hK' _ _ ⟨⟨sa, sb⟩, ?_⟩
      clear hK' K' hstep
      refine wpAnyH_all (rs := [4]) (by kernel_rfl) (by simp) ?_
      intro i0 hi0
      obtain rfl : i0 = 4 := by simpa using hi0
      refine wpOp_plain rfl rfl fun K' hK' => ?_
      go_simp
      refine (num_calls _ 32 (by omega) (by omega)).mono ?_
      rintro e W ⟨n2, A2, k2, c2, rfl, hn2, hstep⟩
      have h4 := h4.below hstep
      have sa := sa.below hstep
      have sb := sb.below hstep
      have sc := sc.below hstep
      have ya := ya.below hstep
      have yb := yb.below hstep
      have yc := yc.below hstep
      have h5 := h5.below hstep
      have hn0 := hn0.below hstep
      have hn1 := hn1.below hstep
      have hbel := hbel.trans (hstep.mono hbel.size)
      have hB := Nat.le_trans hB hstep.size
      refine hK' _ _ ⟨⟨sa, sb⟩, ?_⟩
      clear hK' K' hstep
      refine wpAnyH_all (rs := [7]) (by kernel_rfl) (by simp) ?_
      intro i0 hi0
      obtain rfl : i0 = 7 := by simpa using hi0
      refine wpOp_plain rfl rfl fun K' hK' => ?_
      go_simp
      refine (tmul_calls _ n2 nb A2 Ab k2 kb c2 cb 32 xb hn2 yb).mono ?_
      rintro e W ⟨n3, A3, k3, c3, rfl, hn3, hstep⟩
      have h4 := h4.below hstep
      have sa := sa.below hstep
      have sb := sb.below hstep
      have sc := sc.below hstep
      have ya := ya.below hstep
      have yb := yb.below hstep
      have yc := yc.below hstep
      have h5 := h5.below hstep
      have hn0 := hn0.below hstep
      have hn1 := hn1.below hstep
      have hn2 := hn2.below hstep
      have hbel := hbel.trans (hstep.mono hbel.size)
      have hB := Nat.le_trans hB hstep.size
      refine hK' _ _ ⟨⟨sa, sb⟩, ?_⟩
      clear hK' K' hstep
      refine wpAnyH_all (rs := [8]) (by kernel_rfl) (by simp) ?_
      intro i0 hi0
      obtain rfl : i0 = 8 := by simpa using hi0
      refine wpOp_plain rfl rfl fun K' hK' => ?_
      go_simp
      refine (tadd_calls _ n1 n3 A1 A3 k1 k3 c1 c3 (Num.fit (48 * xa)) (Num.fit (32 * xb)) hn1 hn3).mono ?_
      rintro e W ⟨n4, A4, k4, c4, rfl, hn4, hstep⟩
      have h4 := h4.below hstep
      have sa := sa.below hstep
      have sb := sb.below hstep
      have sc := sc.below hstep
      have ya := ya.below hstep
      have yb := yb.below hstep
      have yc := yc.below hstep
      have h5 := h5.below hstep
      have hn0 := hn0.below hstep
      have hn1 := hn1.below hstep
      have hn2 := hn2.below hstep
      have hn3 := hn3.below hstep
      have hbel := hbel.trans (hstep.mono hbel.size)
      have hB := Nat.le_trans hB hstep.size
      refine hK' _ _ ⟨⟨sa, sb⟩, ?_⟩
      clear hK' K' hstep
      have f0 := h5.c0
      have f1 := h5.c1
      have f2 := h5.fr 0
      have f3 := h5.fr 1
      refine wpAnyH_all (rs := [10]) (by kernel_rfl) (by simp) ?_
      intro i0 hi0
      obtain rfl : i0 = 10 := by simpa using hi0
      refine wpOp_plain rfl rfl fun K' hK' => ?_
      go_simp
      exact hK' _ _ ⟨⟨sa.far2 _ _ _ (by omega), sb.far2 _ _ _ (by omega)⟩, wpAnyH_done (by kernel_rfl) (key b5 n0 A0 k0 c0 n1 A1 k1 c1 n2 A2 k2 c2 n3 A3 k3 c3 n4 A4 k4 c4 _ ⟨hn4.set2 h5 _ _, by omega, h5.set2 _ _, h4.far2 _ _ _ (by omega), sa.far2 _ _ _ (by omega), sb.far2 _ _ _ (by omega), sc.far2 _ _ _ (by omega), yc.set2 h5 _ _, below_set2 hbel b5 (by omega) _ _⟩) _⟩
  · rintro b5 n0 A0 k0 c0 n1 A1 k1 c1 n2 A2 k2 c2 n3 A3 k3 c3 n4 A4 k4 c4 W ⟨hwd, hb5, h5, h4, sa, sb, sc, yc, hbel⟩
    have H4 := Lib.hid h4
    have H5 := Lib.hid h5
    have Sa := Lib.hid sa
    have Sb := Lib.hid sb
    have Sc := Lib.hid sc
    have Yc := Lib.hid yc
    have Hwd := Lib.hid hwd
    have HBl := Lib.hid hbel
    have hw1 : IntKind.i64.wrap (48 * ra) = 48 * ra := wrap_i64 _ (by omega) (by omega)
    have hw2 : IntKind.i64.wrap (32 * rb) = 32 * rb := wrap_i64 _ (by omega) (by omega)
    have hw3 : IntKind.i64.wrap (48 * ra + 32 * rb) = 48 * ra + 32 * rb := wrap_i64 _ (by omega) (by omega)
    have hw4 : IntKind.i64.wrap (20 * rc) = 20 * rc := wrap_i64 _ (by omega) (by omega)
    have hw5 : IntKind.i64.wrap (48 * ra + 32 * rb + 20 * rc) = 48 * ra + 32 * rb + 20 * rc := wrap_i64 _ (by omega) (by omega)
    have hmw : w.heap.size < m := hl3
    clear h4 h5 sa sb sc yc hwd hbel Xa Xb Xc HBel
    go_wp2
    refine region_start (S := fun W' => Blk W' b5 #[.bool n4, .slice A4 k4 c4] 92 ∧ Blk W' m #[.bool na, .slice Aa ka ca, .int .i64 ra] 241 ∧ Blk W' (m + 1) #[.bool nb, .slice Ab kb cb, .int .i64 rb] 241 ∧ Blk W' (m + 1 + 1) #[.bool nc, .slice Ac kc cc, .int .i64 rc] 241) (by kernel_rfl) ?_
    intro W hW
    have h4 : Blk W w.heap.size #[.bool false, .slice none 0 0, .int .i64 0] 241 := by rw [hW]; exact H4.out
    have yc : WD W nc Ac kc cc xc := by rw [hW]; exact Yc.out
    have hwd : WD W n4 A4 k4 c4 (Num.fit (Num.fit (48 * xa) + Num.fit (32 * xb))) := by rw [hW]; exact Hwd.out
    have hbel : Below w.heap.size w W := by rw [hW]; exact below_drewN HBl.out 1
    have hS : Blk W b5 #[.bool n4, .slice A4 k4 c4] 92 ∧ Blk W m #[.bool na, .slice Aa ka ca, .int .i64 ra] 241 ∧ Blk W (m + 1) #[.bool nb, .slice Ab kb cb, .int .i64 rb] 241 ∧ Blk W (m + 1 + 1) #[.bool nc, .slice Ac kc cc, .int .i64 rc] 241 := by rw [hW]; exact ⟨H5.out, Sa.out, Sb.out, Sc.out⟩
    clear hW H4 H5 Sa Sb Sc Yc Hwd HBl
    refine wpAnyH_take (i := 0) (v := .agg #[.bool n4, .slice A4 k4 c4]) rfl (by kernel_rfl) (by kernel_rfl) (by kernel_rfl) (fun _ _ _ h => h) (.inl ⟨rfl, fun w0 hw0 => ?a0⟩) hS ?_
    case a0 =>
      obtain ⟨g5, ga, gb, gc⟩ := hw0; have e0 := g5.c0; have e1 := g5.c1; have e2 : w0.cell? ⟨m, 2, none⟩ = some (.int .i64 ra) := ga.at 2; have e3 : w0.cell? ⟨m + 1, 2, none⟩ = some (.int .i64 rb) := gb.at 2; have e4 : w0.cell? ⟨m + 1 + 1, 0, none⟩ = some (.bool nc) := gc.at 0; have e5 : w0.cell? ⟨m + 1 + 1, 1, none⟩ = some (.slice Ac kc cc) := gc.at 1; have e6 : w0.cell? ⟨m + 1 + 1, 2, none⟩ = some (.int .i64 rc) := gc.at 2
      go_simp
    refine wpAnyH_take (i := 2) (v := .pointer (some ⟨m + 1 + 1, 0, none⟩)) rfl (by kernel_rfl) (by kernel_rfl) (by kernel_rfl) (fun _ _ _ h => h) (.inl ⟨rfl, fun w0 hw0 => ?a2⟩) hS ?_
    case a2 =>
      obtain ⟨g5, ga, gb, gc⟩ := hw0; have e0 := g5.c0; have e1 := g5.c1; have e2 : w0.cell? ⟨m, 2, none⟩ = some (.int .i64 ra) := ga.at 2; have e3 : w0.cell? ⟨m + 1, 2, none⟩ = some (.int .i64 rb) := gb.at 2; have e4 : w0.cell? ⟨m + 1 + 1, 0, none⟩ = some (.bool nc) := gc.at 0; have e5 : w0.cell? ⟨m + 1 + 1, 1, none⟩ = some (.slice Ac kc cc) := gc.at 1; have e6 : w0.cell? ⟨m + 1 + 1, 2, none⟩ = some (.int .i64 rc) := gc.at 2
      go_simp
    refine wpAnyH_take (i := 3) (v := .agg #[.bool nc, .slice Ac kc cc]) rfl (by kernel_rfl) (by kernel_rfl) (by kernel_rfl) (fun _ _ _ h => h) (.inl ⟨rfl, fun w0 hw0 => ?a3⟩) hS ?_
    case a3 =>
      obtain ⟨g5, ga, gb, gc⟩ := hw0; have e0 := g5.c0; have e1 := g5.c1; have e2 : w0.cell? ⟨m, 2, none⟩ = some (.int .i64 ra) := ga.at 2; have e3 : w0.cell? ⟨m + 1, 2, none⟩ = some (.int .i64 rb) := gb.at 2; have e4 : w0.cell? ⟨m + 1 + 1, 0, none⟩ = some (.bool nc) := gc.at 0; have e5 : w0.cell? ⟨m + 1 + 1, 1, none⟩ = some (.slice Ac kc cc) := gc.at 1; have e6 : w0.cell? ⟨m + 1 + 1, 2, none⟩ = some (.int .i64 rc) := gc.at 2
      go_simp
    refine wpAnyH_take (i := 6) (v := .pointer (some ⟨m, 2, none⟩)) rfl (by kernel_rfl) (by kernel_rfl) (by kernel_rfl) (fun _ _ _ h => h) (.inl ⟨rfl, fun w0 hw0 => ?a6⟩) hS ?_
    case a6 =>
      obtain ⟨g5, ga, gb, gc⟩ := hw0; have e0 := g5.c0; have e1 := g5.c1; have e2 : w0.cell? ⟨m, 2, none⟩ = some (.int .i64 ra) := ga.at 2; have e3 : w0.cell? ⟨m + 1, 2, none⟩ = some (.int .i64 rb) := gb.at 2; have e4 : w0.cell? ⟨m + 1 + 1, 0, none⟩ = some (.bool nc) := gc.at 0; have e5 : w0.cell? ⟨m + 1 + 1, 1, none⟩ = some (.slice Ac kc cc) := gc.at 1; have e6 : w0.cell? ⟨m + 1 + 1, 2, none⟩ = some (.int .i64 rc) := gc.at 2
      go_simp
    refine wpAnyH_take (i := 7) (v := .int .i64 ra) rfl (by kernel_rfl) (by kernel_rfl) (by kernel_rfl) (fun _ _ _ h => h) (.inl ⟨rfl, fun w0 hw0 => ?a7⟩) hS ?_
    case a7 =>
      obtain ⟨g5, ga, gb, gc⟩ := hw0; have e0 := g5.c0; have e1 := g5.c1; have e2 : w0.cell? ⟨m, 2, none⟩ = some (.int .i64 ra) := ga.at 2; have e3 : w0.cell? ⟨m + 1, 2, none⟩ = some (.int .i64 rb) := gb.at 2; have e4 : w0.cell? ⟨m + 1 + 1, 0, none⟩ = some (.bool nc) := gc.at 0; have e5 : w0.cell? ⟨m + 1 + 1, 1, none⟩ = some (.slice Ac kc cc) := gc.at 1; have e6 : w0.cell? ⟨m + 1 + 1, 2, none⟩ = some (.int .i64 rc) := gc.at 2
      go_simp
    refine wpAnyH_take (i := 8) (v := .int .i64 (48 * ra)) rfl (by kernel_rfl) (by kernel_rfl) (by kernel_rfl) (fun _ _ _ h => h) (.inl ⟨rfl, fun w0 hw0 => ?a8⟩) hS ?_
    case a8 =>
      obtain ⟨g5, ga, gb, gc⟩ := hw0; have e0 := g5.c0; have e1 := g5.c1; have e2 : w0.cell? ⟨m, 2, none⟩ = some (.int .i64 ra) := ga.at 2; have e3 : w0.cell? ⟨m + 1, 2, none⟩ = some (.int .i64 rb) := gb.at 2; have e4 : w0.cell? ⟨m + 1 + 1, 0, none⟩ = some (.bool nc) := gc.at 0; have e5 : w0.cell? ⟨m + 1 + 1, 1, none⟩ = some (.slice Ac kc cc) := gc.at 1; have e6 : w0.cell? ⟨m + 1 + 1, 2, none⟩ = some (.int .i64 rc) := gc.at 2
      go_simp
    refine wpAnyH_take (i := 9) (v := .pointer (some ⟨m + 1, 2, none⟩)) rfl (by kernel_rfl) (by kernel_rfl) (by kernel_rfl) (fun _ _ _ h => h) (.inl ⟨rfl, fun w0 hw0 => ?a9⟩) hS ?_
    case a9 =>
      obtain ⟨g5, ga, gb, gc⟩ := hw0; have e0 := g5.c0; have e1 := g5.c1; have e2 : w0.cell? ⟨m, 2, none⟩ = some (.int .i64 ra) := ga.at 2; have e3 : w0.cell? ⟨m + 1, 2, none⟩ = some (.int .i64 rb) := gb.at 2; have e4 : w0.cell? ⟨m + 1 + 1, 0, none⟩ = some (.bool nc) := gc.at 0; have e5 : w0.cell? ⟨m + 1 + 1, 1, none⟩ = some (.slice Ac kc cc) := gc.at 1; have e6 : w0.cell? ⟨m + 1 + 1, 2, none⟩ = some (.int .i64 rc) := gc.at 2
      go_simp
    refine wpAnyH_take (i := 10) (v := .int .i64 rb) rfl (by kernel_rfl) (by kernel_rfl) (by kernel_rfl) (fun _ _ _ h => h) (.inl ⟨rfl, fun w0 hw0 => ?a10⟩) hS ?_
    case a10 =>
      obtain ⟨g5, ga, gb, gc⟩ := hw0; have e0 := g5.c0; have e1 := g5.c1; have e2 : w0.cell? ⟨m, 2, none⟩ = some (.int .i64 ra) := ga.at 2; have e3 : w0.cell? ⟨m + 1, 2, none⟩ = some (.int .i64 rb) := gb.at 2; have e4 : w0.cell? ⟨m + 1 + 1, 0, none⟩ = some (.bool nc) := gc.at 0; have e5 : w0.cell? ⟨m + 1 + 1, 1, none⟩ = some (.slice Ac kc cc) := gc.at 1; have e6 : w0.cell? ⟨m + 1 + 1, 2, none⟩ = some (.int .i64 rc) := gc.at 2
      go_simp
    refine wpAnyH_take (i := 11) (v := .int .i64 (32 * rb)) rfl (by kernel_rfl) (by kernel_rfl) (by kernel_rfl) (fun _ _ _ h => h) (.inl ⟨rfl, fun w0 hw0 => ?a11⟩) hS ?_
    case a11 =>
      obtain ⟨g5, ga, gb, gc⟩ := hw0; have e0 := g5.c0; have e1 := g5.c1; have e2 : w0.cell? ⟨m, 2, none⟩ = some (.int .i64 ra) := ga.at 2; have e3 : w0.cell? ⟨m + 1, 2, none⟩ = some (.int .i64 rb) := gb.at 2; have e4 : w0.cell? ⟨m + 1 + 1, 0, none⟩ = some (.bool nc) := gc.at 0; have e5 : w0.cell? ⟨m + 1 + 1, 1, none⟩ = some (.slice Ac kc cc) := gc.at 1; have e6 : w0.cell? ⟨m + 1 + 1, 2, none⟩ = some (.int .i64 rc) := gc.at 2
      go_simp
    refine wpAnyH_take (i := 12) (v := .int .i64 (48 * ra + 32 * rb)) rfl (by kernel_rfl) (by kernel_rfl) (by kernel_rfl) (fun _ _ _ h => h) (.inl ⟨rfl, fun w0 hw0 => ?a12⟩) hS ?_
    case a12 =>
      obtain ⟨g5, ga, gb, gc⟩ := hw0; have e0 := g5.c0; have e1 := g5.c1; have e2 : w0.cell? ⟨m, 2, none⟩ = some (.int .i64 ra) := ga.at 2; have e3 : w0.cell? ⟨m + 1, 2, none⟩ = some (.int .i64 rb) := gb.at 2; have e4 : w0.cell? ⟨m + 1 + 1, 0, none⟩ = some (.bool nc) := gc.at 0; have e5 : w0.cell? ⟨m + 1 + 1, 1, none⟩ = some (.slice Ac kc cc) := gc.at 1; have e6 : w0.cell? ⟨m + 1 + 1, 2, none⟩ = some (.int .i64 rc) := gc.at 2
      go_simp
    refine wpAnyH_take (i := 13) (v := .pointer (some ⟨m + 1 + 1, 2, none⟩)) rfl (by kernel_rfl) (by kernel_rfl) (by kernel_rfl) (fun _ _ _ h => h) (.inl ⟨rfl, fun w0 hw0 => ?a13⟩) hS ?_
    case a13 =>
      obtain ⟨g5, ga, gb, gc⟩ := hw0; have e0 := g5.c0; have e1 := g5.c1; have e2 : w0.cell? ⟨m, 2, none⟩ = some (.int .i64 ra) := ga.at 2; have e3 : w0.cell? ⟨m + 1, 2, none⟩ = some (.int .i64 rb) := gb.at 2; have e4 : w0.cell? ⟨m + 1 + 1, 0, none⟩ = some (.bool nc) := gc.at 0; have e5 : w0.cell? ⟨m + 1 + 1, 1, none⟩ = some (.slice Ac kc cc) := gc.at 1; have e6 : w0.cell? ⟨m + 1 + 1, 2, none⟩ = some (.int .i64 rc) := gc.at 2
      go_simp
    refine wpAnyH_take (i := 14) (v := .int .i64 rc) rfl (by kernel_rfl) (by kernel_rfl) (by kernel_rfl) (fun _ _ _ h => h) (.inl ⟨rfl, fun w0 hw0 => ?a14⟩) hS ?_
    case a14 =>
      obtain ⟨g5, ga, gb, gc⟩ := hw0; have e0 := g5.c0; have e1 := g5.c1; have e2 : w0.cell? ⟨m, 2, none⟩ = some (.int .i64 ra) := ga.at 2; have e3 : w0.cell? ⟨m + 1, 2, none⟩ = some (.int .i64 rb) := gb.at 2; have e4 : w0.cell? ⟨m + 1 + 1, 0, none⟩ = some (.bool nc) := gc.at 0; have e5 : w0.cell? ⟨m + 1 + 1, 1, none⟩ = some (.slice Ac kc cc) := gc.at 1; have e6 : w0.cell? ⟨m + 1 + 1, 2, none⟩ = some (.int .i64 rc) := gc.at 2
      go_simp
    refine wpAnyH_take (i := 15) (v := .int .i64 (20 * rc)) rfl (by kernel_rfl) (by kernel_rfl) (by kernel_rfl) (fun _ _ _ h => h) (.inl ⟨rfl, fun w0 hw0 => ?a15⟩) hS ?_
    case a15 =>
      obtain ⟨g5, ga, gb, gc⟩ := hw0; have e0 := g5.c0; have e1 := g5.c1; have e2 : w0.cell? ⟨m, 2, none⟩ = some (.int .i64 ra) := ga.at 2; have e3 : w0.cell? ⟨m + 1, 2, none⟩ = some (.int .i64 rb) := gb.at 2; have e4 : w0.cell? ⟨m + 1 + 1, 0, none⟩ = some (.bool nc) := gc.at 0; have e5 : w0.cell? ⟨m + 1 + 1, 1, none⟩ = some (.slice Ac kc cc) := gc.at 1; have e6 : w0.cell? ⟨m + 1 + 1, 2, none⟩ = some (.int .i64 rc) := gc.at 2
      go_simp
    refine wpAnyH_take (i := 16) (v := .int .i64 (48 * ra + 32 * rb + 20 * rc)) rfl (by kernel_rfl) (by kernel_rfl) (by kernel_rfl) (fun _ _ _ h => h) (.inl ⟨rfl, fun w0 hw0 => ?a16⟩) hS ?_
    case a16 =>
      obtain ⟨g5, ga, gb, gc⟩ := hw0; have e0 := g5.c0; have e1 := g5.c1; have e2 : w0.cell? ⟨m, 2, none⟩ = some (.int .i64 ra) := ga.at 2; have e3 : w0.cell? ⟨m + 1, 2, none⟩ = some (.int .i64 rb) := gb.at 2; have e4 : w0.cell? ⟨m + 1 + 1, 0, none⟩ = some (.bool nc) := gc.at 0; have e5 : w0.cell? ⟨m + 1 + 1, 1, none⟩ = some (.slice Ac kc cc) := gc.at 1; have e6 : w0.cell? ⟨m + 1 + 1, 2, none⟩ = some (.int .i64 rc) := gc.at 2
      go_simp
    refine wpAnyH_all (rs := [1]) (by kernel_rfl) (by simp) ?_
    intro i0 hi0
    obtain rfl : i0 = 1 := by simpa using hi0
    refine wpOp_plain rfl rfl fun K' hK' => ?_
    go_simp
    refine (num_calls _ 20 (by omega) (by omega)).mono ?_
    rintro e W2 ⟨n5, A5, k5, c5, rfl, hw5', hb2⟩
    have hS := (⟨hS.1.below hb2, hS.2.1.below hb2, hS.2.2.1.below hb2, hS.2.2.2.below hb2⟩ : _ ∧ _ ∧ _ ∧ _)
    have h4 := h4.below hb2
    have yc := yc.below hb2
    have hwd := hwd.below hb2
    have hbel := hbel.trans (hb2.mono hbel.size)
    refine hK' _ _ ⟨hS, ?_⟩
    clear hK' K'
    refine wpAnyH_all (rs := [4]) (by kernel_rfl) (by simp) ?_
    intro i0 hi0
    obtain rfl : i0 = 4 := by simpa using hi0
    refine wpOp_plain rfl rfl fun K' hK' => ?_
    go_simp
    refine (tmul_calls _ n5 nc A5 Ac k5 kc c5 cc 20 xc hw5' yc).mono ?_
    rintro e W3 ⟨n6, A6, k6, c6, rfl, hw6, hb3⟩
    have hS := (⟨hS.1.below hb3, hS.2.1.below hb3, hS.2.2.1.below hb3, hS.2.2.2.below hb3⟩ : _ ∧ _ ∧ _ ∧ _)
    have h4 := h4.below hb3
    have hwd := hwd.below hb3
    have hbel := hbel.trans (hb3.mono hbel.size)
    refine hK' _ _ ⟨hS, ?_⟩
    clear hK' K'
    refine wpAnyH_all (rs := [5]) (by kernel_rfl) (by simp) ?_
    intro i0 hi0
    obtain rfl : i0 = 5 := by simpa using hi0
    refine wpOp_plain rfl rfl fun K' hK' => ?_
    go_simp
    refine (tsub_calls _ n4 n6 A4 A6 k4 k6 c4 c6 _ (Num.fit (20 * xc)) hwd hw6).mono ?_
    rintro e W4 ⟨n7, A7, k7, c7, rfl, hw7, hb4⟩
    have hS := (⟨hS.1.below hb4, hS.2.1.below hb4, hS.2.2.1.below hb4, hS.2.2.2.below hb4⟩ : _ ∧ _ ∧ _ ∧ _)
    have h4 := h4.below hb4
    have hbel := hbel.trans (hb4.mono hbel.size)
    refine hK' _ _ ⟨hS, ?_⟩
    clear hK' K'
    refine wpAnyH_take (i := 17) (v := .agg #[.bool n7, .slice A7 k7 c7, .int .i64 (48 * ra + 32 * rb + 20 * rc)]) rfl (by kernel_rfl) (by kernel_rfl) (by kernel_rfl) (fun _ _ _ h => h) (.inl ⟨rfl, fun w0 hw0 => ?a17⟩) hS ?_
    case a17 =>
      obtain ⟨g5, ga, gb, gc⟩ := hw0; have e0 := g5.c0; have e1 := g5.c1; have e2 : w0.cell? ⟨m, 2, none⟩ = some (.int .i64 ra) := ga.at 2; have e3 : w0.cell? ⟨m + 1, 2, none⟩ = some (.int .i64 rb) := gb.at 2; have e4 : w0.cell? ⟨m + 1 + 1, 0, none⟩ = some (.bool nc) := gc.at 0; have e5 : w0.cell? ⟨m + 1 + 1, 1, none⟩ = some (.slice Ac kc cc) := gc.at 1; have e6 : w0.cell? ⟨m + 1 + 1, 2, none⟩ = some (.int .i64 rc) := gc.at 2
      go_simp
    have f0 : W4.cell? ⟨w.heap.size, 0, none⟩ = some (.bool false) := h4.at 0
    have f1 : W4.cell? ⟨w.heap.size, 1, none⟩ = some (.slice none 0 0) := h4.at 1
    have f2 : W4.cell? ⟨w.heap.size, 2, none⟩ = some (.int .i64 0) := h4.at 2
    have g0 := h4.fr 0
    have g1 := h4.fr 1
    have g2 := h4.fr 2
    refine wpAnyH_all (rs := [18]) (by kernel_rfl) (by simp) ?_
    intro i0 hi0
    obtain rfl : i0 = 18 := by simpa using hi0
    refine wpOp_plain rfl rfl fun K' hK' => ?_
    go_simp
    have h8 := h4.set3 (.bool n7) (.slice A7 k7 c7) (.int .i64 (48 * ra + 32 * rb + 20 * rc))
    have hwd8 := hw7.set3 h4 (.bool n7) (.slice A7 k7 c7) (.int .i64 (48 * ra + 32 * rb + 20 * rc))
    have hb8 := below_set3 hbel w.heap.size (Nat.le_refl _) (.bool n7) (.slice A7 k7 c7) (.int .i64 (48 * ra + 32 * rb + 20 * rc))
    refine hK' _ _ ⟨⟨hS.1.far3 _ _ _ _ (by omega), hS.2.1.far3 _ _ _ _ (by omega), hS.2.2.1.far3 _ _ _ _ (by omega), hS.2.2.2.far3 _ _ _ _ (by omega)⟩, wpAnyH_done (by kernel_rfl) ?_ _⟩
    clear hK' K' f0 f1 f2 g0 g1 g2 hS h4 hw7 hbel
    generalize (((W4.setCell ⟨w.heap.size, 0, none⟩ (.bool n7)).setCell ⟨w.heap.size, 1, none⟩ (.slice A7 k7 c7)).setCell ⟨w.heap.size, 2, none⟩ (.int .i64 (48 * ra + 32 * rb + 20 * rc))) = W5 at *
    have r0 : W5.cell? ⟨w.heap.size, 0, none⟩ = some (.bool n7) := h8.at 0
    have r1 : W5.cell? ⟨w.heap.size, 1, none⟩ = some (.slice A7 k7 c7) := h8.at 1
    have r2 : W5.cell? ⟨w.heap.size, 2, none⟩ = some (.int .i64 (48 * ra + 32 * rb + 20 * rc)) := h8.at 2
    have HWd8 := Lib.hid hwd8
    have HB8 := Lib.hid hb8
    clear hwd8 hb8 h8
    go_wp2
    refine bodyPost_ret (v := .agg #[.bool n7, .slice A7 k7 c7, .int .i64 (48 * ra + 32 * rb + 20 * rc)]) (by simp [results, Tryz.results206, go_sem, r0, r1, r2]) rfl ?_
    exact ⟨n7, A7, k7, c7, rfl, HWd8.out, HB8.out⟩

end Go.Proofs.YtilaheplclaokaaGreatDoor
namespace Go.Proofs.YtilaheplclaokaaGreatDoor

theorem fit_pick (x : Int) : Num.fit x = x ∨ Num.fit x = 0 := by
  unfold Num.fit
  split
  · exact .inl rfl
  · exact .inr rfl
/-- A product taken down by p bits again is no more than it was. -/
theorem shift_down {t v p : Int} (ht : 0 ≤ t) (hv : 0 ≤ v) (hp : 0 ≤ p) (hvp : v ≤ 2 ^ p.toNat) : 0 ≤ shiftF (Num.fit (t * v)) (-p) ∧ shiftF (Num.fit (t * v)) (-p) ≤ t := by
  have h2 : (0 : Int) < 2 ^ p.toNat := Int.pow_pos (by omega)
  have h0 : 0 ≤ Num.fit (t * v) ∧ Num.fit (t * v) ≤ t * 2 ^ p.toNat := by
    have h3 : 0 ≤ t * v := Int.mul_nonneg ht hv
    have h4 : t * v ≤ t * 2 ^ p.toNat := Int.mul_le_mul_of_nonneg_left hvp ht
    rcases fit_pick (t * v) with h | h <;> rw [h] <;> omega
  generalize Num.fit (t * v) = y at *
  unfold shiftF
  split
  · have h5 : 0 ≤ shiftZ y (-p) ∧ shiftZ y (-p) ≤ t := by
      obtain ⟨m, rfl⟩ := Int.eq_ofNat_of_zero_le hp
      simp only [Int.toNat_natCast] at h0 h2
      rcases Nat.eq_zero_or_pos m with rfl | hm
      · simp [shiftZ] at *
        omega
      · rw [shiftZ_neg y m hm]
        exact ⟨Int.ediv_nonneg h0.1 (by omega), Int.ediv_le_of_le_mul h2 h0.2⟩
    rcases fit_pick (shiftZ y (-p)) with h | h <;> rw [h] <;> omega
  · exact ⟨Int.le_refl 0, ht⟩

/-- The terms: t, then t * y2 / 2^p / ((k + 1) * (k + 2)), and so on. -/
def serT (v p k x : Int) : Nat → Int
  | 0 => x
  | i + 1 => shiftF (Num.fit (serT v p k x i * v)) (-p) / ((k + 2 * (i : Int) + 1) * (k + 2 * (i : Int) + 2))

theorem serT_nonneg {v p k x : Int} (hx : 0 ≤ x) (hv : 0 ≤ v) (hp : 0 ≤ p) (hvp : v ≤ 2 ^ p.toNat) (hk : 0 ≤ k) : ∀ i, 0 ≤ serT v p k x i
  | 0 => hx
  | i + 1 => Int.ediv_nonneg (shift_down (serT_nonneg hx hv hp hvp hk i) hv hp hvp).1 (Int.mul_nonneg (by omega) (by omega))
theorem serT_half {v p k x : Int} (hx : 0 ≤ x) (hv : 0 ≤ v) (hp : 0 ≤ p) (hvp : v ≤ 2 ^ p.toNat) (hk : 0 ≤ k) (i : Nat) : serT v p k x (i + 1) * 2 ≤ serT v p k x i := by
  have h0 := serT_nonneg hx hv hp hvp hk i
  have h1 := shift_down h0 hv hp hvp
  have h2 : (2 : Int) ≤ (k + 2 * (i : Int) + 1) * (k + 2 * (i : Int) + 2) := by
    have := Int.mul_le_mul (show (1 : Int) ≤ k + 2 * (i : Int) + 1 by omega) (show (2 : Int) ≤ k + 2 * (i : Int) + 2 by omega) (by omega) (by omega)
    omega
  show shiftF (Num.fit (serT v p k x i * v)) (-p) / _ * 2 ≤ _
  generalize (k + 2 * (i : Int) + 1) * (k + 2 * (i : Int) + 2) = q at *
  have h3 : shiftF (Num.fit (serT v p k x i * v)) (-p) / q * q ≤ shiftF (Num.fit (serT v p k x i * v)) (-p) := Int.ediv_mul_le _ (by omega)
  have h4 : 0 ≤ shiftF (Num.fit (serT v p k x i * v)) (-p) / q := Int.ediv_nonneg h1.1 (by omega)
  have h5 := Int.mul_le_mul_of_nonneg_left h2 h4
  omega
theorem ser_terms {v p k x : Int} {K : Nat} (hx : 0 ≤ x) (hv : 0 ≤ v) (hp : 0 ≤ p) (hvp : v ≤ 2 ^ p.toNat) (hk : 0 ≤ k) (hK : x < 2 ^ K) (hf : x < Num.P 4096) : ∃ N, N ≤ K ∧ Terms (serT v p k x) N := by
  have hn := serT_nonneg hx hv hp hvp hk
  have hh := serT_half hx hv hp hvp hk
  have hs : ∀ i, i ≤ K → serT v p k x i < 2 ^ (K - i) := by
    intro i
    induction i with
    | zero => intro _; simpa [serT] using hK
    | succ i ih =>
      intro hi
      have h1 := ih (by omega)
      rw [show K - i = (K - (i + 1)) + 1 by omega, Int.pow_succ] at h1
      have := hh i
      omega
  have hz : serT v p k x K = 0 := by
    have h1 := hs K (Nat.le_refl _)
    simp at h1
    have := hn K
    omega
  obtain ⟨N, h1, h2, h3⟩ := first_zero _ K hz
  exact ⟨N, h1, h2, fun i hi => by have := hn i; have := h3 i hi; omega, fun i _ => by have := hh i; have := hn (i + 1); omega, hf⟩

end Go.Proofs.YtilaheplclaokaaGreatDoor
namespace Go.Proofs.YtilaheplclaokaaGreatDoor
open Go.RowKit Go.Shelf

theorem ser_stable (n₀ bt bv bp bk : Nat) (v p : Int) (k : Nat → Int) (x : Nat → Int) (h1 : bt < n₀) (h2 : bv < n₀) (h3 : bp < n₀) (h4 : bk < n₀) : Stable n₀ (fun i W => CircI bt bv bp bk v p (k i) (x i) W) where
  below := fun i W W' h hn hb => by
    obtain ⟨neg, A, n, cap, neg', A', n', cap', a1, a2, a3, a4, a5, a6⟩ := h
    exact ⟨neg, A, n, cap, neg', A', n', cap', a1.below hb, a2.below hb, a3.below hb, a4.below hb, a5.below hb, a6.below hb⟩
  set2 := fun i W b c D k l t u v hb hblk h => by
    obtain ⟨neg, A, n, cap, neg', A', n', cap', a1, a2, a3, a4, a5, a6⟩ := h
    exact ⟨neg, A, n, cap, neg', A', n', cap', a1.far2 _ _ _ (by omega), a2.set2 hblk u v, a3.far2 _ _ _ (by omega), a4.set2 hblk u v, a5.far2 _ _ _ (by omega), a6.far2 _ _ _ (by omega)⟩

/-- How many terms 'series' adds, what it gives, and how far that is off. -/
def serN (v p k x : Int) : Nat := firstZ (serT v p k x) 131072 0
def serV (v p k x : Int) : Int := altS (serT v p k x) (serN v p k x)
def serR (v p k x r : Int) : Int := 4 * (serN v p k x : Int) + 4 + r
theorem ser_row {v p k x : Int} (hx : 0 ≤ x) (hv : 0 ≤ v) (hp : 0 ≤ p) (hvp : v ≤ 2 ^ p.toNat) (hk : 0 ≤ k) (hf : x < Num.P 4096) : serN v p k x ≤ 131072 ∧ Terms (serT v p k x) (serN v p k x) := by
  obtain ⟨N, h1, h2⟩ := ser_terms (K := 131072) hx hv hp hvp hk (by have h3 := hf; rw [Num.P_pow2] at h3; exact h3) hf
  have h3 : serN v p k x = N := firstZ_terms h2 h1
  rw [h3]
  exact ⟨h1, h2⟩
theorem ser_bounds {v p k x : Int} (r : Int) (hx : 0 ≤ x) (hv : 0 ≤ v) (hp : 0 ≤ p) (hvp : v ≤ 2 ^ p.toNat) (hk : 0 ≤ k) (hf : x < Num.P 4096) : 0 ≤ serV v p k x ∧ serV v p k x ≤ x ∧ r + 4 ≤ serR v p k x r ∧ serR v p k x r ≤ r + 600000 := by
  obtain ⟨h1, h2⟩ := ser_row hx hv hp hvp hk hf
  have h3 := altS_bounds h2
  have h4 : serT v p k x 0 = x := rfl
  rw [h4] at h3
  unfold serV serR
  omega
theorem WD.big {w : World} {neg : Bool} {A : Option Addr} {n cap : Nat} {x : Int} (h : WD w neg A n cap x) : x < Num.P 4096 := by
  obtain ⟨g, _, h2, h3, _, _, _, h7⟩ := h
  have h8 := Num.fits_small neg h3 h2
  rw [← h7] at h8
  simp only [Num.fits, decide_eq_true_eq] at h8
  exact h8.2

set_option maxRecDepth 100000 in
set_option maxHeartbeats 1000000 in
theorem series_calls (w : World) (neg neg' nx : Bool) (A A' Ax : Option Addr) (n n' mx cap cap' cx bv bp bx : Nat) (x v p k r : Int) (hp : 0 ≤ p ∧ p ≤ 1000000) (hvp : v ≤ 2 ^ p.toNat) (hx0 : 0 ≤ x) (hv0 : 0 ≤ v) (hk : 0 ≤ k ∧ k ≤ 1) (hr : 0 ≤ r ∧ r ≤ 1000000000000)
    (hx : WD w neg A n cap x) (sv : Blk w bv #[.bool neg', .slice A' n' cap'] 92) (hv : WD w neg' A' n' cap' v) (sp : Blk w bp #[.int .i64 p] 3) (sx : Blk w bx #[.bool nx, .slice Ax mx cx, .int .i64 r] 241) :
    Calls Tryz.prog 253 #[.agg #[.bool neg, .slice A n cap], .int .i64 k, .pointer (some ⟨bv, 0, none⟩), .pointer (some ⟨bp, 0, none⟩), .pointer (some ⟨bx, 0, none⟩)] w (BPost (serV v p k x) (serR v p k x r) w) := by
  have hV : serV v p k x = altS (serT v p k x) (serN v p k x) := rfl
  have hR : serR v p k x r = 4 * (serN v p k x : Int) + 4 + r := rfl
  obtain ⟨hN, hT⟩ := ser_row hx0 hv0 hp.1 hvp hk.1 hx.big
  rw [hV, hR]
  clear hV hR
  generalize serN v p k x = N at *
  have hal := (((Below.refl w.heap.size w).alloc (Nat.le_refl _) (.cells #[.bool neg, .slice A n cap] 92)).alloc (by simp) (.cells #[.int .i64 k] 2)).alloc (by simp; omega) (.cells #[.bool false, .slice none 0 0, .int .i64 0] 241)
  have st := ((Blk.new w #[.bool neg, .slice A n cap] 92).alloc (.cells #[.int .i64 k] 2)).alloc (.cells #[.bool false, .slice none 0 0, .int .i64 0] 241)
  have sk := (Blk.new (w.alloc (.cells #[.bool neg, .slice A n cap] 92)) #[.int .i64 k] 2).alloc (.cells #[.bool false, .slice none 0 0, .int .i64 0] 241)
  have s4 := Blk.new ((w.alloc (.cells #[.bool neg, .slice A n cap] 92)).alloc (.cells #[.int .i64 k] 2)) #[.bool false, .slice none 0 0, .int .i64 0] 241
  simp only [World.size_alloc] at st sk s4
  have lv := sv.lt
  have lp := sp.lt
  have lx := sx.lt
  have sv := sv.below hal
  have sp := sp.below hal
  have sx := sx.below hal
  have hx := hx.below hal
  have hv := hv.below hal
  have ltt := st.lt
  have ltk := sk.lt
  have HSum := Lib.hid (sum4 (.pointer (some ⟨w.heap.size, 0, none⟩)) (.pointer (some ⟨bv, 0, none⟩)) (.pointer (some ⟨bp, 0, none⟩)) (.pointer (some ⟨w.heap.size + 1, 0, none⟩)) (fun b => b = w.heap.size ∨ b = w.heap.size + 1) (serT v p k x) N (fun i W => CircI w.heap.size bv bp (w.heap.size + 1) v p (k + 2 * (i : Int)) (serT v p k x i) W) (((w.alloc (.cells #[.bool neg, .slice A n cap] 92)).alloc (.cells #[.int .i64 k] 2)).alloc (.cells #[.bool false, .slice none 0 0, .int .i64 0] 241)) hT (by omega) (fun b hb => by rcases hb with rfl | rfl; exact ltt; exact ltk)
    ⟨neg, A, n, cap, neg', A', n', cap', st, hx, sv, hv, sp, by simpa using sk⟩ (ser_stable _ _ _ _ _ _ _ _ _ ltt (by omega) (by omega) ltk)
    (fun i W hi hs hI => by
      have := circ_next W w.heap.size bv bp (w.heap.size + 1) v p (k + 2 * (i : Int)) (serT v p k x i) i (by omega) (by omega) (by omega) (by omega) (by omega) (by omega) (by omega) hp hI
      rw [show k + 2 * ((i + 1 : Nat) : Int) = k + 2 * (i : Int) + 2 from by omega]
      exact this))
  have HX := Lib.hid sx
  have H4 := Lib.hid s4
  have HBl := Lib.hid hal
  have hw1 : IntKind.i64.wrap (4 * (N : Int)) = 4 * (N : Int) := wrap_i64 _ (by omega) (by omega)
  have hw2 : IntKind.i64.wrap (4 * (N : Int) + 4) = 4 * (N : Int) + 4 := wrap_i64 _ (by omega) (by omega)
  have hw3 : IntKind.i64.wrap (4 * (N : Int) + 4 + r) = 4 * (N : Int) + 4 + r := wrap_i64 _ (by omega) (by omega)
  clear hx sv hv sp sx st sk s4 hal hT ltt ltk
  clear hx sv hv sp sx
  go_enter Tryz.func253, Tryz.ntmps253
  go_wp2_with fail
  go_at_call 250
  refine HSum.out.mono ?_
  rintro e W5 ⟨n6, A6, m6, c6, rfl, hw6, _, hkp⟩
  have hb4 := hkp.blk H4.out (fun e => by rcases e with e | e <;> omega)
  have hbx := hkp.blk HX.out (fun e => by rcases e with e | e <;> omega)
  have hbl := hkp.to_below HBl.out HBl.out.size (fun b hb => by rcases hb with e | e <;> omega)
  have f0 : W5.cell? ⟨w.heap.size + 1 + 1, 0, none⟩ = some (.bool false) := hb4.at 0
  have f1 : W5.cell? ⟨w.heap.size + 1 + 1, 1, none⟩ = some (.slice none 0 0) := hb4.at 1
  have f2 : W5.cell? ⟨w.heap.size + 1 + 1, 2, none⟩ = some (.int .i64 0) := hb4.at 2
  have g0 := hb4.fr 0
  have g1 := hb4.fr 1
  have g2 := hb4.fr 2
  have hr2 : W5.cell? ⟨bx, 2, none⟩ = some (.int .i64 r) := hbx.at 2
  have hl := hb4.lt
  have hlx := hbx.lt
  have HB4 := Lib.hid hb4
  have HBw := Lib.hid hbl
  have HW6 := Lib.hid hw6
  clear hkp hb4 hbx hbl hw6 HSum HX H4 HBl
  go_wp2
  have h8 := HB4.out.set3 (.bool n6) (.slice A6 m6 c6) (.int .i64 (4 * (N : Int) + 4 + r))
  have hwd8 := HW6.out.set3 HB4.out (.bool n6) (.slice A6 m6 c6) (.int .i64 (4 * (N : Int) + 4 + r))
  have hb8 := below_set3 HBw.out (w.heap.size + 1 + 1) (by omega) (.bool n6) (.slice A6 m6 c6) (.int .i64 (4 * (N : Int) + 4 + r))
  have h9 := h8.alloc (.cells #[.bool n6, .slice A6 m6 c6] 92)
  have r0 : _ = some (Value.bool n6) := h9.at 0
  have r1 : _ = some (Value.slice A6 m6 c6) := h9.at 1
  have r2 : _ = some (Value.int .i64 (4 * (N : Int) + 4 + r)) := h9.at 2
  clear f0 f1 f2 g0 g1 g2 hr2
  refine bodyPost_ret (v := .agg #[.bool n6, .slice A6 m6 c6, .int .i64 (4 * (N : Int) + 4 + r)]) (by simp [results, Tryz.results253, go_sem, r0, r1, r2]) rfl ?_
  exact ⟨n6, A6, m6, c6, rfl, hwd8.below ((Below.refl _ _).alloc (Nat.le_refl _) _), hb8.alloc hb8.size _⟩

end Go.Proofs.YtilaheplclaokaaGreatDoor
namespace Go.Proofs.YtilaheplclaokaaGreatDoor
open Go.RowKit

/-- The sine of a number of halves, if an angle has one. -/
def plainV (a : Int) : Int × Bool :=
  if Int.tmod a 108000000000 = 0 then
    let k := Int.tmod (Int.tmod (Int.tdiv a 108000000000) 12 + 12) 12
    if k = 0 ∨ k = 6 then (0, true) else if k = 1 ∨ k = 5 then (549755813888, true) else if k = 3 then (1099511627776, true) else if k = 7 ∨ k = 11 then (-549755813888, true) else if k = 9 then (-1099511627776, true) else (0, false)
  else (0, false)
theorem plain_bounds (a : Int) : -1099511627776 ≤ (plainV a).1 ∧ (plainV a).1 ≤ 1099511627776 := by
  unfold plainV
  simp only
  repeat' split
  all_goals simp
def PlainPost (a : Int) (w : World) (e : Ending) (w' : World) : Prop := e = .returned (.tuple #[.int .i64 (plainV a).1, .bool (plainV a).2]) ∧ w = w'

set_option maxRecDepth 100000 in
set_option maxHeartbeats 1000000 in
theorem plain_calls (w : World) (a : Int) (h0 : -9223372036854775808 ≤ a) (h1 : a < 9223372036854775808) :
    Calls Tryz.prog 155 #[.int .i64 a] w (PlainPost a w) := by
  have k1 := Int.lt_tmod_of_pos (Int.tdiv a 108000000000) (show (0 : Int) < 12 by omega)
  have k2 := Int.tmod_lt_of_pos (Int.tdiv a 108000000000) (show (0 : Int) < 12 by omega)
  have hw : wrap64 (Int.tmod (Int.tdiv a 108000000000) 12 + 12) = Int.tmod (Int.tdiv a 108000000000) 12 + 12 := by
    simp only [wrap64]
    omega
  clear k1 k2
  go_enter Tryz.func155, Tryz.ntmps155
  go_wp2
  all_goals
    go_ret2
    refine ⟨?_, rfl⟩
    simp only [hw, bne_iff_ne, ne_eq, beq_iff_eq, beq_eq_false_iff_ne, bne_eq_false_iff_eq] at *
    simp [plainV, *]

end Go.Proofs.YtilaheplclaokaaGreatDoor
namespace Go.Proofs.YtilaheplclaokaaGreatDoor

theorem shift_down2 {y T q : Int} (h0 : 0 ≤ y) (hq : 0 ≤ q) (hT : 0 ≤ T) (hy : y ≤ T * 2 ^ q.toNat) : 0 ≤ shiftF (Num.fit y) (-q) ∧ shiftF (Num.fit y) (-q) ≤ T := by
  have h2 : (0 : Int) < 2 ^ q.toNat := Int.pow_pos (by omega)
  have h3 : 0 ≤ Num.fit y ∧ Num.fit y ≤ T * 2 ^ q.toNat := by
    have h4 : 0 ≤ T * 2 ^ q.toNat := Int.mul_nonneg hT (by omega)
    rcases fit_pick y with h | h <;> rw [h] <;> omega
  generalize Num.fit y = z at *
  unfold shiftF
  split
  · have h5 : 0 ≤ shiftZ z (-q) ∧ shiftZ z (-q) ≤ T := by
      obtain ⟨m, rfl⟩ := Int.eq_ofNat_of_zero_le hq
      simp only [Int.toNat_natCast] at h3 h2
      rcases Nat.eq_zero_or_pos m with rfl | hm
      · simp [shiftZ] at *
        omega
      · rw [shiftZ_neg z m hm]
        exact ⟨Int.ediv_nonneg h3.1 (by omega), Int.ediv_le_of_le_mul h2 h3.2⟩
    rcases fit_pick (shiftZ z (-q)) with h | h <;> rw [h] <;> omega
  · exact ⟨Int.le_refl 0, hT⟩

theorem shift_down3 {x : Int} (k : Nat) (h0 : 0 ≤ x) : 0 ≤ shiftF x (-(k : Int)) ∧ shiftF x (-(k : Int)) * 2 ^ k ≤ x := by
  have h2 : (0 : Int) < 2 ^ k := Int.pow_pos (by omega)
  unfold shiftF
  split
  · have h5 : 0 ≤ shiftZ x (-(k : Int)) ∧ shiftZ x (-(k : Int)) * 2 ^ k ≤ x := by
      rcases Nat.eq_zero_or_pos k with rfl | hk
      · simp [shiftZ] at *
        omega
      · rw [shiftZ_neg x k hk]
        exact ⟨Int.ediv_nonneg h0 (by omega), Int.ediv_mul_le _ (by omega)⟩
    rcases fit_pick (shiftZ x (-(k : Int))) with h | h <;> rw [h]
    · exact h5
    · simpa using h0
  · simpa using h0
/-- A shift down of what may be negative: between the floor and 0. -/
theorem shift_range {x b : Int} (k : Nat) (hb : 0 ≤ b) (h0 : -(b * 2 ^ k) ≤ x) : -b ≤ shiftF x (-(k : Int)) := by
  have h2 : (0 : Int) < 2 ^ k := Int.pow_pos (by omega)
  unfold shiftF
  split
  · have h5 : -b ≤ shiftZ x (-(k : Int)) := by
      rcases Nat.eq_zero_or_pos k with rfl | hk
      · simp [shiftZ] at *
        omega
      · rw [shiftZ_neg x k hk]
        rw [Int.le_ediv_iff_mul_le h2, Int.neg_mul]
        exact h0
    rcases fit_pick (shiftZ x (-(k : Int))) with h | h <;> rw [h] <;> omega
  · omega
theorem shift_range2 {x b : Int} (k : Nat) (hb : 0 ≤ b) (h0 : x < b * 2 ^ k) : shiftF x (-(k : Int)) < b ∨ shiftF x (-(k : Int)) = 0 := by
  have h2 : (0 : Int) < 2 ^ k := Int.pow_pos (by omega)
  unfold shiftF
  split
  · have h5 : shiftZ x (-(k : Int)) < b := by
      rcases Nat.eq_zero_or_pos k with rfl | hk
      · simp [shiftZ] at *
        omega
      · rw [shiftZ_neg x k hk]
        exact Int.ediv_lt_of_lt_mul h2 h0
    rcases fit_pick (shiftZ x (-(k : Int))) with h | h
    · exact .inl (by rw [h]; exact h5)
    · exact .inr h
  · exact .inr rfl

/-- The 32nd part of an angle, and its square. -/
def circY (x : Int) : Int := shiftF x (-5)
def circY2 (x p : Int) : Int := shiftF (Num.fit (circY x * circY x)) (-p)
/-- Sine and cosine, and how far they are off. -/
structure Quad where
  s : Int
  rs : Int
  c : Int
  rc : Int
/-- The doubling. -/
def dbl (p : Int) (q : Quad) : Quad := ⟨shiftF (Num.fit (q.s * q.c)) (1 - p), 2 * (q.rs + q.rc) + 4, Num.fit (shiftF 1 p - shiftF (Num.fit (q.s * q.s)) (1 - p)), 4 * q.rs + 4⟩
/-- Behind i doublings. -/
def circ (x r p : Int) : Nat → Quad
  | 0 => ⟨serV (circY2 x p) p 1 (circY x), serR (circY2 x p) p 1 (circY x) r, serV (circY2 x p) p 0 (shiftF 1 p), serR (circY2 x p) p 0 (shiftF 1 p) r⟩
  | i + 1 => dbl p (circ x r p i)

theorem circY_bounds {x p : Int} (hp : 0 ≤ p) (h0 : 0 ≤ x) (h1 : x ≤ shiftF 1 p) : 0 ≤ circY x ∧ circY x * 32 ≤ x ∧ circY x < Num.P 4096 ∧ 0 ≤ circY2 x p ∧ circY2 x p ≤ 2 ^ p.toNat := by
  have ho := shiftF_one p
  have h2 := ho.2.2.1 hp
  have h3 : 0 ≤ circY x ∧ circY x * 2 ^ 5 ≤ x := shift_down3 5 h0
  have h4 : circY x * 32 ≤ x := h3.2
  have h5 := shift_down h3.1 h3.1 hp (by omega : circY x ≤ 2 ^ p.toNat)
  refine ⟨h3.1, h4, by omega, h5.1, Int.le_trans h5.2 (by omega)⟩

/-- What holds behind i doublings. -/
structure CircInv (x r p : Int) (i : Nat) (q : Quad) : Prop where
  s0 : 0 ≤ q.s
  s1 : q.s * 32 ≤ 2 ^ i * x
  c0 : 0 ≤ q.c
  c1 : q.c ≤ shiftF 1 p
  rs0 : 4 ≤ q.rs
  rs1 : q.rs ≤ 5 ^ i * (r + 600000)
  rc0 : 4 ≤ q.rc
  rc1 : q.rc ≤ 5 ^ i * (r + 600000)
theorem circ_inv {x r p : Int} (hp : 1 ≤ p) (h0 : 0 ≤ x) (h1 : x ≤ shiftF 1 p) (hr : 0 ≤ r) : ∀ i, i ≤ 5 → CircInv x r p i (circ x r p i)
  | 0, _ => by
    obtain ⟨ho0, ho1, ho2, _⟩ := shiftF_one p
    obtain ⟨hy0, hy1, hy2, hq0, hq1⟩ := circY_bounds (by omega) h0 h1
    obtain ⟨a1, a2, a3, a4⟩ := ser_bounds (k := 1) r hy0 hq0 (by omega : 0 ≤ p) hq1 (by omega) hy2
    obtain ⟨b1, b2, b3, b4⟩ := ser_bounds (k := 0) r ho0 hq0 (by omega : 0 ≤ p) hq1 (by omega) ho1
    exact ⟨a1, by show serV _ _ _ _ * 32 ≤ 2 ^ 0 * x; omega, b1, b2, by show 4 ≤ serR _ _ _ _ _; omega, by show serR _ _ _ _ _ ≤ 5 ^ 0 * (r + 600000); omega, by show 4 ≤ serR _ _ _ _ _; omega, by show serR _ _ _ _ _ ≤ 5 ^ 0 * (r + 600000); omega⟩
  | i + 1, hi => by
    obtain ⟨s0, s1, c0, c1, rs0, rs1, rc0, rc1⟩ := circ_inv hp h0 h1 hr i (by omega)
    show CircInv x r p (i + 1) (dbl p (circ x r p i))
    generalize circ x r p i = q at *
    obtain ⟨s, rs, c, rc⟩ := q
    simp only at *
    obtain ⟨ho0, ho1, ho2, _⟩ := shiftF_one p
    have ho3 := ho2 (by omega)
    have hpow : (2 : Int) ^ i ≤ 16 := by
      have : i = 0 ∨ i = 1 ∨ i = 2 ∨ i = 3 ∨ i = 4 := by omega
      rcases this with rfl | rfl | rfl | rfl | rfl <;> decide
    have hx16 : 2 ^ i * x ≤ 16 * x := Int.mul_le_mul_of_nonneg_right hpow h0
    have hs2 : s * 2 ≤ shiftF 1 p := by omega
    obtain ⟨q, rfl⟩ : ∃ q : Int, p = q + 1 := ⟨p - 1, by omega⟩
    have hq : (1 - (q + 1) : Int) = -q := by omega
    have hpw : (2 : Int) ^ (q + 1).toNat = 2 * 2 ^ q.toNat := by
      rw [show (q + 1).toNat = q.toNat + 1 by omega, Int.pow_succ, Int.mul_comm]
    have hp2 : (0 : Int) < 2 ^ q.toNat := Int.pow_pos (by omega)
    have hsc : s * c ≤ (2 * s) * 2 ^ q.toNat := by
      have h := Int.mul_le_mul_of_nonneg_left (show c ≤ 2 * 2 ^ q.toNat by omega) s0
      rw [← Int.mul_assoc, Int.mul_comm s 2] at h
      exact h
    have hss : s * s ≤ s * 2 ^ q.toNat := Int.mul_le_mul_of_nonneg_left (show s ≤ 2 ^ q.toNat by omega) s0
    have k1 := shift_down2 (Int.mul_nonneg s0 c0) (by omega : 0 ≤ q) (by omega : 0 ≤ 2 * s) hsc
    have k2 := shift_down2 (Int.mul_nonneg s0 s0) (by omega : 0 ≤ q) s0 hss
    have hR : (5 : Int) ^ (i + 1) * (r + 600000) = 5 * (5 ^ i * (r + 600000)) := by rw [Int.pow_succ, Int.mul_comm (5 ^ i) 5, Int.mul_assoc]
    have hX : (2 : Int) ^ (i + 1) * x = 2 * (2 ^ i * x) := by rw [Int.pow_succ, Int.mul_comm (2 ^ i) 2, Int.mul_assoc]
    have k3 : 0 ≤ Num.fit (shiftF 1 (q + 1) - shiftF (Num.fit (s * s)) (-q)) ∧ Num.fit (shiftF 1 (q + 1) - shiftF (Num.fit (s * s)) (-q)) ≤ shiftF 1 (q + 1) := ⟨fit_nonneg (by omega), fit_le (by omega) ho0⟩
    unfold dbl
    constructor <;> simp only [hq, hR, hX]
    · exact k1.1
    · omega
    · exact k3.1
    · exact k3.2
    · omega
    · omega
    · omega
    · omega
theorem circ_bounds {x r p : Int} (hp : 1 ≤ p) (h0 : 0 ≤ x) (h1 : x ≤ shiftF 1 p) (hr : 0 ≤ r) (hr1 : r ≤ 100000000) (i : Nat) (hi : i ≤ 5) :
    0 ≤ (circ x r p i).s ∧ (circ x r p i).s ≤ shiftF 1 p ∧ 0 ≤ (circ x r p i).c ∧ (circ x r p i).c ≤ shiftF 1 p ∧ 4 ≤ (circ x r p i).rs ∧ (circ x r p i).rs ≤ 1000000000000 ∧ 4 ≤ (circ x r p i).rc ∧ (circ x r p i).rc ≤ 1000000000000 := by
  obtain ⟨s0, s1, c0, c1, rs0, rs1, rc0, rc1⟩ := circ_inv hp h0 h1 hr i hi
  have hc : i = 0 ∨ i = 1 ∨ i = 2 ∨ i = 3 ∨ i = 4 ∨ i = 5 := by omega
  have hpow : (2 : Int) ^ i ≤ 32 := by rcases hc with rfl | rfl | rfl | rfl | rfl | rfl <;> decide
  have hpow5 : (5 : Int) ^ i ≤ 3125 := by rcases hc with rfl | rfl | rfl | rfl | rfl | rfl <;> decide
  have h2 : 2 ^ i * x ≤ 32 * x := Int.mul_le_mul_of_nonneg_right hpow h0
  have h5 : 5 ^ i * (r + 600000) ≤ 3125 * (r + 600000) := Int.mul_le_mul_of_nonneg_right hpow5 (by omega)
  omega

/-- The sine of q quarters and what is left of an angle. -/
def turnB (x r p : Int) : Bool := decide (Num.fit (shiftF (piV p) (-1) - x) < x)
def turnX (x r p : Int) : Int :=
  let m := Num.fit (shiftF (piV p) (-1) - x)
  let y := if m < x then m else x
  if y < 0 then 0 else y
def turnR (x r p : Int) : Int := if Num.fit (shiftF (piV p) (-1) - x) < x then piR p + r + 1 else r
def turnC (q x r p : Int) : Bool := (decide (q % 2 = 1)) != (turnB x r p)
def turnV (q x r p : Int) : Int :=
  let z := circ (turnX x r p) (turnR x r p) p 5
  let v := if turnC q x r p then z.c else z.s
  if q = 2 ∨ q = 3 then Num.fit (-v) else v
def turnE (q x r p : Int) : Int :=
  let z := circ (turnX x r p) (turnR x r p) p 5
  if turnC q x r p then z.rc else z.rs

theorem turn_bounds (x r p : Int) (hp : 1 ≤ p) (hr : 0 ≤ r) (hr1 : r ≤ 30000000) : 0 ≤ turnX x r p ∧ turnX x r p ≤ shiftF 1 p ∧ 0 ≤ turnR x r p ∧ turnR x r p ≤ 100000000 := by
  obtain ⟨hp0, hp1, hp2⟩ := pi_bounds p
  have ho := (shiftF_one p).1
  have hh : shiftF (piV p) (-1) ≤ 2 * shiftF 1 p := by
    by_cases h : 0 ≤ piV p
    · have h2 : shiftF (piV p) (-1) * 2 ^ 1 ≤ piV p := (shift_down3 1 h).2
      have h3 : shiftF (piV p) (-1) * 2 ≤ piV p := h2
      omega
    · have h2 := shift_range2 (x := piV p) (b := 1) 1 (by omega) (by omega)
      have h3 : shiftF (piV p) (-1) < 1 ∨ shiftF (piV p) (-1) = 0 := h2
      omega
  have hf := fit_pick (shiftF (piV p) (-1) - x)
  unfold turnX turnR
  generalize Num.fit (shiftF (piV p) (-1) - x) = m at *
  generalize shiftF (piV p) (-1) = hf2 at *
  simp only
  refine ⟨?_, ?_, ?_, ?_⟩
  · repeat' split
    all_goals omega
  · repeat' split
    all_goals omega
  · repeat' split
    all_goals omega
  · repeat' split
    all_goals omega
theorem turnV_bounds (q x r p : Int) (hp : 1 ≤ p) (hr : 0 ≤ r) (hr1 : r ≤ 30000000) : -shiftF 1 p ≤ turnV q x r p ∧ turnV q x r p ≤ shiftF 1 p ∧ 4 ≤ turnE q x r p ∧ turnE q x r p ≤ 1000000000000 := by
  obtain ⟨h1, h2, h3, h4⟩ := turn_bounds x r p hp hr hr1
  obtain ⟨a1, a2, a3, a4, a5, a6, a7, a8⟩ := circ_bounds hp h1 h2 h3 h4 5 (Nat.le_refl _)
  unfold turnV turnE
  generalize circ (turnX x r p) (turnR x r p) p 5 = z at *
  simp only
  have f1 := fit_pick (-z.s)
  have f2 := fit_pick (-z.c)
  refine ⟨?_, ?_, ?_, ?_⟩
  · repeat' split
    all_goals omega
  · repeat' split
    all_goals omega
  · repeat' split
    all_goals omega
  · repeat' split
    all_goals omega

/-- The sine of an angle. -/
def normA (a : Int) : Int := a % 1296000000000
def restV (a p : Int) : Int := Num.fit (piV p * (2 * (normA a % 324000000000))) / 1296000000000
def restR (p : Int) : Int := piR p + 1
def sineV (a p : Int) : Int := turnV (normA a / 324000000000) (restV a p) (restR p) p
def sineR (a p : Int) : Int := turnE (normA a / 324000000000) (restV a p) (restR p) p
theorem sine_bounds (a p : Int) (hp : 1 ≤ p) : -shiftF 1 p ≤ sineV a p ∧ sineV a p ≤ shiftF 1 p ∧ 4 ≤ sineR a p ∧ sineR a p ≤ 1000000000000 := by
  have := pi_bounds p
  exact turnV_bounds _ _ _ p hp (by unfold restR; omega) (by unfold restR; omega)

/-- The number of units at a ball's ends. -/
def endL (v r p : Int) : Int := shiftF (Num.fit (v - r)) (40 - p)
def endH (v r p : Int) : Int := shiftF (Num.fit (v + r)) (40 - p)
def clear' (v r p : Int) : Bool := decide (endL v r p = endH v r p)
theorem ends_bounds {v r p : Int} (hp : 41 ≤ p) (h0 : -shiftF 1 p ≤ v) (h1 : v ≤ shiftF 1 p) (hr : 1 ≤ r) (h : endL v r p = endH v r p) : -1099511627776 ≤ endL v r p ∧ endL v r p < 1099511627776 := by
  have ho := (shiftF_one p).2.2.1 (by omega)
  obtain ⟨k, hk⟩ : ∃ k : Nat, p = 40 + k := ⟨(p - 40).toNat, by omega⟩
  subst hk
  have hpw : (2 : Int) ^ (40 + (k : Int)).toNat = 1099511627776 * 2 ^ k := by
    rw [show (40 + (k : Int)).toNat = 40 + k by omega, Int.pow_add, show (2 : Int) ^ 40 = 1099511627776 by decide]
  have he : (40 - (40 + (k : Int)) : Int) = -(k : Int) := by omega
  have h2 : (0 : Int) < 2 ^ k := Int.pow_pos (by omega)
  constructor
  · rw [h]
    unfold endH
    rw [he]
    refine shift_range k (by omega) ?_
    rcases fit_pick (v + r) with h3 | h3 <;> rw [h3] <;> omega
  · unfold endL
    rw [he]
    rcases shift_range2 (x := Num.fit (v - r)) (b := 1099511627776) k (by omega) (by rcases fit_pick (v - r) with h3 | h3 <;> rw [h3] <;> omega) with h3 | h3 <;> omega

/-- The sine's floor: the first p, of so many, at which it is clear. -/
def ziv (a p : Int) : Nat → Int
  | 0 => 0
  | f + 1 => if endL (sineV a p) (sineR a p) p = endH (sineV a p) (sineR a p) p then endL (sineV a p) (sineR a p) p else ziv a (2 * p) f
theorem ziv_bounds (a : Int) : ∀ (f : Nat) (p : Int), 41 ≤ p → -1099511627776 ≤ ziv a p f ∧ ziv a p f < 1099511627776
  | 0, _, _ => by show (-1099511627776 : Int) ≤ 0 ∧ (0 : Int) < 1099511627776; omega
  | f + 1, p, hp => by
    obtain ⟨h1, h2, h3, _⟩ := sine_bounds a p (by omega)
    show -1099511627776 ≤ (if endL (sineV a p) (sineR a p) p = endH (sineV a p) (sineR a p) p then endL (sineV a p) (sineR a p) p else ziv a (2 * p) f) ∧ (if endL (sineV a p) (sineR a p) p = endH (sineV a p) (sineR a p) p then endL (sineV a p) (sineR a p) p else ziv a (2 * p) f) < 1099511627776
    split
    · rename_i h
      exact ends_bounds hp h1 h2 (by omega) h
    · exact ziv_bounds a f (2 * p) (by omega)
theorem far_clear (v r p : Int) (hp : 131113 ≤ p) : endL v r p = 0 ∧ endH v r p = 0 := by
  unfold endL endH shiftF
  rw [if_neg (by omega), if_neg (by omega)]
  exact ⟨rfl, rfl⟩

/-- What 'Sin' returns. -/
def sinLo (a : Int) : Int := if (plainV a).2 = true then (plainV a).1 else ziv a 90 12
def sinHi (a : Int) : Int := if (plainV a).2 = true then (plainV a).1 else ziv a 90 12 + 1
theorem sin_bounds (a : Int) : -1099511627776 ≤ sinLo a ∧ sinLo a ≤ sinHi a ∧ sinHi a ≤ 1099511627776 ∧ sinHi a ≤ sinLo a + 1 := by
  have h1 := ziv_bounds a 12 90 (by omega)
  have h2 := plain_bounds a
  unfold sinLo sinHi
  split <;> omega

end Go.Proofs.YtilaheplclaokaaGreatDoor

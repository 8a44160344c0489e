/-
Walks of the functions of package wide that divide, as they are called from outside: DivMod.
Walk of package wide's Gcd.
Walk of package wide's Int.
Walks of the functions of package trig that call package wide and drop its errors: num, add, sub, mul, shift, div, sign.
-/
import Derived.Test.YtilaheplclaokaaGreatDoorTurn04
set_option linter.unusedVariables false
set_option linter.unusedSimpArgs false
namespace Go.Proofs.YtilaheplclaokaaGreatDoor
open Go.RowKit Go.Shelf
attribute [local go_sem] Oper.semAt_some

theorem Row.zero {w : World} {A : Option Addr} {n cap : Nat} (h : Row w A n cap 0) : n = 0 := by
  obtain ⟨g, _, h2, h3, h4⟩ := h.ex
  rcases Nat.eq_zero_or_pos n with h0 | h0
  · exact h0
  · have := Num.val_pos h2 h3 h0
    omega
theorem Row.pos {w : World} {A : Option Addr} {n cap : Nat} {x : Int} (h : Row w A n cap x) (h0 : 0 < x) : 0 < n := by
  obtain ⟨g, _, h2, h3, h4⟩ := h.ex
  rcases Nat.eq_zero_or_pos n with rfl | h0
  · simp [Num.val] at h4
    omega
  · exact h0
/-- A slice of limbs. -/
structure RowU (w : World) (A : Option Addr) (n cap : Nat) (x : Int) : Prop where
  ex : ∃ g : Nat → Int, At w A g n ∧ Num.Dig g n ∧ Num.val g n = x
  cap : n ≤ cap
  len : n ≤ 1099511627776
theorem Row.u {w : World} {A : Option Addr} {n cap : Nat} {x : Int} (h : Row w A n cap x) : RowU w A n cap x := by
  obtain ⟨g, h1, h2, _, h4⟩ := h.ex
  exact ⟨⟨g, h1, h2, h4⟩, h.cap, h.len⟩
theorem RowU.below {w w' : World} {A : Option Addr} {n cap : Nat} {x : Int} (h : RowU w A n cap x) (hb : Below w.heap.size w w') : RowU w' A n cap x := by
  obtain ⟨g, h1, h2⟩ := h.ex
  exact ⟨⟨g, h1.below hb, h2⟩, h.cap, h.len⟩
theorem RowU.set2 {w : World} {A : Option Addr} {n cap : Nat} {x : Int} {b : Nat} {c : Bool} {D : Option Addr} {k l : Nat} {t : TypeId} (h : RowU w A n cap x) (hb : Blk w b #[.bool c, .slice D k l] t) (u v : Value) : RowU ((w.setCell ⟨b, 0, none⟩ u).setCell ⟨b, 1, none⟩ v) A n cap x := by
  obtain ⟨g, h1, h2⟩ := h.ex
  exact ⟨⟨g, h1.set2 hb u v, h2⟩, h.cap, h.len⟩
theorem made_row (w : World) (neg : Bool) (A : Option Addr) (n cap : Nat) (x : Int) (h : RowU w A n cap x) :
    Calls Tryz.prog 99 #[.bool neg, .slice A n cap] w (NumPost (Num.sg neg * x) w) := by
  obtain ⟨g, h1, h2, rfl⟩ := h.ex
  exact made_calls w neg A n cap g h2 h.cap h.len h1

/-- Quotient and remainder, rounded down. -/
def QuotRem (x y q r : Int) : Prop := x = y * q + r ∧ (0 < y → 0 ≤ r ∧ r < y) ∧ (y < 0 → y < r ∧ r ≤ 0)
def DMPost (x y : Int) (w : World) (e : Ending) (w' : World) : Prop :=
  ∃ q r neg A n cap neg' A' n' cap', e = .returned (.tuple #[.agg #[.bool neg, .slice A n cap], .agg #[.bool neg', .slice A' n' cap'], .int .i64 0]) ∧ WD w' neg A n cap q ∧ WD w' neg' A' n' cap' r ∧ QuotRem x y q r ∧ Below w.heap.size w w'

theorem fits_of_le {a b : Int} (neg : Bool) (h0 : 0 ≤ a) (h1 : a ≤ b) (h2 : b < Num.P 4096) : Num.fits (Num.sg neg * a) = true := by
  have h4 := Num.sg_abs neg a h0
  simp only [Num.fits, decide_eq_true_eq]
  omega

theorem quot_zero (neg neg' : Bool) (a b : Int) (hb : 0 < b) (hz : a % b = 0) : QuotRem (Num.sg neg * a) (Num.sg neg' * b) (Num.sg (!(neg == neg')) * (a / b)) (Num.sg neg' * (a % b)) := by
  have h := Int.mul_ediv_add_emod a b
  rw [hz] at h ⊢
  generalize a / b = q at *
  subst h
  refine ⟨?_, ?_, ?_⟩
  · cases neg <;> cases neg' <;> simp [Num.sg, Int.mul_neg, Int.neg_mul]
  · intro h; rw [Int.mul_zero]; exact ⟨Int.le_refl 0, h⟩
  · intro h; rw [Int.mul_zero]; exact ⟨h, Int.le_refl 0⟩
theorem quot_same (neg : Bool) (a b : Int) (hb : 0 < b) : QuotRem (Num.sg neg * a) (Num.sg neg * b) (Num.sg false * (a / b)) (Num.sg neg * (a % b)) := by
  have h := Int.mul_ediv_add_emod a b
  have h0 := Int.emod_nonneg a (show b ≠ 0 by omega)
  have h1 := Int.emod_lt_of_pos a hb
  generalize a / b = q at *
  generalize a % b = r at *
  subst h
  refine ⟨?_, ?_, ?_⟩
  · cases neg <;> simp [Num.sg, Int.mul_neg, Int.neg_mul] <;> grind
  · cases neg <;> simp [Num.sg] <;> omega
  · cases neg <;> simp [Num.sg] <;> omega
theorem quot_diff (neg : Bool) (a b : Int) (hb : 0 < b) (hr : 0 < a % b) : QuotRem (Num.sg neg * a) (Num.sg (!neg) * b) (Num.sg (!(neg == !neg)) * (a / b + 1)) (Num.sg (!neg) * (b - a % b)) := by
  have h := Int.mul_ediv_add_emod a b
  have h1 := Int.emod_lt_of_pos a hb
  generalize a / b = q at *
  generalize a % b = r at *
  subst h
  refine ⟨?_, ?_, ?_⟩
  · cases neg <;> simp [Num.sg, Int.mul_neg, Int.neg_mul] <;> grind
  · cases neg <;> simp [Num.sg] <;> omega
  · cases neg <;> simp [Num.sg] <;> omega

set_option maxRecDepth 100000 in
set_option maxHeartbeats 1000000 in
/-- Nothing is left. -/
theorem DivMod_zero (w : World) (neg neg' : Bool) (A A' : Option Addr) (n n' cap cap' : Nat) (g h : Nat → Int) (x y : Int) (ha : WD w neg A n cap x) (hb : WD w neg' A' n' cap' y) (hn : n ≤ 4096) (hn' : n' ≤ 4096) (hdg : Num.Dig g n) (hdh : Num.Dig h n') (tg : Num.Trim g n) (th : Num.Trim h n') (hag : At w A g n) (hah : At w A' h n') (hx : x = Num.sg neg * Num.val g n) (hy : y = Num.sg neg' * Num.val h n') (hy0 : n' ≠ 0) (hz : Num.val g n % Num.val h n' = 0) :
    Calls Tryz.prog 51 #[.agg #[.bool neg, .slice A n cap], .agg #[.bool neg', .slice A' n' cap']] w (DMPost x y w) := by
  have HF : Hid (Num.fits (Num.sg (!(neg == neg')) * (Num.val g n / Num.val h n')) = true) := Lib.hid (fits_of_le _ (Int.ediv_nonneg (Num.val_nonneg hdg) (Num.val_nonneg hdh)) (Int.ediv_le_self _ (Num.val_nonneg hdg)) (by have := Num.val_lt hdg; have := Num.P_mono hn; omega))
  have HF2 : Hid (Num.fits (Num.sg neg' * (Num.val g n % Num.val h n')) = true) := Lib.hid (by rw [hz, Int.mul_zero]; exact fits64 (by omega) (by omega))
  have HZ := Lib.hid hz
  have HX := Lib.hid hx
  have HY := Lib.hid hy
  clear hx hy hz
  have k2 := ((((Blk.new w #[.bool neg, .slice A n cap] 92).alloc (.cells #[.bool neg', .slice A' n' cap'] 92)).alloc (.cells #[.bool false, .slice none 0 0] 92)).alloc (.cells #[.bool false, .slice none 0 0] 92)).alloc (.cells #[.bool neg, .slice A n cap, .bool neg', .slice A' n' cap'] 92)
  have k3 := (((Blk.new (w.alloc (.cells #[.bool neg, .slice A n cap] 92)) #[.bool neg', .slice A' n' cap'] 92).alloc (.cells #[.bool false, .slice none 0 0] 92)).alloc (.cells #[.bool false, .slice none 0 0] 92)).alloc (.cells #[.bool neg, .slice A n cap, .bool neg', .slice A' n' cap'] 92)
  have k4 := ((Blk.new ((w.alloc (.cells #[.bool neg, .slice A n cap] 92)).alloc (.cells #[.bool neg', .slice A' n' cap'] 92)) #[.bool false, .slice none 0 0] 92).alloc (.cells #[.bool false, .slice none 0 0] 92)).alloc (.cells #[.bool neg, .slice A n cap, .bool neg', .slice A' n' cap'] 92)
  have k6 := (Blk.new (((w.alloc (.cells #[.bool neg, .slice A n cap] 92)).alloc (.cells #[.bool neg', .slice A' n' cap'] 92)).alloc (.cells #[.bool false, .slice none 0 0] 92)) #[.bool false, .slice none 0 0] 92).alloc (.cells #[.bool neg, .slice A n cap, .bool neg', .slice A' n' cap'] 92)
  have k5 := Blk.new ((((w.alloc (.cells #[.bool neg, .slice A n cap] 92)).alloc (.cells #[.bool neg', .slice A' n' cap'] 92)).alloc (.cells #[.bool false, .slice none 0 0] 92)).alloc (.cells #[.bool false, .slice none 0 0] 92)) #[.bool neg, .slice A n cap, .bool neg', .slice A' n' cap'] 92
  have hb0 := (((((Below.refl w.heap.size w).alloc (Nat.le_refl _) (.cells #[.bool neg, .slice A n cap] 92)).alloc (by simp) (.cells #[.bool neg', .slice A' n' cap'] 92)).alloc (by simp; omega) (.cells #[.bool false, .slice none 0 0] 92)).alloc (by simp; omega) (.cells #[.bool false, .slice none 0 0] 92)).alloc (by simp; omega) (.cells #[.bool neg, .slice A n cap, .bool neg', .slice A' n' cap'] 92)
  simp only [World.size_alloc] at k2 k3 k4 k5 k6
  have K2 := Lib.hid k2
  have K3 := Lib.hid k3
  have K4 := Lib.hid k4
  have K5 := Lib.hid k5
  have K6 := Lib.hid k6
  have HB0 := Lib.hid hb0
  have HA := Lib.hid hag
  have HB := Lib.hid hah
  have HG := Lib.hid hdg
  have HH := Lib.hid hdh
  have HTG := Lib.hid tg
  have HTH := Lib.hid th
  have HWA := Lib.hid ha
  have HWB := Lib.hid hb
  clear k2 k3 k4 k5 k6 hb0 ha hb hag hah hdg hdh tg th
  have hn1 : ((n' : Int) == 0) = false := by simp; omega
  go_enter Tryz.func51, Tryz.ntmps51
  go_wp2_with (first
    | (go_at_call 98; refine (check2 _ (w.heap.size + 1 + 1 + 1 + 1) 2 K5.out.lt neg neg' A A' n n' cap cap' x y (K5.out.at 0) (K5.out.at 1) (HWA.out.below HB0.out) (K5.out.at 2) (K5.out.at 3) (HWB.out.below HB0.out)).mono ?_; rintro e w4 ⟨rfl, hb4⟩; have hk2 := K2.out.below hb4; have hk3 := K3.out.below hb4; have hk4 := K4.out.below hb4; have hk6 := K6.out.below hb4; have hb := HB0.out.trans (hb4.mono (by (simp; omega))); have c20 := hk2.c0; have c21 := hk2.c1; have c30 := hk3.c0; have c31 := hk3.c1; have HK2 := Lib.hid hk2; have HK3 := Lib.hid hk3; have HK4 := Lib.hid hk4; have HK6 := Lib.hid hk6; have HBe := Lib.hid hb; have hsz := hk6.lt; clear hk2 hk3 hk4 hk6 hb hb4 K2 K3 K4 K5 K6 HB0)
    | (go_at_call 102; refine (divide_calls _ A A' n n' cap cap' g h (by omega) (by omega) (by omega) (HA.out.below HBe.out) (HB.out.below HBe.out) HG.out HH.out HTG.out HTH.out).mono ?_; rintro e w5 ⟨Aq, nq, capq, Ar, nr, capr, rfl, hq, hr, hb5⟩; obtain rfl := Row.zero (HZ.out ▸ hr); have hk2 := HK2.out.below hb5; have hk3 := HK3.out.below hb5; have d20 := hk2.c0; have d30 := hk3.c0; have d31 := hk3.c1; have HL2 := Lib.hid hk2; have HL3 := Lib.hid hk3; have HL4 := Lib.hid (HK4.out.below hb5); have HL6 := Lib.hid (HK6.out.below hb5); have HBe5 := Lib.hid (HBe.out.trans (hb5.mono HBe.out.size)); have hsz5 := HL6.out.lt; have HQ := Lib.hid hq.u; have HR := Lib.hid hr.u; have HQr := Lib.hid hq; have HRr := Lib.hid hr; clear hk2 hk3 hb5 hq hr HK2 HK3 HK4 HK6 HBe c20 c21 c30 c31)
    | (go_at_call_has 99 capq; refine (made_row _ (!(neg == neg')) Aq nq capq _ HQ.out).mono ?_; rintro e w6 ⟨v, rfl, hwid, hb6⟩; rw [Num.ferr_of HF.out]; rw [Num.fit_of HF.out] at hwid; obtain ⟨neg2, A2, n2, cap2, rfl, hwd⟩ := hwid; have hl4 := HL4.out.below hb6; have f0 := hl4.c0; have f1 := hl4.c1; have f2 := hl4.fr 0; have f3 := hl4.fr 1; have hl3 := HL3.out.below hb6; have d30' := hl3.c0; have HM2 := Lib.hid ((HL2.out.below hb6).far2 (w.heap.size + 1 + 1) (.bool neg2) (.slice A2 n2 cap2) (by omega)); have HM3 := Lib.hid (hl3.far2 (w.heap.size + 1 + 1) (.bool neg2) (.slice A2 n2 cap2) (by omega)); have HM4 := Lib.hid (hl4.set2 (.bool neg2) (.slice A2 n2 cap2)); have HM6 := Lib.hid ((HL6.out.below hb6).far2 (w.heap.size + 1 + 1) (.bool neg2) (.slice A2 n2 cap2) (by omega)); have HBe6 := Lib.hid (below_set2 (HBe5.out.trans (hb6.mono HBe5.out.size)) (w.heap.size + 1 + 1) (by omega) (.bool neg2) (.slice A2 n2 cap2)); have HWq := Lib.hid (hwd.set2 hl4 (.bool neg2) (.slice A2 n2 cap2)); have HR6 := Lib.hid ((HR.out.below hb6).set2 hl4 (.bool neg2) (.slice A2 n2 cap2)); clear hl4 hl3 hwd hb6 HL2 HL3 HL4 HL6)
    | (go_at_call_has 99 capr; refine (made_row _ neg' Ar 0 capr _ HR6.out).mono ?_; rintro e w7 ⟨v, rfl, hwid, hb7⟩; rw [Num.ferr_of HF2.out]; rw [Num.fit_of HF2.out] at hwid; obtain ⟨neg3, A3, n3, cap3, rfl, hwd⟩ := hwid; have hl6 := HM6.out.below hb7; have g0 := hl6.c0; have g1 := hl6.c1; have g2 := hl6.fr 0; have g3 := hl6.fr 1; have HN4 := Lib.hid ((HM4.out.below hb7).far2 (w.heap.size + 1 + 1 + 1) (.bool neg3) (.slice A3 n3 cap3) (by omega)); have HN6 := Lib.hid (hl6.set2 (.bool neg3) (.slice A3 n3 cap3)); have HBe7 := Lib.hid (below_set2 (HBe6.out.trans (hb7.mono HBe6.out.size)) (w.heap.size + 1 + 1 + 1) (by omega) (.bool neg3) (.slice A3 n3 cap3)); have HWq7 := Lib.hid ((HWq.out.below hb7).set2 hl6 (.bool neg3) (.slice A3 n3 cap3)); have HWr := Lib.hid (hwd.set2 hl6 (.bool neg3) (.slice A3 n3 cap3)); clear hl6 hwd hb7 HM2 HM3 HM4 HM6 HWq HR6)
    )
  have hwq := HWq7.out
  have hwr := HWr.out
  have hbe := HBe7.out
  have h4 := HN4.out
  have h6 := HN6.out
  clear HWq7 HWr HBe7 HN4 HN6 HBe5 HBe6
  generalize (w7.setCell ⟨w.heap.size + 1 + 1 + 1, 0, none⟩ (.bool neg3)).setCell ⟨w.heap.size + 1 + 1 + 1, 1, none⟩ (.slice A3 n3 cap3) = w8 at *
  have hS : Blk w8.drew (w.heap.size + 1 + 1) #[.bool neg2, .slice A2 n2 cap2] 92 ∧ Blk w8.drew (w.heap.size + 1 + 1 + 1) #[.bool neg3, .slice A3 n3 cap3] 92 := ⟨h4, h6⟩
  refine wp_region_any (by kernel_rfl) ?_
  refine wpAny_of_held (S := fun W' => Blk W' (w.heap.size + 1 + 1) #[.bool neg2, .slice A2 n2 cap2] 92 ∧ Blk W' (w.heap.size + 1 + 1 + 1) #[.bool neg3, .slice A3 n3 cap3] 92) _ _ _ _ ?_
  refine wpAnyH_take (i := 0) (v := .agg #[.bool neg2, .slice A2 n2 cap2]) rfl (by kernel_rfl) (by kernel_rfl) (by kernel_rfl) (fun _ _ _ h => h) (.inl ⟨rfl, fun w0 hw0 => ?a0⟩) hS ?_
  case a0 =>
    obtain ⟨g4, g6⟩ := hw0; have e0 := g4.c0; have e1 := g4.c1; have e2 := g6.c0; have e3 := g6.c1
    go_simp
  refine wpAnyH_take (i := 1) (v := .agg #[.bool neg3, .slice A3 n3 cap3]) rfl (by kernel_rfl) (by kernel_rfl) (by kernel_rfl) (fun _ _ _ h => h) (.inl ⟨rfl, fun w0 hw0 => ?a1⟩) hS ?_
  case a1 =>
    obtain ⟨g4, g6⟩ := hw0; have e0 := g4.c0; have e1 := g4.c1; have e2 := g6.c0; have e3 := g6.c1
    go_simp
  refine wpAnyH_take (i := 2) (v := .int .i64 0) rfl (by kernel_rfl) (by kernel_rfl) (by kernel_rfl) (fun _ _ _ h => h) (.inl ⟨rfl, fun w0 hw0 => ?a2⟩) hS ?_
  case a2 =>
    obtain ⟨g4, g6⟩ := hw0; have e0 := g4.c0; have e1 := g4.c1; have e2 := g6.c0; have e3 := g6.c1
    go_simp
  have f0 := h4.c0
  have f1 := h4.c1
  have f2 := h4.fr 0
  have f3 := h4.fr 1
  refine wpAnyH_all (rs := [3]) (by kernel_rfl) (by simp) ?_
  intro i0 hi0
  obtain rfl : i0 = 3 := by simpa using hi0
  refine wpOp_plain rfl rfl fun K' hK' => ?_
  go_simp
  have hwq : WD ((w8.setCell ⟨w.heap.size + 1 + 1, 0, none⟩ (.bool neg2)).setCell ⟨w.heap.size + 1 + 1, 1, none⟩ (.slice A2 n2 cap2)).drew neg2 A2 n2 cap2 _ := hwq.set2 h4 (.bool neg2) (.slice A2 n2 cap2)
  have hwr : WD ((w8.setCell ⟨w.heap.size + 1 + 1, 0, none⟩ (.bool neg2)).setCell ⟨w.heap.size + 1 + 1, 1, none⟩ (.slice A2 n2 cap2)).drew neg3 A3 n3 cap3 _ := hwr.set2 h4 (.bool neg2) (.slice A2 n2 cap2)
  have hbe : Below w.heap.size w ((w8.setCell ⟨w.heap.size + 1 + 1, 0, none⟩ (.bool neg2)).setCell ⟨w.heap.size + 1 + 1, 1, none⟩ (.slice A2 n2 cap2)).drew := below_drewN (below_set2 hbe (w.heap.size + 1 + 1) (by omega) (.bool neg2) (.slice A2 n2 cap2)) 1
  have hS : Blk ((w8.setCell ⟨w.heap.size + 1 + 1, 0, none⟩ (.bool neg2)).setCell ⟨w.heap.size + 1 + 1, 1, none⟩ (.slice A2 n2 cap2)).drew (w.heap.size + 1 + 1) #[.bool neg2, .slice A2 n2 cap2] 92 ∧ Blk ((w8.setCell ⟨w.heap.size + 1 + 1, 0, none⟩ (.bool neg2)).setCell ⟨w.heap.size + 1 + 1, 1, none⟩ (.slice A2 n2 cap2)).drew (w.heap.size + 1 + 1 + 1) #[.bool neg3, .slice A3 n3 cap3] 92 := ⟨h4.set2 _ _, h6.far2 _ _ _ (by omega)⟩
  clear f0 f1 f2 f3 h4 h6
  generalize ((w8.setCell ⟨w.heap.size + 1 + 1, 0, none⟩ (.bool neg2)).setCell ⟨w.heap.size + 1 + 1, 1, none⟩ (.slice A2 n2 cap2)).drew = w10 at *
  refine hK' _ _ ⟨hS, ?_⟩
  clear hK' K'
  have f0 := hS.2.c0
  have f1 := hS.2.c1
  have f2 := hS.2.fr 0
  have f3 := hS.2.fr 1
  refine wpAnyH_all (rs := [4]) (by kernel_rfl) (by simp) ?_
  intro i0 hi0
  obtain rfl : i0 = 4 := by simpa using hi0
  refine wpOp_plain rfl rfl fun K' hK' => ?_
  go_simp
  have hwq := hwq.set2 hS.2 (.bool neg3) (.slice A3 n3 cap3)
  have hwr := hwr.set2 hS.2 (.bool neg3) (.slice A3 n3 cap3)
  have hbe := below_set2 hbe (w.heap.size + 1 + 1 + 1) (by omega) (.bool neg3) (.slice A3 n3 cap3)
  have hS : Blk ((w10.setCell ⟨w.heap.size + 1 + 1 + 1, 0, none⟩ (.bool neg3)).setCell ⟨w.heap.size + 1 + 1 + 1, 1, none⟩ (.slice A3 n3 cap3)) (w.heap.size + 1 + 1) #[.bool neg2, .slice A2 n2 cap2] 92 ∧ Blk ((w10.setCell ⟨w.heap.size + 1 + 1 + 1, 0, none⟩ (.bool neg3)).setCell ⟨w.heap.size + 1 + 1 + 1, 1, none⟩ (.slice A3 n3 cap3)) (w.heap.size + 1 + 1 + 1) #[.bool neg3, .slice A3 n3 cap3] 92 := ⟨hS.1.far2 _ _ _ (by omega), hS.2.set2 _ _⟩
  clear f0 f1 f2 f3
  generalize (w10.setCell ⟨w.heap.size + 1 + 1 + 1, 0, none⟩ (.bool neg3)).setCell ⟨w.heap.size + 1 + 1 + 1, 1, none⟩ (.slice A3 n3 cap3) = w11 at *
  refine hK' _ _ ⟨hS, ?_⟩
  clear hK' K'
  refine wpAnyH_take (i := 5) (v := .int .i64 0) rfl (by kernel_rfl) (by kernel_rfl) (by kernel_rfl) (fun _ _ _ h => h) (.inl ⟨rfl, fun w0 hw0 => ?a5⟩) hS ?_
  case a5 =>
    obtain ⟨g4, g6⟩ := hw0; have e0 := g4.c0; have e1 := g4.c1; have e2 := g6.c0; have e3 := g6.c1
    go_simp
  refine wpAnyH_done (by kernel_rfl) ?_ _
  have r0 := hS.1.c0
  have r1 := hS.1.c1
  have r2 := hS.2.c0
  have r3 := hS.2.c1
  have HWq := Lib.hid hwq
  have HWr := Lib.hid hwr
  have HBe := Lib.hid hbe
  clear hwq hwr hbe hS
  go_wp2
  refine bodyPost_ret (v := .tuple #[.agg #[.bool neg2, .slice A2 n2 cap2], .agg #[.bool neg3, .slice A3 n3 cap3], .int .i64 0]) (by simp [results, Tryz.results51, go_sem, r0, r1, r2, r3]) rfl ?_
  exact ⟨_, _, neg2, A2, n2, cap2, neg3, A3, n3, cap3, rfl, HWq.out, HWr.out, by rw [HX.out, HY.out]; exact quot_zero neg neg' _ _ (by have := Num.val_pos HH.out HTH.out (by omega); omega) HZ.out, HBe.out⟩

set_option maxRecDepth 100000 in
set_option maxHeartbeats 1000000 in
/-- The signs are alike. -/
theorem DivMod_same (w : World) (neg : Bool) (A A' : Option Addr) (n n' cap cap' : Nat) (g h : Nat → Int) (x y : Int) (ha : WD w neg A n cap x) (hb : WD w neg A' n' cap' y) (hn : n ≤ 4096) (hn' : n' ≤ 4096) (hdg : Num.Dig g n) (hdh : Num.Dig h n') (tg : Num.Trim g n) (th : Num.Trim h n') (hag : At w A g n) (hah : At w A' h n') (hx : x = Num.sg neg * Num.val g n) (hy : y = Num.sg neg * Num.val h n') (hy0 : n' ≠ 0) (hz : 0 < Num.val g n % Num.val h n') :
    Calls Tryz.prog 51 #[.agg #[.bool neg, .slice A n cap], .agg #[.bool neg, .slice A' n' cap']] w (DMPost x y w) := by
  have HF : Hid (Num.fits (Num.sg false * (Num.val g n / Num.val h n')) = true) := Lib.hid (fits_of_le _ (Int.ediv_nonneg (Num.val_nonneg hdg) (Num.val_nonneg hdh)) (Int.ediv_le_self _ (Num.val_nonneg hdg)) (by have := Num.val_lt hdg; have := Num.P_mono hn; omega))
  have hvp := Num.val_pos hdh th (by omega)
  have HF2 : Hid (Num.fits (Num.sg neg * (Num.val g n % Num.val h n')) = true) := Lib.hid (fits_of_le _ (Int.le_of_lt hz) (Int.le_of_lt (Int.emod_lt_of_pos _ hvp)) (by have := Num.val_lt hdh; have := Num.P_mono hn'; omega))
  have HZ := Lib.hid hz
  have HX := Lib.hid hx
  have HY := Lib.hid hy
  clear hx hy hz hvp
  have k2 := ((((Blk.new w #[.bool neg, .slice A n cap] 92).alloc (.cells #[.bool neg, .slice A' n' cap'] 92)).alloc (.cells #[.bool false, .slice none 0 0] 92)).alloc (.cells #[.bool false, .slice none 0 0] 92)).alloc (.cells #[.bool neg, .slice A n cap, .bool neg, .slice A' n' cap'] 92)
  have k3 := (((Blk.new (w.alloc (.cells #[.bool neg, .slice A n cap] 92)) #[.bool neg, .slice A' n' cap'] 92).alloc (.cells #[.bool false, .slice none 0 0] 92)).alloc (.cells #[.bool false, .slice none 0 0] 92)).alloc (.cells #[.bool neg, .slice A n cap, .bool neg, .slice A' n' cap'] 92)
  have k4 := ((Blk.new ((w.alloc (.cells #[.bool neg, .slice A n cap] 92)).alloc (.cells #[.bool neg, .slice A' n' cap'] 92)) #[.bool false, .slice none 0 0] 92).alloc (.cells #[.bool false, .slice none 0 0] 92)).alloc (.cells #[.bool neg, .slice A n cap, .bool neg, .slice A' n' cap'] 92)
  have k6 := (Blk.new (((w.alloc (.cells #[.bool neg, .slice A n cap] 92)).alloc (.cells #[.bool neg, .slice A' n' cap'] 92)).alloc (.cells #[.bool false, .slice none 0 0] 92)) #[.bool false, .slice none 0 0] 92).alloc (.cells #[.bool neg, .slice A n cap, .bool neg, .slice A' n' cap'] 92)
  have k5 := Blk.new ((((w.alloc (.cells #[.bool neg, .slice A n cap] 92)).alloc (.cells #[.bool neg, .slice A' n' cap'] 92)).alloc (.cells #[.bool false, .slice none 0 0] 92)).alloc (.cells #[.bool false, .slice none 0 0] 92)) #[.bool neg, .slice A n cap, .bool neg, .slice A' n' cap'] 92
  have hb0 := (((((Below.refl w.heap.size w).alloc (Nat.le_refl _) (.cells #[.bool neg, .slice A n cap] 92)).alloc (by simp) (.cells #[.bool neg, .slice A' n' cap'] 92)).alloc (by simp; omega) (.cells #[.bool false, .slice none 0 0] 92)).alloc (by simp; omega) (.cells #[.bool false, .slice none 0 0] 92)).alloc (by simp; omega) (.cells #[.bool neg, .slice A n cap, .bool neg, .slice A' n' cap'] 92)
  simp only [World.size_alloc] at k2 k3 k4 k5 k6
  have K2 := Lib.hid k2
  have K3 := Lib.hid k3
  have K4 := Lib.hid k4
  have K5 := Lib.hid k5
  have K6 := Lib.hid k6
  have HB0 := Lib.hid hb0
  have HA := Lib.hid hag
  have HB := Lib.hid hah
  have HG := Lib.hid hdg
  have HH := Lib.hid hdh
  have HTG := Lib.hid tg
  have HTH := Lib.hid th
  have HWA := Lib.hid ha
  have HWB := Lib.hid hb
  clear k2 k3 k4 k5 k6 hb0 ha hb hag hah hdg hdh tg th
  have hn1 : ((n' : Int) == 0) = false := by simp; omega
  go_enter Tryz.func51, Tryz.ntmps51
  go_wp2_with (first
    | (go_at_call 98; refine (check2 _ (w.heap.size + 1 + 1 + 1 + 1) 2 K5.out.lt neg neg A A' n n' cap cap' x y (K5.out.at 0) (K5.out.at 1) (HWA.out.below HB0.out) (K5.out.at 2) (K5.out.at 3) (HWB.out.below HB0.out)).mono ?_; rintro e w4 ⟨rfl, hb4⟩; have hk2 := K2.out.below hb4; have hk3 := K3.out.below hb4; have hk4 := K4.out.below hb4; have hk6 := K6.out.below hb4; have hb := HB0.out.trans (hb4.mono (by (simp; omega))); have c20 := hk2.c0; have c21 := hk2.c1; have c30 := hk3.c0; have c31 := hk3.c1; have HK2 := Lib.hid hk2; have HK3 := Lib.hid hk3; have HK4 := Lib.hid hk4; have HK6 := Lib.hid hk6; have HBe := Lib.hid hb; have hsz := hk6.lt; clear hk2 hk3 hk4 hk6 hb hb4 K2 K3 K4 K5 K6 HB0)
    | (go_at_call 102; refine (divide_calls _ A A' n n' cap cap' g h (by omega) (by omega) (by omega) (HA.out.below HBe.out) (HB.out.below HBe.out) HG.out HH.out HTG.out HTH.out).mono ?_; rintro e w5 ⟨Aq, nq, capq, Ar, nr, capr, rfl, hq, hr, hb5⟩; have hnr := Row.pos hr HZ.out; have hk2 := HK2.out.below hb5; have hk3 := HK3.out.below hb5; have d20 := hk2.c0; have d30 := hk3.c0; have d31 := hk3.c1; have HL2 := Lib.hid hk2; have HL3 := Lib.hid hk3; have HL4 := Lib.hid (HK4.out.below hb5); have HL6 := Lib.hid (HK6.out.below hb5); have HBe5 := Lib.hid (HBe.out.trans (hb5.mono HBe.out.size)); have hsz5 := HL6.out.lt; have HQ := Lib.hid hq.u; have HR := Lib.hid hr.u; have HQr := Lib.hid hq; have HRr := Lib.hid hr; clear hk2 hk3 hb5 hq hr HK2 HK3 HK4 HK6 HBe c20 c21 c30 c31)
    | (go_at_call_has 99 capq; refine (made_row _ false Aq nq capq _ HQ.out).mono ?_; rintro e w6 ⟨v, rfl, hwid, hb6⟩; rw [Num.ferr_of HF.out]; rw [Num.fit_of HF.out] at hwid; obtain ⟨neg2, A2, n2, cap2, rfl, hwd⟩ := hwid; have hl4 := HL4.out.below hb6; have f0 := hl4.c0; have f1 := hl4.c1; have f2 := hl4.fr 0; have f3 := hl4.fr 1; have hl3 := HL3.out.below hb6; have d30' := hl3.c0; have HM2 := Lib.hid ((HL2.out.below hb6).far2 (w.heap.size + 1 + 1) (.bool neg2) (.slice A2 n2 cap2) (by omega)); have HM3 := Lib.hid (hl3.far2 (w.heap.size + 1 + 1) (.bool neg2) (.slice A2 n2 cap2) (by omega)); have HM4 := Lib.hid (hl4.set2 (.bool neg2) (.slice A2 n2 cap2)); have HM6 := Lib.hid ((HL6.out.below hb6).far2 (w.heap.size + 1 + 1) (.bool neg2) (.slice A2 n2 cap2) (by omega)); have HBe6 := Lib.hid (below_set2 (HBe5.out.trans (hb6.mono HBe5.out.size)) (w.heap.size + 1 + 1) (by omega) (.bool neg2) (.slice A2 n2 cap2)); have HWq := Lib.hid (hwd.set2 hl4 (.bool neg2) (.slice A2 n2 cap2)); have HR6 := Lib.hid ((HR.out.below hb6).set2 hl4 (.bool neg2) (.slice A2 n2 cap2)); clear hl4 hl3 hwd hb6 HL2 HL3 HL4 HL6)
    | (go_at_call_has 99 capr; refine (made_row _ neg Ar nr capr _ HR6.out).mono ?_; rintro e w7 ⟨v, rfl, hwid, hb7⟩; rw [Num.ferr_of HF2.out]; rw [Num.fit_of HF2.out] at hwid; obtain ⟨neg3, A3, n3, cap3, rfl, hwd⟩ := hwid; have hl6 := HM6.out.below hb7; have g0 := hl6.c0; have g1 := hl6.c1; have g2 := hl6.fr 0; have g3 := hl6.fr 1; have HN4 := Lib.hid ((HM4.out.below hb7).far2 (w.heap.size + 1 + 1 + 1) (.bool neg3) (.slice A3 n3 cap3) (by omega)); have HN6 := Lib.hid (hl6.set2 (.bool neg3) (.slice A3 n3 cap3)); have HBe7 := Lib.hid (below_set2 (HBe6.out.trans (hb7.mono HBe6.out.size)) (w.heap.size + 1 + 1 + 1) (by omega) (.bool neg3) (.slice A3 n3 cap3)); have HWq7 := Lib.hid ((HWq.out.below hb7).set2 hl6 (.bool neg3) (.slice A3 n3 cap3)); have HWr := Lib.hid (hwd.set2 hl6 (.bool neg3) (.slice A3 n3 cap3)); clear hl6 hwd hb7 HM2 HM3 HM4 HM6 HWq HR6)
    )
  have hwq := HWq7.out
  have hwr := HWr.out
  have hbe := HBe7.out
  have h4 := HN4.out
  have h6 := HN6.out
  clear HWq7 HWr HBe7 HN4 HN6 HBe5 HBe6
  generalize (w7.setCell ⟨w.heap.size + 1 + 1 + 1, 0, none⟩ (.bool neg3)).setCell ⟨w.heap.size + 1 + 1 + 1, 1, none⟩ (.slice A3 n3 cap3) = w8 at *
  have hS : Blk w8.drew (w.heap.size + 1 + 1) #[.bool neg2, .slice A2 n2 cap2] 92 ∧ Blk w8.drew (w.heap.size + 1 + 1 + 1) #[.bool neg3, .slice A3 n3 cap3] 92 := ⟨h4, h6⟩
  refine wp_region_any (by kernel_rfl) ?_
  refine wpAny_of_held (S := fun W' => Blk W' (w.heap.size + 1 + 1) #[.bool neg2, .slice A2 n2 cap2] 92 ∧ Blk W' (w.heap.size + 1 + 1 + 1) #[.bool neg3, .slice A3 n3 cap3] 92) _ _ _ _ ?_
  refine wpAnyH_take (i := 0) (v := .agg #[.bool neg2, .slice A2 n2 cap2]) rfl (by kernel_rfl) (by kernel_rfl) (by kernel_rfl) (fun _ _ _ h => h) (.inl ⟨rfl, fun w0 hw0 => ?a0⟩) hS ?_
  case a0 =>
    obtain ⟨g4, g6⟩ := hw0; have e0 := g4.c0; have e1 := g4.c1; have e2 := g6.c0; have e3 := g6.c1
    go_simp
  refine wpAnyH_take (i := 1) (v := .agg #[.bool neg3, .slice A3 n3 cap3]) rfl (by kernel_rfl) (by kernel_rfl) (by kernel_rfl) (fun _ _ _ h => h) (.inl ⟨rfl, fun w0 hw0 => ?a1⟩) hS ?_
  case a1 =>
    obtain ⟨g4, g6⟩ := hw0; have e0 := g4.c0; have e1 := g4.c1; have e2 := g6.c0; have e3 := g6.c1
    go_simp
  refine wpAnyH_take (i := 2) (v := .int .i64 0) rfl (by kernel_rfl) (by kernel_rfl) (by kernel_rfl) (fun _ _ _ h => h) (.inl ⟨rfl, fun w0 hw0 => ?a2⟩) hS ?_
  case a2 =>
    obtain ⟨g4, g6⟩ := hw0; have e0 := g4.c0; have e1 := g4.c1; have e2 := g6.c0; have e3 := g6.c1
    go_simp
  have f0 := h4.c0
  have f1 := h4.c1
  have f2 := h4.fr 0
  have f3 := h4.fr 1
  refine wpAnyH_all (rs := [3]) (by kernel_rfl) (by simp) ?_
  intro i0 hi0
  obtain rfl : i0 = 3 := by simpa using hi0
  refine wpOp_plain rfl rfl fun K' hK' => ?_
  go_simp
  have hwq : WD ((w8.setCell ⟨w.heap.size + 1 + 1, 0, none⟩ (.bool neg2)).setCell ⟨w.heap.size + 1 + 1, 1, none⟩ (.slice A2 n2 cap2)).drew neg2 A2 n2 cap2 _ := hwq.set2 h4 (.bool neg2) (.slice A2 n2 cap2)
  have hwr : WD ((w8.setCell ⟨w.heap.size + 1 + 1, 0, none⟩ (.bool neg2)).setCell ⟨w.heap.size + 1 + 1, 1, none⟩ (.slice A2 n2 cap2)).drew neg3 A3 n3 cap3 _ := hwr.set2 h4 (.bool neg2) (.slice A2 n2 cap2)
  have hbe : Below w.heap.size w ((w8.setCell ⟨w.heap.size + 1 + 1, 0, none⟩ (.bool neg2)).setCell ⟨w.heap.size + 1 + 1, 1, none⟩ (.slice A2 n2 cap2)).drew := below_drewN (below_set2 hbe (w.heap.size + 1 + 1) (by omega) (.bool neg2) (.slice A2 n2 cap2)) 1
  have hS : Blk ((w8.setCell ⟨w.heap.size + 1 + 1, 0, none⟩ (.bool neg2)).setCell ⟨w.heap.size + 1 + 1, 1, none⟩ (.slice A2 n2 cap2)).drew (w.heap.size + 1 + 1) #[.bool neg2, .slice A2 n2 cap2] 92 ∧ Blk ((w8.setCell ⟨w.heap.size + 1 + 1, 0, none⟩ (.bool neg2)).setCell ⟨w.heap.size + 1 + 1, 1, none⟩ (.slice A2 n2 cap2)).drew (w.heap.size + 1 + 1 + 1) #[.bool neg3, .slice A3 n3 cap3] 92 := ⟨h4.set2 _ _, h6.far2 _ _ _ (by omega)⟩
  clear f0 f1 f2 f3 h4 h6
  generalize ((w8.setCell ⟨w.heap.size + 1 + 1, 0, none⟩ (.bool neg2)).setCell ⟨w.heap.size + 1 + 1, 1, none⟩ (.slice A2 n2 cap2)).drew = w10 at *
  refine hK' _ _ ⟨hS, ?_⟩
  clear hK' K'
  have f0 := hS.2.c0
  have f1 := hS.2.c1
  have f2 := hS.2.fr 0
  have f3 := hS.2.fr 1
  refine wpAnyH_all (rs := [4]) (by kernel_rfl) (by simp) ?_
  intro i0 hi0
  obtain rfl : i0 = 4 := by simpa using hi0
  refine wpOp_plain rfl rfl fun K' hK' => ?_
  go_simp
  have hwq := hwq.set2 hS.2 (.bool neg3) (.slice A3 n3 cap3)
  have hwr := hwr.set2 hS.2 (.bool neg3) (.slice A3 n3 cap3)
  have hbe := below_set2 hbe (w.heap.size + 1 + 1 + 1) (by omega) (.bool neg3) (.slice A3 n3 cap3)
  have hS : Blk ((w10.setCell ⟨w.heap.size + 1 + 1 + 1, 0, none⟩ (.bool neg3)).setCell ⟨w.heap.size + 1 + 1 + 1, 1, none⟩ (.slice A3 n3 cap3)) (w.heap.size + 1 + 1) #[.bool neg2, .slice A2 n2 cap2] 92 ∧ Blk ((w10.setCell ⟨w.heap.size + 1 + 1 + 1, 0, none⟩ (.bool neg3)).setCell ⟨w.heap.size + 1 + 1 + 1, 1, none⟩ (.slice A3 n3 cap3)) (w.heap.size + 1 + 1 + 1) #[.bool neg3, .slice A3 n3 cap3] 92 := ⟨hS.1.far2 _ _ _ (by omega), hS.2.set2 _ _⟩
  clear f0 f1 f2 f3
  generalize (w10.setCell ⟨w.heap.size + 1 + 1 + 1, 0, none⟩ (.bool neg3)).setCell ⟨w.heap.size + 1 + 1 + 1, 1, none⟩ (.slice A3 n3 cap3) = w11 at *
  refine hK' _ _ ⟨hS, ?_⟩
  clear hK' K'
  refine wpAnyH_take (i := 5) (v := .int .i64 0) rfl (by kernel_rfl) (by kernel_rfl) (by kernel_rfl) (fun _ _ _ h => h) (.inl ⟨rfl, fun w0 hw0 => ?a5⟩) hS ?_
  case a5 =>
    obtain ⟨g4, g6⟩ := hw0; have e0 := g4.c0; have e1 := g4.c1; have e2 := g6.c0; have e3 := g6.c1
    go_simp
  refine wpAnyH_done (by kernel_rfl) ?_ _
  have r0 := hS.1.c0
  have r1 := hS.1.c1
  have r2 := hS.2.c0
  have r3 := hS.2.c1
  have HWq := Lib.hid hwq
  have HWr := Lib.hid hwr
  have HBe := Lib.hid hbe
  clear hwq hwr hbe hS
  go_wp2
  refine bodyPost_ret (v := .tuple #[.agg #[.bool neg2, .slice A2 n2 cap2], .agg #[.bool neg3, .slice A3 n3 cap3], .int .i64 0]) (by simp [results, Tryz.results51, go_sem, r0, r1, r2, r3]) rfl ?_
  exact ⟨_, _, neg2, A2, n2, cap2, neg3, A3, n3, cap3, rfl, HWq.out, HWr.out, by rw [HX.out, HY.out]; exact quot_same neg _ _ (by have := Num.val_pos HH.out HTH.out (by omega); omega), HBe.out⟩

set_option maxRecDepth 100000 in
set_option maxHeartbeats 1000000 in
/-- The signs differ, and something is left. -/
theorem DivMod_diff (w : World) (neg : Bool) (A A' : Option Addr) (n n' cap cap' : Nat) (g h : Nat → Int) (x y : Int) (ha : WD w neg A n cap x) (hb : WD w (!neg) A' n' cap' y) (hn : n ≤ 4096) (hn' : n' ≤ 4096) (hcn : n' ≤ cap') (hdg : Num.Dig g n) (hdh : Num.Dig h n') (tg : Num.Trim g n) (th : Num.Trim h n') (hag : At w A g n) (hah : At w A' h n') (hx : x = Num.sg neg * Num.val g n) (hy : y = Num.sg (!neg) * Num.val h n') (hy0 : n' ≠ 0) (hz : 0 < Num.val g n % Num.val h n') :
    Calls Tryz.prog 51 #[.agg #[.bool neg, .slice A n cap], .agg #[.bool (!neg), .slice A' n' cap']] w (DMPost x y w) := by
  have hvp := Num.val_pos hdh th (by omega)
  have hml := Int.emod_lt_of_pos (Num.val g n) hvp
  have hgp : 0 < Num.val g n := by
    rcases Int.lt_or_eq_of_le (Num.val_nonneg hdg) with h1 | h1
    · exact h1
    · rw [← h1] at hz
      simp at hz
  have hq1 : Num.val g n / Num.val h n' + 1 ≤ Num.val g n := by
    have : Num.val g n / Num.val h n' < Num.val g n := Int.ediv_lt_of_lt_mul hvp (by
      have : Num.val g n * 2 ≤ Num.val g n * Num.val h n' := Int.mul_le_mul_of_nonneg_left (by omega) (by omega)
      omega)
    omega
  have hP : Num.val g n < Num.P 4096 ∧ Num.val h n' < Num.P 4096 := ⟨by have := Num.val_lt hdg; have := Num.P_mono hn; omega, by have := Num.val_lt hdh; have := Num.P_mono hn'; omega⟩
  have HF : Hid (Num.fits (Num.sg true * (Num.val g n / Num.val h n' + 1)) = true) := Lib.hid (fits_of_le _ (by have := Int.ediv_nonneg (Num.val_nonneg hdg) (Num.val_nonneg hdh); omega) hq1 hP.1)
  have HF2 : Hid (Num.fits (Num.sg (!neg) * (Num.val h n' - Num.val g n % Num.val h n')) = true) := Lib.hid (fits_of_le _ (by omega) (show _ ≤ Num.val h n' by omega) hP.2)
  have HVP := Lib.hid hvp
  have HML := Lib.hid hml
  have HQle : Hid (Num.val g n / Num.val h n' ≤ Num.val g n) := Lib.hid (by omega)
  have HZ := Lib.hid hz
  have HX := Lib.hid hx
  have HY := Lib.hid hy
  clear hx hy hz hvp hml hgp hq1 hP
  have k2 := ((((Blk.new w #[.bool neg, .slice A n cap] 92).alloc (.cells #[.bool (!neg), .slice A' n' cap'] 92)).alloc (.cells #[.bool false, .slice none 0 0] 92)).alloc (.cells #[.bool false, .slice none 0 0] 92)).alloc (.cells #[.bool neg, .slice A n cap, .bool (!neg), .slice A' n' cap'] 92)
  have k3 := (((Blk.new (w.alloc (.cells #[.bool neg, .slice A n cap] 92)) #[.bool (!neg), .slice A' n' cap'] 92).alloc (.cells #[.bool false, .slice none 0 0] 92)).alloc (.cells #[.bool false, .slice none 0 0] 92)).alloc (.cells #[.bool neg, .slice A n cap, .bool (!neg), .slice A' n' cap'] 92)
  have k4 := ((Blk.new ((w.alloc (.cells #[.bool neg, .slice A n cap] 92)).alloc (.cells #[.bool (!neg), .slice A' n' cap'] 92)) #[.bool false, .slice none 0 0] 92).alloc (.cells #[.bool false, .slice none 0 0] 92)).alloc (.cells #[.bool neg, .slice A n cap, .bool (!neg), .slice A' n' cap'] 92)
  have k6 := (Blk.new (((w.alloc (.cells #[.bool neg, .slice A n cap] 92)).alloc (.cells #[.bool (!neg), .slice A' n' cap'] 92)).alloc (.cells #[.bool false, .slice none 0 0] 92)) #[.bool false, .slice none 0 0] 92).alloc (.cells #[.bool neg, .slice A n cap, .bool (!neg), .slice A' n' cap'] 92)
  have k5 := Blk.new ((((w.alloc (.cells #[.bool neg, .slice A n cap] 92)).alloc (.cells #[.bool (!neg), .slice A' n' cap'] 92)).alloc (.cells #[.bool false, .slice none 0 0] 92)).alloc (.cells #[.bool false, .slice none 0 0] 92)) #[.bool neg, .slice A n cap, .bool (!neg), .slice A' n' cap'] 92
  have hb0 := (((((Below.refl w.heap.size w).alloc (Nat.le_refl _) (.cells #[.bool neg, .slice A n cap] 92)).alloc (by simp) (.cells #[.bool (!neg), .slice A' n' cap'] 92)).alloc (by simp; omega) (.cells #[.bool false, .slice none 0 0] 92)).alloc (by simp; omega) (.cells #[.bool false, .slice none 0 0] 92)).alloc (by simp; omega) (.cells #[.bool neg, .slice A n cap, .bool (!neg), .slice A' n' cap'] 92)
  simp only [World.size_alloc] at k2 k3 k4 k5 k6
  have K2 := Lib.hid k2
  have K3 := Lib.hid k3
  have K4 := Lib.hid k4
  have K5 := Lib.hid k5
  have K6 := Lib.hid k6
  have HB0 := Lib.hid hb0
  have HA := Lib.hid hag
  have HB := Lib.hid hah
  have HG := Lib.hid hdg
  have HH := Lib.hid hdh
  have HTG := Lib.hid tg
  have HTH := Lib.hid th
  have HWA := Lib.hid ha
  have HWB := Lib.hid hb
  clear k2 k3 k4 k5 k6 hb0 ha hb hag hah hdg hdh tg th
  have hn1 : ((n' : Int) == 0) = false := by simp; omega
  go_enter Tryz.func51, Tryz.ntmps51
  go_wp2_with (first
    | (go_at_call 98; refine (check2 _ (w.heap.size + 1 + 1 + 1 + 1) 2 K5.out.lt neg (!neg) A A' n n' cap cap' x y (K5.out.at 0) (K5.out.at 1) (HWA.out.below HB0.out) (K5.out.at 2) (K5.out.at 3) (HWB.out.below HB0.out)).mono ?_; rintro e w4 ⟨rfl, hb4⟩; have hk2 := K2.out.below hb4; have hk3 := K3.out.below hb4; have hk4 := K4.out.below hb4; have hk6 := K6.out.below hb4; have hb := HB0.out.trans (hb4.mono (by (simp; omega))); have c20 := hk2.c0; have c21 := hk2.c1; have c30 := hk3.c0; have c31 := hk3.c1; have HK2 := Lib.hid hk2; have HK3 := Lib.hid hk3; have HK4 := Lib.hid hk4; have HK6 := Lib.hid hk6; have HBe := Lib.hid hb; have hsz := hk6.lt; clear hk2 hk3 hk4 hk6 hb hb4 K2 K3 K4 K5 K6 HB0)
    | (go_at_call 102; refine (divide_calls _ A A' n n' cap cap' g h (by omega) (by omega) (by omega) (HA.out.below HBe.out) (HB.out.below HBe.out) HG.out HH.out HTG.out HTH.out).mono ?_; rintro e w5 ⟨Aq, nq, capq, Ar, nr, capr, rfl, hq, hr, hb5⟩; have hnr := Row.pos hr HZ.out; have hk2 := HK2.out.below hb5; have hk3 := HK3.out.below hb5; have d20 := hk2.c0; have d30 := hk3.c0; have d31 := hk3.c1; have HL2 := Lib.hid hk2; have HL3 := Lib.hid hk3; have HL4 := Lib.hid (HK4.out.below hb5); have HL6 := Lib.hid (HK6.out.below hb5); have HBe5 := Lib.hid (HBe.out.trans (hb5.mono HBe.out.size)); have hsz5 := HL6.out.lt; have HQ := Lib.hid hq.u; have HR := Lib.hid hr.u; have HQr := Lib.hid hq; have HRr := Lib.hid hr; clear hk2 hk3 hb5 hq hr HK2 HK3 HK4 HK6 HBe c20 c21 c30 c31)
    | (go_at_call 103; obtain ⟨gq, haq, hdq, htq, hvq⟩ := HQr.out.ex; have hnq := Num.len_le hdq htq HG.out (by rw [hvq]; exact HQle.out); refine (plus_calls _ Aq (some ⟨w5.heap.size, 0, none⟩) nq 1 capq 1 gq (fun _ => 1) hdq (fun i hi => ⟨by show (0 : Int) ≤ 1; omega, by show (1 : Int) < 4294967296; omega⟩) (by omega) (by omega) (haq.below ((Below.refl _ w5).alloc (Nat.le_refl _) _)) (fun _ => ⟨w5.heap.size, 0, rfl, by simp, fun i hi => by obtain rfl : i = 0 := (by omega); rw [World.cell?_alloc_at _ _ _ _ rfl]; rfl⟩)).mono ?_; rintro e w55 ⟨b55, o55, rfl, hbo, hdo, hvo, hb55, hbe55⟩; have hbw := ((Below.refl w5.heap.size w5).alloc (Nat.le_refl _) (.cells #[.int .u32 1] 175)).trans (hbe55.mono (by simp)); have hk2 := HL2.out.below hbw; have hk3 := HL3.out.below hbw; have hk4 := HL4.out.below hbw; have hk6 := HL6.out.below hbw; have hbe := HBe5.out.trans (hbw.mono HBe5.out.size); have hrr := HRr.out.below hbw; clear HL2 HL3 HL4 HL6 HBe5 HRr HQr HQ HR d20 d30 d31; have d20 := hk2.c0; have d30 := hk3.c0; have d31 := hk3.c1; have HL2 := Lib.hid hk2; have HL3 := Lib.hid hk3; have HL4 := Lib.hid hk4; have HL6 := Lib.hid hk6; have HBe5 := Lib.hid hbe; have HRr := Lib.hid hrr; have HQ5 : Hid (RowU w55 (some ⟨b55, 0, none⟩) (max nq 1 + 1) (max nq 1 + 1) (Num.val g n / Num.val h n' + 1)) := Lib.hid ⟨⟨o55, hbo.at, hdo, by rw [hvo, hvq]; simp [Num.val, Num.P_zero]⟩, Nat.le_refl _, by omega⟩; have hsz55 := hk6.lt; clear hk2 hk3 hk4 hk6 hbe hrr hbo hdo hvo hbe55 hbw haq hdq htq hvq)
    | (go_at_call 104; obtain ⟨gr, har, hdr, htr, hvr⟩ := HRr.out.ex; have hrl := Num.len_le hdr htr HH.out (by rw [hvr]; have := HML.out; omega); refine (minus_calls _ A' Ar n' nr cap' capr h gr HH.out hdr (by omega) hrl (by rw [hvr]; have := HML.out; omega) (HB.out.below HBe5.out) har).mono ?_; rintro e w56 ⟨b56, o56, rfl, hbo, hdo, hvo, hb56, hbe56⟩; have hk2 := HL2.out.below hbe56; have hk3 := HL3.out.below hbe56; have hk4 := HL4.out.below hbe56; have hk6 := HL6.out.below hbe56; have hbe := HBe5.out.trans (hbe56.mono HBe5.out.size); have hqq := HQ5.out.below hbe56; clear HL2 HL3 HL4 HL6 HBe5 HRr HQ5 d20 d30 d31; have d20 := hk2.c0; have d30 := hk3.c0; have HL2 := Lib.hid hk2; have HL3 := Lib.hid hk3; have HL4 := Lib.hid hk4; have HL6 := Lib.hid hk6; have HBe5 := Lib.hid hbe; have HQ := Lib.hid hqq; have HR : Hid (RowU w56 (some ⟨b56, 0, none⟩) n' n' (Num.val h n' - Num.val g n % Num.val h n')) := Lib.hid ⟨⟨o56, hbo.at, hdo, by rw [hvo, hvr]⟩, Nat.le_refl _, by omega⟩; have hsz56 := hk6.lt; clear hk2 hk3 hk4 hk6 hbe hqq hbo hdo hvo hbe56 har hdr htr hvr)
    | (go_at_call_has 99 b55; refine (made_row _ true (some ⟨b55, 0, none⟩) (max nq 1 + 1) (max nq 1 + 1) _ HQ.out).mono ?_; rintro e w6 ⟨v, rfl, hwid, hb6⟩; rw [Num.ferr_of HF.out]; rw [Num.fit_of HF.out] at hwid; obtain ⟨neg2, A2, n2, cap2, rfl, hwd⟩ := hwid; have hl4 := HL4.out.below hb6; have f0 := hl4.c0; have f1 := hl4.c1; have f2 := hl4.fr 0; have f3 := hl4.fr 1; have hl3 := HL3.out.below hb6; have d30' := hl3.c0; have HM2 := Lib.hid ((HL2.out.below hb6).far2 (w.heap.size + 1 + 1) (.bool neg2) (.slice A2 n2 cap2) (by omega)); have HM3 := Lib.hid (hl3.far2 (w.heap.size + 1 + 1) (.bool neg2) (.slice A2 n2 cap2) (by omega)); have HM4 := Lib.hid (hl4.set2 (.bool neg2) (.slice A2 n2 cap2)); have HM6 := Lib.hid ((HL6.out.below hb6).far2 (w.heap.size + 1 + 1) (.bool neg2) (.slice A2 n2 cap2) (by omega)); have HBe6 := Lib.hid (below_set2 (HBe5.out.trans (hb6.mono HBe5.out.size)) (w.heap.size + 1 + 1) (by omega) (.bool neg2) (.slice A2 n2 cap2)); have HWq := Lib.hid (hwd.set2 hl4 (.bool neg2) (.slice A2 n2 cap2)); have HR6 := Lib.hid ((HR.out.below hb6).set2 hl4 (.bool neg2) (.slice A2 n2 cap2)); clear hl4 hl3 hwd hb6 HL2 HL3 HL4 HL6)
    | (go_at_call_has 99 b56; refine (made_row _ (!neg) (some ⟨b56, 0, none⟩) n' n' _ HR6.out).mono ?_; rintro e w7 ⟨v, rfl, hwid, hb7⟩; rw [Num.ferr_of HF2.out]; rw [Num.fit_of HF2.out] at hwid; obtain ⟨neg3, A3, n3, cap3, rfl, hwd⟩ := hwid; have hl6 := HM6.out.below hb7; have g0 := hl6.c0; have g1 := hl6.c1; have g2 := hl6.fr 0; have g3 := hl6.fr 1; have HN4 := Lib.hid ((HM4.out.below hb7).far2 (w.heap.size + 1 + 1 + 1) (.bool neg3) (.slice A3 n3 cap3) (by omega)); have HN6 := Lib.hid (hl6.set2 (.bool neg3) (.slice A3 n3 cap3)); have HBe7 := Lib.hid (below_set2 (HBe6.out.trans (hb7.mono HBe6.out.size)) (w.heap.size + 1 + 1 + 1) (by omega) (.bool neg3) (.slice A3 n3 cap3)); have HWq7 := Lib.hid ((HWq.out.below hb7).set2 hl6 (.bool neg3) (.slice A3 n3 cap3)); have HWr := Lib.hid (hwd.set2 hl6 (.bool neg3) (.slice A3 n3 cap3)); clear hl6 hwd hb7 HM2 HM3 HM4 HM6 HWq HR6)
    )
  have hwq := HWq7.out
  have hwr := HWr.out
  have hbe := HBe7.out
  have h4 := HN4.out
  have h6 := HN6.out
  clear HWq7 HWr HBe7 HN4 HN6 HBe5 HBe6
  generalize (w7.setCell ⟨w.heap.size + 1 + 1 + 1, 0, none⟩ (.bool neg3)).setCell ⟨w.heap.size + 1 + 1 + 1, 1, none⟩ (.slice A3 n3 cap3) = w8 at *
  have hS : Blk w8.drew (w.heap.size + 1 + 1) #[.bool neg2, .slice A2 n2 cap2] 92 ∧ Blk w8.drew (w.heap.size + 1 + 1 + 1) #[.bool neg3, .slice A3 n3 cap3] 92 := ⟨h4, h6⟩
  refine wp_region_any (by kernel_rfl) ?_
  refine wpAny_of_held (S := fun W' => Blk W' (w.heap.size + 1 + 1) #[.bool neg2, .slice A2 n2 cap2] 92 ∧ Blk W' (w.heap.size + 1 + 1 + 1) #[.bool neg3, .slice A3 n3 cap3] 92) _ _ _ _ ?_
  refine wpAnyH_take (i := 0) (v := .agg #[.bool neg2, .slice A2 n2 cap2]) rfl (by kernel_rfl) (by kernel_rfl) (by kernel_rfl) (fun _ _ _ h => h) (.inl ⟨rfl, fun w0 hw0 => ?a0⟩) hS ?_
  case a0 =>
    obtain ⟨g4, g6⟩ := hw0; have e0 := g4.c0; have e1 := g4.c1; have e2 := g6.c0; have e3 := g6.c1
    go_simp
  refine wpAnyH_take (i := 1) (v := .agg #[.bool neg3, .slice A3 n3 cap3]) rfl (by kernel_rfl) (by kernel_rfl) (by kernel_rfl) (fun _ _ _ h => h) (.inl ⟨rfl, fun w0 hw0 => ?a1⟩) hS ?_
  case a1 =>
    obtain ⟨g4, g6⟩ := hw0; have e0 := g4.c0; have e1 := g4.c1; have e2 := g6.c0; have e3 := g6.c1
    go_simp
  refine wpAnyH_take (i := 2) (v := .int .i64 0) rfl (by kernel_rfl) (by kernel_rfl) (by kernel_rfl) (fun _ _ _ h => h) (.inl ⟨rfl, fun w0 hw0 => ?a2⟩) hS ?_
  case a2 =>
    obtain ⟨g4, g6⟩ := hw0; have e0 := g4.c0; have e1 := g4.c1; have e2 := g6.c0; have e3 := g6.c1
    go_simp
  have f0 := h4.c0
  have f1 := h4.c1
  have f2 := h4.fr 0
  have f3 := h4.fr 1
  refine wpAnyH_all (rs := [3]) (by kernel_rfl) (by simp) ?_
  intro i0 hi0
  obtain rfl : i0 = 3 := by simpa using hi0
  refine wpOp_plain rfl rfl fun K' hK' => ?_
  go_simp
  have hwq : WD ((w8.setCell ⟨w.heap.size + 1 + 1, 0, none⟩ (.bool neg2)).setCell ⟨w.heap.size + 1 + 1, 1, none⟩ (.slice A2 n2 cap2)).drew neg2 A2 n2 cap2 _ := hwq.set2 h4 (.bool neg2) (.slice A2 n2 cap2)
  have hwr : WD ((w8.setCell ⟨w.heap.size + 1 + 1, 0, none⟩ (.bool neg2)).setCell ⟨w.heap.size + 1 + 1, 1, none⟩ (.slice A2 n2 cap2)).drew neg3 A3 n3 cap3 _ := hwr.set2 h4 (.bool neg2) (.slice A2 n2 cap2)
  have hbe : Below w.heap.size w ((w8.setCell ⟨w.heap.size + 1 + 1, 0, none⟩ (.bool neg2)).setCell ⟨w.heap.size + 1 + 1, 1, none⟩ (.slice A2 n2 cap2)).drew := below_drewN (below_set2 hbe (w.heap.size + 1 + 1) (by omega) (.bool neg2) (.slice A2 n2 cap2)) 1
  have hS : Blk ((w8.setCell ⟨w.heap.size + 1 + 1, 0, none⟩ (.bool neg2)).setCell ⟨w.heap.size + 1 + 1, 1, none⟩ (.slice A2 n2 cap2)).drew (w.heap.size + 1 + 1) #[.bool neg2, .slice A2 n2 cap2] 92 ∧ Blk ((w8.setCell ⟨w.heap.size + 1 + 1, 0, none⟩ (.bool neg2)).setCell ⟨w.heap.size + 1 + 1, 1, none⟩ (.slice A2 n2 cap2)).drew (w.heap.size + 1 + 1 + 1) #[.bool neg3, .slice A3 n3 cap3] 92 := ⟨h4.set2 _ _, h6.far2 _ _ _ (by omega)⟩
  clear f0 f1 f2 f3 h4 h6
  generalize ((w8.setCell ⟨w.heap.size + 1 + 1, 0, none⟩ (.bool neg2)).setCell ⟨w.heap.size + 1 + 1, 1, none⟩ (.slice A2 n2 cap2)).drew = w10 at *
  refine hK' _ _ ⟨hS, ?_⟩
  clear hK' K'
  have f0 := hS.2.c0
  have f1 := hS.2.c1
  have f2 := hS.2.fr 0
  have f3 := hS.2.fr 1
  refine wpAnyH_all (rs := [4]) (by kernel_rfl) (by simp) ?_
  intro i0 hi0
  obtain rfl : i0 = 4 := by simpa using hi0
  refine wpOp_plain rfl rfl fun K' hK' => ?_
  go_simp
  have hwq := hwq.set2 hS.2 (.bool neg3) (.slice A3 n3 cap3)
  have hwr := hwr.set2 hS.2 (.bool neg3) (.slice A3 n3 cap3)
  have hbe := below_set2 hbe (w.heap.size + 1 + 1 + 1) (by omega) (.bool neg3) (.slice A3 n3 cap3)
  have hS : Blk ((w10.setCell ⟨w.heap.size + 1 + 1 + 1, 0, none⟩ (.bool neg3)).setCell ⟨w.heap.size + 1 + 1 + 1, 1, none⟩ (.slice A3 n3 cap3)) (w.heap.size + 1 + 1) #[.bool neg2, .slice A2 n2 cap2] 92 ∧ Blk ((w10.setCell ⟨w.heap.size + 1 + 1 + 1, 0, none⟩ (.bool neg3)).setCell ⟨w.heap.size + 1 + 1 + 1, 1, none⟩ (.slice A3 n3 cap3)) (w.heap.size + 1 + 1 + 1) #[.bool neg3, .slice A3 n3 cap3] 92 := ⟨hS.1.far2 _ _ _ (by omega), hS.2.set2 _ _⟩
  clear f0 f1 f2 f3
  generalize (w10.setCell ⟨w.heap.size + 1 + 1 + 1, 0, none⟩ (.bool neg3)).setCell ⟨w.heap.size + 1 + 1 + 1, 1, none⟩ (.slice A3 n3 cap3) = w11 at *
  refine hK' _ _ ⟨hS, ?_⟩
  clear hK' K'
  refine wpAnyH_take (i := 5) (v := .int .i64 0) rfl (by kernel_rfl) (by kernel_rfl) (by kernel_rfl) (fun _ _ _ h => h) (.inl ⟨rfl, fun w0 hw0 => ?a5⟩) hS ?_
  case a5 =>
    obtain ⟨g4, g6⟩ := hw0; have e0 := g4.c0; have e1 := g4.c1; have e2 := g6.c0; have e3 := g6.c1
    go_simp
  refine wpAnyH_done (by kernel_rfl) ?_ _
  have r0 := hS.1.c0
  have r1 := hS.1.c1
  have r2 := hS.2.c0
  have r3 := hS.2.c1
  have HWq := Lib.hid hwq
  have HWr := Lib.hid hwr
  have HBe := Lib.hid hbe
  clear hwq hwr hbe hS
  go_wp2
  refine bodyPost_ret (v := .tuple #[.agg #[.bool neg2, .slice A2 n2 cap2], .agg #[.bool neg3, .slice A3 n3 cap3], .int .i64 0]) (by simp [results, Tryz.results51, go_sem, r0, r1, r2, r3]) rfl ?_
  exact ⟨_, _, neg2, A2, n2, cap2, neg3, A3, n3, cap3, rfl, HWq.out, HWr.out, by rw [HX.out, HY.out]; have := quot_diff neg _ _ HVP.out HZ.out; rwa [show (!(neg == !neg)) = true from by cases neg <;> rfl] at this, HBe.out⟩

theorem DivMod_calls (w : World) (neg neg' : Bool) (A A' : Option Addr) (n n' cap cap' : Nat) (x y : Int) (ha : WD w neg A n cap x) (hb : WD w neg' A' n' cap' y) (hy : y ≠ 0) :
    Calls Tryz.prog 51 #[.agg #[.bool neg, .slice A n cap], .agg #[.bool neg', .slice A' n' cap']] w (DMPost x y w) := by
  have ha0 := ha
  have hb0 := hb
  obtain ⟨g, hcn, hn, hdg, hag, tg, hs, hx⟩ := ha
  obtain ⟨h, hcn', hn', hdh, hah, th, hs', hy'⟩ := hb
  have hy0 : n' ≠ 0 := fun e => hy (by subst e; rw [hy']; simp [Num.val])
  have hvp := Num.val_pos hdh th (by omega)
  rcases Int.lt_or_eq_of_le (Int.emod_nonneg (Num.val g n) (show Num.val h n' ≠ 0 by omega)) with hz | hz
  · by_cases e : neg' = neg
    · subst e
      exact DivMod_same w neg' A A' n n' cap cap' g h x y ha0 hb0 hn hn' hdg hdh tg th hag hah hx hy' hy0 hz
    · obtain rfl : neg' = !neg := by cases neg <;> cases neg' <;> simp_all
      exact DivMod_diff w neg A A' n n' cap cap' g h x y ha0 hb0 hn hn' hcn' hdg hdh tg th hag hah hx hy' hy0 hz
  · exact DivMod_zero w neg neg' A A' n n' cap cap' g h x y ha0 hb0 hn hn' hdg hdh tg th hag hah hx hy' hy0 hz.symm

end Go.Proofs.YtilaheplclaokaaGreatDoor
namespace Go.Proofs.YtilaheplclaokaaGreatDoor
open Go.RowKit Go.Shelf
attribute [local go_sem] Oper.semAt_some

/-- The number that a slice of limbs is. -/
def limbAt (w : World) (b off : Nat) (i : Nat) : Int := match w.cell? ⟨b, off + i, none⟩ with
  | some (.int _ x) => x
  | _ => 0
def rowNat (w : World) : Value → Nat
  | .slice (some a) n _ => (Num.val (limbAt w a.block a.off) n).toNat
  | _ => 0
theorem rowNat_eq {w : World} {A : Option Addr} {n cap : Nat} {X : Nat} (h : Row w A n cap X) : rowNat w (.slice A n cap) = X := by
  obtain ⟨g, h1, _, _, h4⟩ := h.ex
  rcases Nat.eq_zero_or_pos n with rfl | h0
  · have hX : X = 0 := by simp [Num.val] at h4; omega
    subst hX
    cases A <;> simp [rowNat, Num.val]
  · obtain ⟨b, off, rfl, _, hc⟩ := h1 h0
    have : Num.val (limbAt w b off) n = Num.val g n := Num.val_congr fun i hi => by simp [limbAt, hc i hi]
    simp [rowNat, this, h4]

theorem sg_natAbs (neg : Bool) (v : Int) (h : 0 ≤ v) : v = ((Num.sg neg * v).natAbs : Int) := by
  cases neg <;> simp only [Num.sg, if_true, Bool.false_eq_true, if_false] <;> omega

set_option maxRecDepth 100000 in
set_option maxHeartbeats 1000000 in
theorem Gcd_calls (w : World) (neg neg' : Bool) (A A' : Option Addr) (n n' cap cap' : Nat) (x y : Int) (ha : WD w neg A n cap x) (hb : WD w neg' A' n' cap' y) :
    Calls Tryz.prog 218 #[.agg #[.bool neg, .slice A n cap], .agg #[.bool neg', .slice A' n' cap']] w (NumPost ((Int.gcd x y : Nat) : Int) w) := by
  have k2 := (((Blk.new w #[.bool neg, .slice A n cap] 92).alloc (.cells #[.bool neg', .slice A' n' cap'] 92)).alloc (.cells #[.bool false, .slice none 0 0] 92)).alloc (.cells #[.bool neg, .slice A n cap, .bool neg', .slice A' n' cap'] 92)
  have k3 := ((Blk.new (w.alloc (.cells #[.bool neg, .slice A n cap] 92)) #[.bool neg', .slice A' n' cap'] 92).alloc (.cells #[.bool false, .slice none 0 0] 92)).alloc (.cells #[.bool neg, .slice A n cap, .bool neg', .slice A' n' cap'] 92)
  have k4 := (Blk.new ((w.alloc (.cells #[.bool neg, .slice A n cap] 92)).alloc (.cells #[.bool neg', .slice A' n' cap'] 92)) #[.bool false, .slice none 0 0] 92).alloc (.cells #[.bool neg, .slice A n cap, .bool neg', .slice A' n' cap'] 92)
  have k5 := Blk.new (((w.alloc (.cells #[.bool neg, .slice A n cap] 92)).alloc (.cells #[.bool neg', .slice A' n' cap'] 92)).alloc (.cells #[.bool false, .slice none 0 0] 92)) #[.bool neg, .slice A n cap, .bool neg', .slice A' n' cap'] 92
  have hb0 := ((((Below.refl w.heap.size w).alloc (Nat.le_refl _) (.cells #[.bool neg, .slice A n cap] 92)).alloc (by simp) (.cells #[.bool neg', .slice A' n' cap'] 92)).alloc (by simp; omega) (.cells #[.bool false, .slice none 0 0] 92)).alloc (by simp; omega) (.cells #[.bool neg, .slice A n cap, .bool neg', .slice A' n' cap'] 92)
  simp only [World.size_alloc] at k2 k3 k4 k5
  have K2 := Lib.hid k2
  have K3 := Lib.hid k3
  have K4 := Lib.hid k4
  have K5 := Lib.hid k5
  have HB0 := Lib.hid hb0
  have HA := Lib.hid ha
  have HB := Lib.hid hb
  clear k2 k3 k4 k5 hb0 ha hb
  go_enter Tryz.func218, Tryz.ntmps218
  go_wp2_with (first
    | (go_at_call 98; refine (check2 _ (w.heap.size + 1 + 1 + 1) 2 K5.out.lt neg neg' A A' n n' cap cap' x y (K5.out.at 0) (K5.out.at 1) (HA.out.below HB0.out) (K5.out.at 2) (K5.out.at 3) (HB.out.below HB0.out)).mono ?_; rintro e w4 ⟨rfl, hb4⟩; have hk2 := K2.out.below hb4; have hk3 := K3.out.below hb4; have hk4 := K4.out.below hb4; have hb := HB0.out.trans (hb4.mono (by (simp; omega))); have c20 := hk2.c0; have c21 := hk2.c1; have c30 := hk3.c0; have c31 := hk3.c1; have f30 := hk3.fr 0; have HK2 := Lib.hid hk2; have HK3 := Lib.hid hk3; have HK4 := Lib.hid hk4; have HBe := Lib.hid hb; have hsz := hk4.lt; clear hk2 hk3 hk4 hb hb4 K2 K3 K4 K5 HB0)
    )
  clear c20 c21 c30 c31 f30
  have hS : Blk w4.drew w.heap.size #[.bool neg, .slice A n cap] 92 ∧ Blk w4.drew (w.heap.size + 1) #[.bool neg', .slice A' n' cap'] 92 := ⟨HK2.out, HK3.out⟩
  have hbe : Below w.heap.size w w4.drew := below_drewN HBe.out 1
  have hk4 : Blk w4.drew (w.heap.size + 1 + 1) #[.bool false, .slice none 0 0] 92 := HK4.out
  clear HK2 HK3 HK4 HBe hsz
  refine wp_region_any (by kernel_rfl) ?_
  refine wpAny_of_held (S := fun W' => Blk W' w.heap.size #[.bool neg, .slice A n cap] 92 ∧ Blk W' (w.heap.size + 1) #[.bool neg', .slice A' n' cap'] 92) _ _ _ _ ?_
  refine wpAnyH_take (i := 0) (v := .pointer (some ⟨w.heap.size, 1, none⟩)) rfl (by kernel_rfl) (by kernel_rfl) (by kernel_rfl) (fun _ _ _ h => h) (.inl ⟨rfl, fun w0 hw0 => ?a0⟩) hS ?_
  case a0 =>
    obtain ⟨g2, g3⟩ := hw0; have e0 := g2.c0; have e1 := g2.c1; have e2 := g3.c0; have e3 := g3.c1
    go_simp
  refine wpAnyH_take (i := 1) (v := .slice A n cap) rfl (by kernel_rfl) (by kernel_rfl) (by kernel_rfl) (fun _ _ _ h => h) (.inl ⟨rfl, fun w0 hw0 => ?a1⟩) hS ?_
  case a1 =>
    obtain ⟨g2, g3⟩ := hw0; have e0 := g2.c0; have e1 := g2.c1; have e2 := g3.c0; have e3 := g3.c1
    go_simp
  refine wpAnyH_take (i := 3) (v := .pointer (some ⟨w.heap.size + 1, 1, none⟩)) rfl (by kernel_rfl) (by kernel_rfl) (by kernel_rfl) (fun _ _ _ h => h) (.inl ⟨rfl, fun w0 hw0 => ?a3⟩) hS ?_
  case a3 =>
    obtain ⟨g2, g3⟩ := hw0; have e0 := g2.c0; have e1 := g2.c1; have e2 := g3.c0; have e3 := g3.c1
    go_simp
  refine wpAnyH_take (i := 4) (v := .slice A' n' cap') rfl (by kernel_rfl) (by kernel_rfl) (by kernel_rfl) (fun _ _ _ h => h) (.inl ⟨rfl, fun w0 hw0 => ?a4⟩) hS ?_
  case a4 =>
    obtain ⟨g2, g3⟩ := hw0; have e0 := g2.c0; have e1 := g2.c1; have e2 := g3.c0; have e3 := g3.c1
    go_simp
  refine wpAnyH_all (rs := [2]) (by kernel_rfl) (by simp) ?_
  intro i0 hi0
  obtain rfl : i0 = 2 := by simpa using hi0
  refine wpOp_plain rfl rfl fun K' hK' => ?_
  go_simp
  generalize w4.drew = w5 at *
  obtain ⟨g, hcn, hn, hdg, hag, tg, hs, hx⟩ := HA.out.below hbe
  refine (clone_calls w5 A n cap g (by omega) hag).mono ?_
  rintro e w6 ⟨Ac, capc, rfl, hcc, hnew, hb6⟩
  have hS : Blk w6 w.heap.size #[.bool neg, .slice A n cap] 92 ∧ Blk w6 (w.heap.size + 1) #[.bool neg', .slice A' n' cap'] 92 := ⟨hS.1.below hb6, hS.2.below hb6⟩
  have hk4 := hk4.below hb6
  have hbe := hbe.trans (hb6.mono hbe.size)
  refine hK' _ _ ⟨hS, ?_⟩
  clear hK' K'
  refine wpAnyH_take (i := 5) (v := .slice Ac n capc) rfl (by kernel_rfl) (by kernel_rfl) (by kernel_rfl) (fun _ _ _ h => h) (.inl ⟨rfl, fun w0 hw0 => ?a5⟩) hS ?_
  case a5 =>
    obtain ⟨g2, g3⟩ := hw0; have e0 := g2.c0; have e1 := g2.c1; have e2 := g3.c0; have e3 := g3.c1
    go_simp
  refine wpAnyH_take (i := 6) (v := .slice A' n' cap') rfl (by kernel_rfl) (by kernel_rfl) (by kernel_rfl) (fun _ _ _ h => h) (.inl ⟨rfl, fun w0 hw0 => ?a6⟩) hS ?_
  case a6 =>
    obtain ⟨g2, g3⟩ := hw0; have e0 := g2.c0; have e1 := g2.c1; have e2 := g3.c0; have e3 := g3.c1
    go_simp
  refine wpAnyH_done (by kernel_rfl) ?_ _
  obtain ⟨h, hcn', hn', hdh, hah, th, hs', hy⟩ := HB.out.below hbe
  have hr1 : Row w6 Ac n capc (x.natAbs : Nat) := ⟨⟨g, hnew.at, hdg, tg, by rw [hx]; exact sg_natAbs neg _ (Num.val_nonneg hdg)⟩, hcc, by omega⟩
  have hr2 : Row w6 A' n' cap' (y.natAbs : Nat) := ⟨⟨h, hah, hdh, th, by rw [hy]; exact sg_natAbs neg' _ (Num.val_nonneg hdh)⟩, hcn', by omega⟩
  obtain ⟨G, hG⟩ : ∃ G : Nat, G = Int.gcd x y := ⟨_, rfl⟩
  have hG2 : Nat.gcd x.natAbs y.natAbs = G := hG.symm
  have HG0 := Lib.hid hG
  clear hG hS hnew hdg hag tg hs hx hdh hah th hs' hy hb6 HA HB
  go_wp2
  simp only [Act.put, List.getElem_toArray, List.getElem_cons_zero, List.getElem_cons_succ, List.setIfInBounds_toArray, List.set_cons_zero, List.set_cons_succ, Option.elim]
  go_loopw [7, 8] (fun u v wr => ∃ (B C : Option Addr) (k l bc cc X Y : Nat), u = .slice B k bc ∧ v = .slice C l cc ∧ k ≤ 4096 ∧ l ≤ 4096 ∧ Row wr B k bc (X : Int) ∧ Row wr C l cc (Y : Int) ∧ Nat.gcd X Y = G ∧ Below w.heap.size w wr ∧ Blk wr (w.heap.size + 1 + 1) #[.bool false, .slice none 0 0] 92) (fun _ v wr => rowNat wr v)
  case atStart => exact ⟨Ac, A', n, n', capc, cap', x.natAbs, y.natAbs, rfl, rfl, hn, hn', hr1, hr2, hG2, hbe, hk4⟩
  case round =>
    clear hr1 hr2 hbe hk4
    obtain ⟨B, C, k, l, bc, cc, X, Y, rfl, rfl, hk, hl, hrb, hrc, hgcd, hbe, hk4⟩ := hrel
    have HRb := Lib.hid hrb
    have HRc := Lib.hid hrc
    have HBe := Lib.hid hbe
    have HK4 := Lib.hid hk4
    have HGcd := Lib.hid hgcd
    have hsz := hk4.lt
    clear hrb hrc hbe hk4 hgcd
    by_cases h0 : 0 < l
    · have hli : (0 : Int) < l := by omega
      go_wp2_with (go_at_call 102; obtain ⟨g, hag, hdg, tg, hvg⟩ := HRb.out.ex; obtain ⟨h, hah, hdh, th, hvh⟩ := HRc.out.ex; refine (divide_calls _ B C k l bc cc g h h0 (by omega) (by omega) hag hah hdg hdh tg th).mono ?_; rw [hvg, hvh]; rintro e w7 ⟨Aq, nq, capq, Ar, nr, capr, rfl, hq, hr, hb7⟩; have hrr : Row w7 Ar nr capr ((X % Y : Nat) : Int) := (by rw [Int.natCast_emod]; exact hr); have HR := Lib.hid hrr; have HB7 := Lib.hid hb7; have hY : 0 < Y := (by have := Num.val_pos hdh th h0; omega); have hrl : nr ≤ l := (by obtain ⟨gr, har, hdr, htr, hvr⟩ := hrr.ex; exact Num.len_le hdr htr hdh (by rw [hvr, hvh]; have := Nat.mod_lt X hY; omega)); clear hag hdg tg hvg hah hdh th hvh hq hr hrr hb7)
      go_roundw
      case rel => exact ⟨C, Ar, l, nr, cc, capr, Y, X % Y, rfl, rfl, hl, by omega, HRc.out.below HB7.out, HR.out, by rw [← HGcd.out, Nat.gcd_comm X Y, Nat.gcd_rec Y X, Nat.gcd_comm], HBe.out.trans (HB7.out.mono HBe.out.size), HK4.out.below HB7.out⟩
      case measure => rw [rowNat_eq HR.out, rowNat_eq HRc.out]; exact Nat.mod_lt X hY
    · obtain rfl : l = 0 := by omega
      have hY0 : Y = 0 := by
        obtain ⟨h, _, _, _, hvh⟩ := HRc.out.ex
        simp [Num.val] at hvh
        omega
      subst hY0
      rw [Nat.gcd_zero_right] at HGcd
      have HX : Hid (((Int.gcd x y : Nat) : Int) = (X : Int)) := Lib.hid (by rw [← HG0.out, HGcd.out])
      obtain ⟨g, hag, hdg, tg, hvg⟩ := HRb.out.ex
      have HAg := Lib.hid hag
      have HDg := Lib.hid hdg
      have HVg := Lib.hid hvg
      have hcap := HRb.out.cap
      clear hag hdg tg hvg HRb HRc HGcd
      go_wp2_with (first
        | (go_at_call 146; refine (clone_calls _ B k bc g (by omega) HAg.out).mono ?_; rintro e w6 ⟨Ab, capb, rfl, hcb, hnew, hb6⟩; have HK4c := Lib.hid (HK4.out.below hb6); have HBc := Lib.hid (HBe.out.trans (hb6.mono HBe.out.size)); have HNw := Lib.hid hnew; clear hnew hb6 HK4 HBe)
        | (go_at_call 99; refine (made_calls _ false Ab k capb g HDg.out hcb (by omega) HNw.out.at).mono ?_; rw [HVg.out, show Num.sg false * (X : Int) = (X : Int) from Int.one_mul _]; rintro e w7 ⟨v, rfl, hwid, hb7⟩; obtain ⟨neg2, A2, n2, cap2, rfl, hwd⟩ := hwid; have hk4 := HK4c.out.below hb7; have f0 := hk4.c0; have f1 := hk4.c1; have f2 := hk4.fr 0; have f3 := hk4.fr 1; have HK4' := Lib.hid hk4; have HWd := Lib.hid hwd; have HB5 := Lib.hid (HBc.out.trans (hb7.mono HBc.out.size)); clear hk4 hwd hb7)
        )
      have h8 := HK4'.out.set2 (.bool neg2) (.slice A2 n2 cap2)
      have r0 := h8.c0
      have r1 := h8.c1
      refine bodyPost_ret (v := .tuple #[.agg #[.bool neg2, .slice A2 n2 cap2], .int .i64 (Num.ferr (X : Int))]) (by simp [results, Tryz.results218, go_sem, r0, r1]) rfl ?_
      rw [HX.out]
      exact ⟨_, rfl, ⟨neg2, A2, n2, cap2, rfl, HWd.out.set2 HK4'.out _ _⟩, below_set2 HB5.out (w.heap.size + 1 + 1) (by omega) _ _⟩

end Go.Proofs.YtilaheplclaokaaGreatDoor
namespace Go.Proofs.YtilaheplclaokaaGreatDoor
open Go.RowKit Go.Shelf

/-- What an int64 holds. -/
def in64 (x : Int) : Bool := decide (-9223372036854775808 ≤ x ∧ x < 9223372036854775808)
def int64Z (x : Int) : Int := if in64 x then x else 0
def int64E (x : Int) : Int := if in64 x then 0 else 16
theorem int64Z_of {x : Int} (h : in64 x = true) : int64Z x = x := by simp [int64Z, h]
theorem int64E_of {x : Int} (h : in64 x = true) : int64E x = 0 := by simp [int64E, h]
theorem int64Z_not {x : Int} (h : in64 x = false) : int64Z x = 0 := by simp [int64Z, h]
theorem int64E_not {x : Int} (h : in64 x = false) : int64E x = 16 := by simp [int64E, h]
theorem P_two : Num.P 2 = 18446744073709551616 := by simp [Num.P_succ, Num.P_zero, Num.B_eq]

set_option maxRecDepth 100000 in
set_option maxHeartbeats 1000000 in
theorem Int_long (w : World) (neg : Bool) (A : Option Addr) (n cap : Nat) (x : Int) (ha : WD w neg A n cap x) (hn : 2 < n) :
    Calls Tryz.prog 52 #[.agg #[.bool neg, .slice A n cap]] w (OkPost (.tuple #[.int .i64 0, .int .i64 16]) w) := by
  have hni : (2 : Int) < n := by omega
  have k2 := (Blk.new w #[.bool neg, .slice A n cap] 92).alloc (.cells #[.bool neg, .slice A n cap] 92)
  have k5 := Blk.new (w.alloc (.cells #[.bool neg, .slice A n cap] 92)) #[.bool neg, .slice A n cap] 92
  have hb0 := ((Below.refl w.heap.size w).alloc (Nat.le_refl _) (.cells #[.bool neg, .slice A n cap] 92)).alloc (by simp) (.cells #[.bool neg, .slice A n cap] 92)
  simp only [World.size_alloc] at k2 k5
  have K2 := Lib.hid k2
  have K5 := Lib.hid k5
  have HB0 := Lib.hid hb0
  have HA := Lib.hid ha
  clear k2 k5 hb0 ha
  go_enter Tryz.func52, Tryz.ntmps52
  go_wp2_with (go_at_call 98; refine (check1 _ (w.heap.size + 1) 1 K5.out.lt neg A n cap x K5.out.c0 K5.out.c1 (HA.out.below HB0.out)).mono ?_; rintro e w4 ⟨rfl, hb4⟩; have hk2 := K2.out.below hb4; have hb := HB0.out.trans (hb4.mono (by (simp; omega))); have c20 := hk2.c0; have c21 := hk2.c1; have HBe := Lib.hid hb; have hsz := hk2.lt; clear hk2 hb hb4 K2 K5 HB0)
  go_ret2
  exact ⟨rfl, HBe.out⟩

set_option maxRecDepth 100000 in
set_option maxHeartbeats 1000000 in
theorem Int_short (w : World) (neg : Bool) (A : Option Addr) (n cap : Nat) (x : Int) (ha : WD w neg A n cap x) (hn : n ≤ 2) :
    Calls Tryz.prog 52 #[.agg #[.bool neg, .slice A n cap]] w (OkPost (.tuple #[.int .i64 (int64Z x), .int .i64 (int64E x)]) w) := by
  have hni : ¬ (2 : Int) < n := by omega
  obtain ⟨g, hcn, _, hdg, hag0, tg, hs, hx⟩ := id ha
  have hu0 := Num.val_nonneg hdg
  have hu1 : Num.val g n < 18446744073709551616 := by have := Num.val_lt hdg; have := Num.P_mono hn; rw [P_two] at this; omega
  have HAg := Lib.hid hag0
  have HDg := Lib.hid hdg
  clear hdg hag0 tg hs
  obtain ⟨u, hu⟩ : ∃ u, u = Num.val g n := ⟨_, rfl⟩
  rw [← hu] at hu0 hu1 hx
  have HU := Lib.hid hu
  clear hu
  have hval : in64 x = true ∨ in64 x = false := by cases in64 x <;> simp
  have k2 := (Blk.new w #[.bool neg, .slice A n cap] 92).alloc (.cells #[.bool neg, .slice A n cap] 92)
  have k5 := Blk.new (w.alloc (.cells #[.bool neg, .slice A n cap] 92)) #[.bool neg, .slice A n cap] 92
  have hb0 := ((Below.refl w.heap.size w).alloc (Nat.le_refl _) (.cells #[.bool neg, .slice A n cap] 92)).alloc (by simp) (.cells #[.bool neg, .slice A n cap] 92)
  simp only [World.size_alloc] at k2 k5
  have K2 := Lib.hid k2
  have K5 := Lib.hid k5
  have HB0 := Lib.hid hb0
  have HA := Lib.hid ha
  clear k2 k5 hb0 ha
  go_enter Tryz.func52, Tryz.ntmps52
  go_wp2_with (go_at_call 98; refine (check1 _ (w.heap.size + 1) 1 K5.out.lt neg A n cap x K5.out.c0 K5.out.c1 (HA.out.below HB0.out)).mono ?_; rintro e w4 ⟨rfl, hb4⟩; have hk2 := K2.out.below hb4; have hb := HB0.out.trans (hb4.mono (by (simp; omega))); have c20 := hk2.c0; have c21 := hk2.c1; have HBe := Lib.hid hb; have hsz := hk2.lt; clear hk2 hb hb4 K2 K5 HB0)
  go_loop [5, 21] (fun c i => ∃ k : Nat, k ≤ n ∧ c = .int .u64 (Num.val g k) ∧ i = .int .i64 k) (fun _ i => n - (intOf i).toNat)
  case atStart => exact ⟨0, Nat.zero_le _, rfl, rfl⟩
  case round =>
    obtain ⟨k, hk, rfl, rfl⟩ := hrel
    by_cases hlt : k < n
    · obtain ⟨ab, ao, rfl, hab, hcell⟩ := HAg.out (by omega)
      have hxk : w4.cell? ⟨ab, ao + k, none⟩ = some (.int .u32 (g k)) := (HBe.out.cell (p := ⟨ab, ao + k, none⟩) hab).trans (hcell k hlt)
      have hgk := HDg.out k hlt
      clear hcell
      have hk01 : k = 0 ∨ k = 1 := by omega
      rcases hk01 with rfl | rfl
      · rw [Nat.add_zero] at hxk
        rw [show Num.val g 0 = 0 from rfl]
        have HV1 : Hid (Num.val g (0 + 1) = g 0) := Lib.hid (by simp [Num.val, Num.P_zero])
        generalize g 0 = z at *
        have hor : bits BinOp.or IntKind.u64 0 z = z := by rw [u64_or _ _ (by omega) (by omega) hgk.1 (by omega)]; simp; omega
        go_wp2
        go_round
        case rel => exact ⟨0 + 1, hlt, by rw [HV1.out], by go_num⟩
        case measure => simp [intOf]; omega
      · have HV1 : Hid (Num.val g (1 + 1) = g 1 * 4294967296 + g 0) := Lib.hid (by simp [Num.val, Num.P_zero, Num.P_succ, Num.B_eq]; omega)
        rw [show Num.val g 1 = g 0 from by simp [Num.val, Num.P_zero]]
        have hg0 := HDg.out 0 (by omega)
        generalize g 0 = y at *
        generalize g 1 = z at *
        have hor : bits BinOp.or IntKind.u64 y (z * 4294967296) = z * 4294967296 + y := by
          have := u64_join z y hgk.1 hgk.2 hg0.1 hg0.2
          rw [u64_or _ _ (by omega) (by omega) hg0.1 (by omega)] at this
          rw [u64_or _ _ hg0.1 (by omega) (by omega) (by omega), Nat.or_comm]
          exact this
        go_wp2
        go_round
        case rel => exact ⟨1 + 1, hlt, by rw [HV1.out], by go_num⟩
        case measure => simp [intOf]; omega
    · obtain rfl : k = n := by omega
      rw [← HU.out]
      have HXe := Lib.hid hx
      clear hval HU hx hlt
      cases neg
      · have hxu : x = u := by rw [HXe.out]; exact Int.one_mul u
        subst hxu
        by_cases h1 : x < 9223372036854775808
        · have h2 : in64 x = true := by simp [in64]; omega
          have H2 := Lib.hid h2
          clear h2
          go_wp2
          go_ret2
          rw [int64Z_of H2.out, int64E_of H2.out]
          exact ⟨rfl, HBe.out⟩
        · have h2 : in64 x = false := by simp [in64]; omega
          have H2 := Lib.hid h2
          clear h2
          go_wp2
          go_ret2
          rw [int64Z_not H2.out, int64E_not H2.out]
          exact ⟨rfl, HBe.out⟩
      · have hxu : x = -u := by rw [HXe.out]; simp [Num.sg]
        subst hxu
        by_cases h1 : u ≤ 9223372036854775808
        · have h2 : in64 (-u) = true := by simp [in64]; omega
          have H2 := Lib.hid h2
          have hw : wrap64 (IntKind.u64.wrap (-u)) = -u := by rw [IntKind.wrap_u64]; unfold wrap64; omega
          clear h2
          go_wp2
          go_ret2
          rw [int64Z_of H2.out, int64E_of H2.out]
          exact ⟨rfl, HBe.out⟩
        · have h2 : in64 (-u) = false := by simp [in64]; omega
          have H2 := Lib.hid h2
          clear h2
          go_wp2
          go_ret2
          rw [int64Z_not H2.out, int64E_not H2.out]
          exact ⟨rfl, HBe.out⟩

theorem Int_calls (w : World) (neg : Bool) (A : Option Addr) (n cap : Nat) (x : Int) (ha : WD w neg A n cap x) :
    Calls Tryz.prog 52 #[.agg #[.bool neg, .slice A n cap]] w (OkPost (.tuple #[.int .i64 (int64Z x), .int .i64 (int64E x)]) w) := by
  rcases Nat.lt_or_ge 2 n with h | h
  · have h2 : in64 x = false := by
      obtain ⟨g, _, _, hdg, _, tg, _, rfl⟩ := ha
      obtain ⟨m, rfl⟩ : ∃ m, n = m + 1 := ⟨n - 1, by omega⟩
      have h3 := Num.val_ge hdg (tg m rfl)
      have h4 := Num.P_mono (show 2 ≤ m by omega)
      rw [P_two] at h4
      have h5 := Num.sg_abs neg _ (Num.val_nonneg hdg)
      simp [in64]
      omega
    rw [int64Z_not h2, int64E_not h2]
    exact Int_long w neg A n cap x ha h
  · exact Int_short w neg A n cap x ha h

end Go.Proofs.YtilaheplclaokaaGreatDoor
namespace Go.Proofs.YtilaheplclaokaaGreatDoor
open Go.RowKit Go.Shelf

set_option maxRecDepth 100000 in
set_option maxHeartbeats 1000000 in
theorem tadd_calls (w : World) (neg neg' : Bool) (A A' : Option Addr) (n n' cap cap' : Nat) (x y : Int) (ha : WD w neg A n cap x) (hb : WD w neg' A' n' cap' y) :
    Calls Tryz.prog 232 #[.agg #[.bool neg, .slice A n cap], .agg #[.bool neg', .slice A' n' cap']] w (WidPost (Num.fit (x + y)) w) := by
  have k2 := ((Blk.new w #[.bool neg, .slice A n cap] 92).alloc (.cells #[.bool neg', .slice A' n' cap'] 92)).alloc (.cells #[.bool false, .slice none 0 0] 92)
  have k3 := (Blk.new (w.alloc (.cells #[.bool neg, .slice A n cap] 92)) #[.bool neg', .slice A' n' cap'] 92).alloc (.cells #[.bool false, .slice none 0 0] 92)
  have k4 := Blk.new ((w.alloc (.cells #[.bool neg, .slice A n cap] 92)).alloc (.cells #[.bool neg', .slice A' n' cap'] 92)) #[.bool false, .slice none 0 0] 92
  have hb0 := (((Below.refl w.heap.size w).alloc (Nat.le_refl _) (.cells #[.bool neg, .slice A n cap] 92)).alloc (by simp) (.cells #[.bool neg', .slice A' n' cap'] 92)).alloc (by simp; omega) (.cells #[.bool false, .slice none 0 0] 92)
  simp only [World.size_alloc] at k2 k3 k4
  have K4 := Lib.hid k4
  have HB0 := Lib.hid hb0
  have HA := Lib.hid ha
  have HB := Lib.hid hb
  clear k2 k3 k4 hb0 ha hb
  go_enter Tryz.func232, Tryz.ntmps232
  go_wp2_with (go_at_call 50; refine (Add_calls _ neg neg' A A' n n' cap cap' x y (HA.out.below HB0.out) (HB.out.below HB0.out)).mono ?_; rintro e w5 ⟨v, rfl, hwid, hb5⟩; obtain ⟨neg2, A2, n2, cap2, rfl, hwd⟩ := hwid; have hk4 := K4.out.below hb5; have f0 := hk4.c0; have f1 := hk4.c1; have f2 := hk4.fr 0; have f3 := hk4.fr 1; have hlt := hk4.lt; have HK4' := Lib.hid hk4; have HWd := Lib.hid hwd; have HB5 := Lib.hid (HB0.out.trans (hb5.mono (by (simp; omega)))); clear hk4 hwd hb5 HA HB K4 HB0)
  have h8 := HK4'.out.set2 (.bool neg2) (.slice A2 n2 cap2)
  have hwd8 := HWd.out.set2 HK4'.out (.bool neg2) (.slice A2 n2 cap2)
  have hb8 := below_set2 HB5.out (w.heap.size + 1 + 1) (by omega) (.bool neg2) (.slice A2 n2 cap2)
  have h9 := h8.alloc (.cells #[.bool neg2, .slice A2 n2 cap2] 92)
  have r0 := h9.c0
  have r1 := h9.c1
  refine bodyPost_ret (v := .agg #[.bool neg2, .slice A2 n2 cap2]) (by simp [results, Tryz.results232, go_sem, r0, r1]) rfl ?_
  exact ⟨neg2, A2, n2, cap2, rfl, hwd8.below ((Below.refl _ _).alloc (Nat.le_refl _) _), hb8.alloc hb8.size _⟩

set_option maxRecDepth 100000 in
set_option maxHeartbeats 1000000 in
theorem tsub_calls (w : World) (neg neg' : Bool) (A A' : Option Addr) (n n' cap cap' : Nat) (x y : Int) (ha : WD w neg A n cap x) (hb : WD w neg' A' n' cap' y) :
    Calls Tryz.prog 233 #[.agg #[.bool neg, .slice A n cap], .agg #[.bool neg', .slice A' n' cap']] w (WidPost (Num.fit (x - y)) w) := by
  have k2 := ((Blk.new w #[.bool neg, .slice A n cap] 92).alloc (.cells #[.bool neg', .slice A' n' cap'] 92)).alloc (.cells #[.bool false, .slice none 0 0] 92)
  have k3 := (Blk.new (w.alloc (.cells #[.bool neg, .slice A n cap] 92)) #[.bool neg', .slice A' n' cap'] 92).alloc (.cells #[.bool false, .slice none 0 0] 92)
  have k4 := Blk.new ((w.alloc (.cells #[.bool neg, .slice A n cap] 92)).alloc (.cells #[.bool neg', .slice A' n' cap'] 92)) #[.bool false, .slice none 0 0] 92
  have hb0 := (((Below.refl w.heap.size w).alloc (Nat.le_refl _) (.cells #[.bool neg, .slice A n cap] 92)).alloc (by simp) (.cells #[.bool neg', .slice A' n' cap'] 92)).alloc (by simp; omega) (.cells #[.bool false, .slice none 0 0] 92)
  simp only [World.size_alloc] at k2 k3 k4
  have K4 := Lib.hid k4
  have HB0 := Lib.hid hb0
  have HA := Lib.hid ha
  have HB := Lib.hid hb
  clear k2 k3 k4 hb0 ha hb
  go_enter Tryz.func233, Tryz.ntmps233
  go_wp2_with (go_at_call 192; refine (Sub_calls _ neg neg' A A' n n' cap cap' x y (HA.out.below HB0.out) (HB.out.below HB0.out)).mono ?_; rintro e w5 ⟨v, rfl, hwid, hb5⟩; obtain ⟨neg2, A2, n2, cap2, rfl, hwd⟩ := hwid; have hk4 := K4.out.below hb5; have f0 := hk4.c0; have f1 := hk4.c1; have f2 := hk4.fr 0; have f3 := hk4.fr 1; have hlt := hk4.lt; have HK4' := Lib.hid hk4; have HWd := Lib.hid hwd; have HB5 := Lib.hid (HB0.out.trans (hb5.mono (by (simp; omega)))); clear hk4 hwd hb5 HA HB K4 HB0)
  have h8 := HK4'.out.set2 (.bool neg2) (.slice A2 n2 cap2)
  have hwd8 := HWd.out.set2 HK4'.out (.bool neg2) (.slice A2 n2 cap2)
  have hb8 := below_set2 HB5.out (w.heap.size + 1 + 1) (by omega) (.bool neg2) (.slice A2 n2 cap2)
  have h9 := h8.alloc (.cells #[.bool neg2, .slice A2 n2 cap2] 92)
  have r0 := h9.c0
  have r1 := h9.c1
  refine bodyPost_ret (v := .agg #[.bool neg2, .slice A2 n2 cap2]) (by simp [results, Tryz.results233, go_sem, r0, r1]) rfl ?_
  exact ⟨neg2, A2, n2, cap2, rfl, hwd8.below ((Below.refl _ _).alloc (Nat.le_refl _) _), hb8.alloc hb8.size _⟩

set_option maxRecDepth 100000 in
set_option maxHeartbeats 1000000 in
theorem tmul_calls (w : World) (neg neg' : Bool) (A A' : Option Addr) (n n' cap cap' : Nat) (x y : Int) (ha : WD w neg A n cap x) (hb : WD w neg' A' n' cap' y) :
    Calls Tryz.prog 208 #[.agg #[.bool neg, .slice A n cap], .agg #[.bool neg', .slice A' n' cap']] w (WidPost (Num.fit (x * y)) w) := by
  have k2 := ((Blk.new w #[.bool neg, .slice A n cap] 92).alloc (.cells #[.bool neg', .slice A' n' cap'] 92)).alloc (.cells #[.bool false, .slice none 0 0] 92)
  have k3 := (Blk.new (w.alloc (.cells #[.bool neg, .slice A n cap] 92)) #[.bool neg', .slice A' n' cap'] 92).alloc (.cells #[.bool false, .slice none 0 0] 92)
  have k4 := Blk.new ((w.alloc (.cells #[.bool neg, .slice A n cap] 92)).alloc (.cells #[.bool neg', .slice A' n' cap'] 92)) #[.bool false, .slice none 0 0] 92
  have hb0 := (((Below.refl w.heap.size w).alloc (Nat.le_refl _) (.cells #[.bool neg, .slice A n cap] 92)).alloc (by simp) (.cells #[.bool neg', .slice A' n' cap'] 92)).alloc (by simp; omega) (.cells #[.bool false, .slice none 0 0] 92)
  simp only [World.size_alloc] at k2 k3 k4
  have K4 := Lib.hid k4
  have HB0 := Lib.hid hb0
  have HA := Lib.hid ha
  have HB := Lib.hid hb
  clear k2 k3 k4 hb0 ha hb
  go_enter Tryz.func208, Tryz.ntmps208
  go_wp2_with (go_at_call 48; refine (Mul_calls _ neg neg' A A' n n' cap cap' x y (HA.out.below HB0.out) (HB.out.below HB0.out)).mono ?_; rintro e w5 ⟨v, rfl, hwid, hb5⟩; obtain ⟨neg2, A2, n2, cap2, rfl, hwd⟩ := hwid; have hk4 := K4.out.below hb5; have f0 := hk4.c0; have f1 := hk4.c1; have f2 := hk4.fr 0; have f3 := hk4.fr 1; have hlt := hk4.lt; have HK4' := Lib.hid hk4; have HWd := Lib.hid hwd; have HB5 := Lib.hid (HB0.out.trans (hb5.mono (by (simp; omega)))); clear hk4 hwd hb5 HA HB K4 HB0)
  have h8 := HK4'.out.set2 (.bool neg2) (.slice A2 n2 cap2)
  have hwd8 := HWd.out.set2 HK4'.out (.bool neg2) (.slice A2 n2 cap2)
  have hb8 := below_set2 HB5.out (w.heap.size + 1 + 1) (by omega) (.bool neg2) (.slice A2 n2 cap2)
  have h9 := h8.alloc (.cells #[.bool neg2, .slice A2 n2 cap2] 92)
  have r0 := h9.c0
  have r1 := h9.c1
  refine bodyPost_ret (v := .agg #[.bool neg2, .slice A2 n2 cap2]) (by simp [results, Tryz.results208, go_sem, r0, r1]) rfl ?_
  exact ⟨neg2, A2, n2, cap2, rfl, hwd8.below ((Below.refl _ _).alloc (Nat.le_refl _) _), hb8.alloc hb8.size _⟩

set_option maxRecDepth 100000 in
set_option maxHeartbeats 1000000 in
theorem num_calls (w : World) (x : Int) (h0 : -9223372036854775808 ≤ x) (h1 : x < 9223372036854775808) :
    Calls Tryz.prog 209 #[.int .i64 x] w (WidPost x w) := by
  have K4 := Lib.hid (Blk.new w #[.bool false, .slice none 0 0] 92)
  have HB0 := Lib.hid ((Below.refl w.heap.size w).alloc (Nat.le_refl _) (.cells #[.bool false, .slice none 0 0] 92))
  go_enter Tryz.func209, Tryz.ntmps209
  go_wp2_with (go_at_call 49; refine (From_calls _ x h0 h1).mono ?_; rintro e w5 ⟨neg2, A2, n2, cap2, rfl, hwd, hb5⟩; have hk4 := K4.out.below hb5; have f0 := hk4.c0; have f1 := hk4.c1; have f2 := hk4.fr 0; have f3 := hk4.fr 1; have HK4' := Lib.hid hk4; have HWd := Lib.hid hwd; have HB5 := Lib.hid (HB0.out.trans (hb5.mono (by simp))); clear hk4 hwd hb5 K4 HB0)
  have h8 := HK4'.out.set2 (.bool neg2) (.slice A2 n2 cap2)
  have r0 := h8.c0
  have r1 := h8.c1
  refine bodyPost_ret (v := .agg #[.bool neg2, .slice A2 n2 cap2]) (by simp [results, Tryz.results209, go_sem, r0, r1]) rfl ?_
  exact ⟨neg2, A2, n2, cap2, rfl, HWd.out.set2 HK4'.out _ _, below_set2 HB5.out w.heap.size (Nat.le_refl _) _ _⟩

/-- What trig's shift gives: 0 where package wide's shift refuses. -/
def shiftF (x k : Int) : Int := if -131072 ≤ k ∧ k ≤ 131072 then Num.fit (shiftZ x k) else 0

set_option maxRecDepth 100000 in
set_option maxHeartbeats 1000000 in
theorem tshift_near (w : World) (neg : Bool) (A : Option Addr) (n cap : Nat) (x k : Int) (ha : WD w neg A n cap x) (hk : -131072 ≤ k ∧ k ≤ 131072) :
    Calls Tryz.prog 234 #[.agg #[.bool neg, .slice A n cap], .int .i64 k] w (WidPost (Num.fit (shiftZ x k)) w) := by
  have k4 := Blk.new (w.alloc (.cells #[.bool neg, .slice A n cap] 92)) #[.bool false, .slice none 0 0] 92
  have hb0 := ((Below.refl w.heap.size w).alloc (Nat.le_refl _) (.cells #[.bool neg, .slice A n cap] 92)).alloc (by simp) (.cells #[.bool false, .slice none 0 0] 92)
  simp only [World.size_alloc] at k4
  have K4 := Lib.hid k4
  have HB0 := Lib.hid hb0
  have HA := Lib.hid ha
  clear k4 hb0 ha
  go_enter Tryz.func234, Tryz.ntmps234
  go_wp2_with (go_at_call 252; refine (Shift_calls _ neg A n cap x k (HA.out.below HB0.out) hk).mono ?_; rintro e w5 ⟨v, rfl, hwid, hb5⟩; obtain ⟨neg2, A2, n2, cap2, rfl, hwd⟩ := hwid; have hk4 := K4.out.below hb5; have f0 := hk4.c0; have f1 := hk4.c1; have f2 := hk4.fr 0; have f3 := hk4.fr 1; have hlt := hk4.lt; have HK4' := Lib.hid hk4; have HWd := Lib.hid hwd; have HB5 := Lib.hid (HB0.out.trans (hb5.mono (by (simp; omega)))); clear hk4 hwd hb5 HA K4 HB0)
  have h8 := HK4'.out.set2 (.bool neg2) (.slice A2 n2 cap2)
  have hwd8 := HWd.out.set2 HK4'.out (.bool neg2) (.slice A2 n2 cap2)
  have hb8 := below_set2 HB5.out (w.heap.size + 1) (by omega) (.bool neg2) (.slice A2 n2 cap2)
  have h9 := h8.alloc (.cells #[.bool neg2, .slice A2 n2 cap2] 92)
  have r0 := h9.c0
  have r1 := h9.c1
  refine bodyPost_ret (v := .agg #[.bool neg2, .slice A2 n2 cap2]) (by simp [results, Tryz.results234, go_sem, r0, r1]) rfl ?_
  exact ⟨neg2, A2, n2, cap2, rfl, hwd8.below ((Below.refl _ _).alloc (Nat.le_refl _) _), hb8.alloc hb8.size _⟩

set_option maxRecDepth 100000 in
set_option maxHeartbeats 1000000 in
theorem tshift_far (w : World) (neg : Bool) (A : Option Addr) (n cap : Nat) (x k : Int) (ha : WD w neg A n cap x) (hk : k < -131072 ∨ 131072 < k) :
    Calls Tryz.prog 234 #[.agg #[.bool neg, .slice A n cap], .int .i64 k] w (WidPost 0 w) := by
  have k4 := Blk.new (w.alloc (.cells #[.bool neg, .slice A n cap] 92)) #[.bool false, .slice none 0 0] 92
  have hb0 := ((Below.refl w.heap.size w).alloc (Nat.le_refl _) (.cells #[.bool neg, .slice A n cap] 92)).alloc (by simp) (.cells #[.bool false, .slice none 0 0] 92)
  simp only [World.size_alloc] at k4
  have K4 := Lib.hid k4
  have HB0 := Lib.hid hb0
  have HA := Lib.hid ha
  clear k4 hb0 ha
  go_enter Tryz.func234, Tryz.ntmps234
  go_wp2_with (go_at_call 252; refine (Shift_far _ neg A n cap x k (HA.out.below HB0.out) hk).mono ?_; rintro e w5 ⟨rfl, hb5⟩; have hk4 := K4.out.below hb5; have f0 := hk4.c0; have f1 := hk4.c1; have f2 := hk4.fr 0; have f3 := hk4.fr 1; have hlt := hk4.lt; have HK4' := Lib.hid hk4; have HB5 := Lib.hid (HB0.out.trans (hb5.mono (by (simp; omega)))); clear hk4 hb5 HA K4 HB0)
  have h8 := HK4'.out.set2 (.bool false) (.slice none 0 0)
  have hb8 := below_set2 HB5.out (w.heap.size + 1) (by omega) (.bool false) (.slice none 0 0)
  have h9 := h8.alloc (.cells #[.bool false, .slice none 0 0] 92)
  have r0 := h9.c0
  have r1 := h9.c1
  refine bodyPost_ret (v := .agg #[.bool false, .slice none 0 0]) (by simp [results, Tryz.results234, go_sem, r0, r1]) rfl ?_
  exact ⟨false, none, 0, 0, rfl, WD.zero _, hb8.alloc hb8.size _⟩

theorem tshift_calls (w : World) (neg : Bool) (A : Option Addr) (n cap : Nat) (x k : Int) (ha : WD w neg A n cap x) :
    Calls Tryz.prog 234 #[.agg #[.bool neg, .slice A n cap], .int .i64 k] w (WidPost (shiftF x k) w) := by
  unfold shiftF
  split
  · rename_i h
    exact tshift_near w neg A n cap x k ha h
  · rename_i h
    exact tshift_far w neg A n cap x k ha (by omega)

set_option maxRecDepth 100000 in
set_option maxHeartbeats 1000000 in
theorem tsign_calls (w : World) (neg : Bool) (A : Option Addr) (n cap : Nat) (x : Int) (ha : WD w neg A n cap x) :
    Calls Tryz.prog 235 #[.agg #[.bool neg, .slice A n cap]] w (OkPost (.int .i64 (cmpZ x 0)) w) := by
  have HB0 := Lib.hid ((Below.refl w.heap.size w).alloc (Nat.le_refl _) (.cells #[.bool neg, .slice A n cap] 92))
  have HA := Lib.hid ha
  clear ha
  go_enter Tryz.func235, Tryz.ntmps235
  go_wp2_with (go_at_call 173; refine (Sign_calls _ neg A n cap x (HA.out.below HB0.out)).mono ?_; rintro e w5 ⟨rfl, hb5⟩; have HB5 := Lib.hid (HB0.out.trans (hb5.mono (by simp))); clear hb5)
  go_ret
  exact ⟨rfl, HB5.out⟩

theorem quot_floor {x y q r : Int} (hy : 0 < y) (h : QuotRem x y q r) : q = x / y := by
  have h1 := h.2.1 hy
  have := (Int.ediv_emod_unique (a := x) (b := y) (r := r) (q := q) hy).2 ⟨by have := h.1; omega, h1.1, h1.2⟩
  exact this.1.symm

set_option maxRecDepth 100000 in
set_option maxHeartbeats 1000000 in
theorem tdiv_calls (w : World) (neg neg' : Bool) (A A' : Option Addr) (n n' cap cap' : Nat) (x y : Int) (ha : WD w neg A n cap x) (hb : WD w neg' A' n' cap' y) (hy : 0 < y) :
    Calls Tryz.prog 207 #[.agg #[.bool neg, .slice A n cap], .agg #[.bool neg', .slice A' n' cap']] w (WidPost (x / y) w) := by
  have k4 := Blk.new ((w.alloc (.cells #[.bool neg, .slice A n cap] 92)).alloc (.cells #[.bool neg', .slice A' n' cap'] 92)) #[.bool false, .slice none 0 0] 92
  have hb0 := (((Below.refl w.heap.size w).alloc (Nat.le_refl _) (.cells #[.bool neg, .slice A n cap] 92)).alloc (by simp) (.cells #[.bool neg', .slice A' n' cap'] 92)).alloc (by simp; omega) (.cells #[.bool false, .slice none 0 0] 92)
  simp only [World.size_alloc] at k4
  have K4 := Lib.hid k4
  have HB0 := Lib.hid hb0
  have HA := Lib.hid ha
  have HB := Lib.hid hb
  clear k4 hb0 ha hb
  go_enter Tryz.func207, Tryz.ntmps207
  go_wp2_with (go_at_call 51; refine (DivMod_calls _ neg neg' A A' n n' cap cap' x y (HA.out.below HB0.out) (HB.out.below HB0.out) (by omega)).mono ?_; rintro e w5 ⟨q, r, neg2, A2, n2, cap2, neg3, A3, n3, cap3, rfl, hwd, _, hqr, hb5⟩; obtain rfl := quot_floor hy hqr; have hk4 := K4.out.below hb5; have f0 := hk4.c0; have f1 := hk4.c1; have f2 := hk4.fr 0; have f3 := hk4.fr 1; have hlt := hk4.lt; have hlt2 : w.heap.size + 1 + 1 < w5.heap.size + 1 := Nat.lt_succ_of_lt hlt; have HK4' := Lib.hid hk4; have HWd := Lib.hid hwd; have HB5 := Lib.hid (HB0.out.trans (hb5.mono (by (simp; omega)))); clear hk4 hwd hb5 HA HB K4 HB0 hqr)
  have h8 := HK4'.out.set2 (.bool neg2) (.slice A2 n2 cap2)
  have hwd8 := HWd.out.set2 HK4'.out (.bool neg2) (.slice A2 n2 cap2)
  have hb8 := below_set2 HB5.out (w.heap.size + 1 + 1) (by omega) (.bool neg2) (.slice A2 n2 cap2)
  have h9 := (h8.alloc (.cells #[.bool neg2, .slice A2 n2 cap2] 92)).alloc (.cells #[.bool neg3, .slice A3 n3 cap3] 92)
  have hb9 := (hb8.alloc hb8.size (.cells #[.bool neg2, .slice A2 n2 cap2] 92)).alloc (by have := hb8.size; simp; simp at this; omega) (.cells #[.bool neg3, .slice A3 n3 cap3] 92)
  have r0 := h9.c0
  have r1 := h9.c1
  refine bodyPost_ret (v := .agg #[.bool neg2, .slice A2 n2 cap2]) (by simp [results, Tryz.results207, go_sem, r0, r1]) rfl ?_
  exact ⟨neg2, A2, n2, cap2, rfl, (hwd8.below ((Below.refl _ _).alloc (Nat.le_refl _) _)).below ((Below.refl _ _).alloc (Nat.le_refl _) _), hb9⟩

end Go.Proofs.YtilaheplclaokaaGreatDoor

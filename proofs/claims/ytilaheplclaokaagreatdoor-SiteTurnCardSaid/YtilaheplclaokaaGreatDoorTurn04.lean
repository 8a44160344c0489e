/-
Walks of the functions of package wide that add, as they are called from outside: Add, Sub.
Walks of the functions of package wide that compare and convert: From, Check, to, Cmp, Sign.
Walks of the functions of package wide that shift: Shift.
-/
import Derived.Test.YtilaheplclaokaaGreatDoorTurn03
set_option linter.unusedVariables false
set_option linter.unusedSimpArgs false
namespace Go.Proofs.YtilaheplclaokaaGreatDoor
open Go.RowKit Go.Shelf
attribute [local go_sem] Oper.semAt_some

set_option maxRecDepth 100000 in
set_option maxHeartbeats 1000000 in
theorem Add_calls (w : World) (neg neg' : Bool) (A A' : Option Addr) (n n' cap cap' : Nat) (x y : Int) (ha : WD w neg A n cap x) (hb : WD w neg' A' n' cap' y) :
    Calls Tryz.prog 50 #[.agg #[.bool neg, .slice A n cap], .agg #[.bool neg', .slice A' n' cap']] w (NumPost (x + y) w) := by
  have k2 := (((Blk.new w #[.bool neg, .slice A n cap] 92).alloc (.cells #[.bool neg', .slice A' n' cap'] 92)).alloc (.cells #[.bool false, .slice none 0 0] 92)).alloc (.cells #[.bool neg, .slice A n cap, .bool neg', .slice A' n' cap'] 92)
  have k3 := ((Blk.new (w.alloc (.cells #[.bool neg, .slice A n cap] 92)) #[.bool neg', .slice A' n' cap'] 92).alloc (.cells #[.bool false, .slice none 0 0] 92)).alloc (.cells #[.bool neg, .slice A n cap, .bool neg', .slice A' n' cap'] 92)
  have k4 := (Blk.new ((w.alloc (.cells #[.bool neg, .slice A n cap] 92)).alloc (.cells #[.bool neg', .slice A' n' cap'] 92)) #[.bool false, .slice none 0 0] 92).alloc (.cells #[.bool neg, .slice A n cap, .bool neg', .slice A' n' cap'] 92)
  have k5 := Blk.new (((w.alloc (.cells #[.bool neg, .slice A n cap] 92)).alloc (.cells #[.bool neg', .slice A' n' cap'] 92)).alloc (.cells #[.bool false, .slice none 0 0] 92)) #[.bool neg, .slice A n cap, .bool neg', .slice A' n' cap'] 92
  have hb0 := ((((Below.refl w.heap.size w).alloc (Nat.le_refl _) (.cells #[.bool neg, .slice A n cap] 92)).alloc (by simp) (.cells #[.bool neg', .slice A' n' cap'] 92)).alloc (by simp; omega) (.cells #[.bool false, .slice none 0 0] 92)).alloc (by simp; omega) (.cells #[.bool neg, .slice A n cap, .bool neg', .slice A' n' cap'] 92)
  simp only [World.size_alloc] at k2 k3 k4 k5
  have K2 := Lib.hid k2
  have K3 := Lib.hid k3
  have K4 := Lib.hid k4
  have K5 := Lib.hid k5
  have HB0 := Lib.hid hb0
  have HA := Lib.hid ha
  have HB := Lib.hid hb
  clear k2 k3 k4 k5 hb0 ha hb
  go_enter Tryz.func50, Tryz.ntmps50
  go_wp2_with (first
    | (go_at_call 98; refine (check2 _ (w.heap.size + 1 + 1 + 1) 2 K5.out.lt neg neg' A A' n n' cap cap' x y (K5.out.at 0) (K5.out.at 1) (HA.out.below HB0.out) (K5.out.at 2) (K5.out.at 3) (HB.out.below HB0.out)).mono ?_; rintro e w4 ⟨rfl, hb4⟩; have hk2 := K2.out.below hb4; have hk3 := K3.out.below hb4; have hk4 := K4.out.below hb4; have hb := HB0.out.trans (hb4.mono (by (simp; omega))); have c20 := hk2.c0; have c21 := hk2.c1; have c30 := hk3.c0; have c31 := hk3.c1; have f30 := hk3.fr 0; have HK2 := Lib.hid hk2; have HK3 := Lib.hid hk3; have HK4 := Lib.hid hk4; have HBe := Lib.hid hb; have hsz := hk4.lt; clear hk2 hk3 hk4 hb hb4 K2 K3 K4 K5 HB0)
    | (go_at_call 101; obtain ⟨g, _, hn, hdg, hag, tg, _, rfl⟩ := HA.out.below HBe.out; obtain ⟨h, _, hn', hdh, hah, th, _, rfl⟩ := HB.out.below HBe.out; refine (add_any _ neg neg' A A' n n' cap cap' g h hn hn' hdg hdh tg th hag hah).mono ?_; rintro e w5 ⟨v, rfl, hwid, hb5⟩; obtain ⟨neg2, A2, n2, cap2, rfl, hwd⟩ := hwid; have hk4 := HK4.out.below hb5; have f0 := hk4.c0; have f1 := hk4.c1; have f2 := hk4.fr 0; have f3 := hk4.fr 1; have HK4' := Lib.hid hk4; have HWd := Lib.hid hwd; have HB5 := Lib.hid (HBe.out.trans (hb5.mono HBe.out.size)); clear hk4 hwd hb5 hdg hdh hag hah tg th HA HB; generalize Num.sg neg * Num.val g n + Num.sg neg' * Num.val h n' = x at *))
  have h8 := HK4'.out.set2 (.bool neg2) (.slice A2 n2 cap2)
  have r0 := h8.c0
  have r1 := h8.c1
  refine bodyPost_ret (v := .tuple #[.agg #[.bool neg2, .slice A2 n2 cap2], .int .i64 (Num.ferr (x))]) (by simp [results, Tryz.results50, go_sem, r0, r1]) rfl ?_
  exact ⟨_, rfl, ⟨neg2, A2, n2, cap2, rfl, HWd.out.set2 HK4'.out _ _⟩, below_set2 HB5.out (w.heap.size + 1 + 1) (by omega) _ _⟩

theorem sg_neg (neg : Bool) (x : Int) : Num.sg (!neg) * x = - (Num.sg neg * x) := by
  cases neg <;> simp only [Num.sg, Bool.not_true, Bool.not_false, if_true, Bool.false_eq_true, if_false] <;> omega

set_option maxRecDepth 100000 in
set_option maxHeartbeats 1000000 in
theorem Sub_calls (w : World) (neg neg' : Bool) (A A' : Option Addr) (n n' cap cap' : Nat) (x y : Int) (ha : WD w neg A n cap x) (hb : WD w neg' A' n' cap' y) :
    Calls Tryz.prog 192 #[.agg #[.bool neg, .slice A n cap], .agg #[.bool neg', .slice A' n' cap']] w (NumPost (x - y) w) := by
  have k2 := (((Blk.new w #[.bool neg, .slice A n cap] 92).alloc (.cells #[.bool neg', .slice A' n' cap'] 92)).alloc (.cells #[.bool false, .slice none 0 0] 92)).alloc (.cells #[.bool neg, .slice A n cap, .bool neg', .slice A' n' cap'] 92)
  have k3 := ((Blk.new (w.alloc (.cells #[.bool neg, .slice A n cap] 92)) #[.bool neg', .slice A' n' cap'] 92).alloc (.cells #[.bool false, .slice none 0 0] 92)).alloc (.cells #[.bool neg, .slice A n cap, .bool neg', .slice A' n' cap'] 92)
  have k4 := (Blk.new ((w.alloc (.cells #[.bool neg, .slice A n cap] 92)).alloc (.cells #[.bool neg', .slice A' n' cap'] 92)) #[.bool false, .slice none 0 0] 92).alloc (.cells #[.bool neg, .slice A n cap, .bool neg', .slice A' n' cap'] 92)
  have k5 := Blk.new (((w.alloc (.cells #[.bool neg, .slice A n cap] 92)).alloc (.cells #[.bool neg', .slice A' n' cap'] 92)).alloc (.cells #[.bool false, .slice none 0 0] 92)) #[.bool neg, .slice A n cap, .bool neg', .slice A' n' cap'] 92
  have hb0 := ((((Below.refl w.heap.size w).alloc (Nat.le_refl _) (.cells #[.bool neg, .slice A n cap] 92)).alloc (by simp) (.cells #[.bool neg', .slice A' n' cap'] 92)).alloc (by simp; omega) (.cells #[.bool false, .slice none 0 0] 92)).alloc (by simp; omega) (.cells #[.bool neg, .slice A n cap, .bool neg', .slice A' n' cap'] 92)
  simp only [World.size_alloc] at k2 k3 k4 k5
  have K2 := Lib.hid k2
  have K3 := Lib.hid k3
  have K4 := Lib.hid k4
  have K5 := Lib.hid k5
  have HB0 := Lib.hid hb0
  have HA := Lib.hid ha
  have HB := Lib.hid hb
  clear k2 k3 k4 k5 hb0 ha hb
  go_enter Tryz.func192, Tryz.ntmps192
  go_wp2_with (first
    | (go_at_call 98; refine (check2 _ (w.heap.size + 1 + 1 + 1) 2 K5.out.lt neg neg' A A' n n' cap cap' x y (K5.out.at 0) (K5.out.at 1) (HA.out.below HB0.out) (K5.out.at 2) (K5.out.at 3) (HB.out.below HB0.out)).mono ?_; rintro e w4 ⟨rfl, hb4⟩; have hk2 := K2.out.below hb4; have hk3 := K3.out.below hb4; have hk4 := K4.out.below hb4; have hb := HB0.out.trans (hb4.mono (by (simp; omega))); have c20 := hk2.c0; have c21 := hk2.c1; have c30 := hk3.c0; have c31 := hk3.c1; have f30 := hk3.fr 0; have HK2 := Lib.hid hk2; have HK3 := Lib.hid hk3; have HK4 := Lib.hid hk4; have HBe := Lib.hid hb; have hsz := hk4.lt; clear hk2 hk3 hk4 hb hb4 K2 K3 K4 K5 HB0)
    | (go_at_call 101; have HBe := Lib.hid (HBe.out.setCell (p := ⟨w.heap.size + 1, 0, none⟩) (by simp) (.bool (!neg'))); have HK4 := Lib.hid (HK4.out.far ⟨w.heap.size + 1, 0, none⟩ (.bool (!neg')) (by simp)); obtain ⟨g, _, hn, hdg, hag, tg, _, rfl⟩ := HA.out.below HBe.out; obtain ⟨h, _, hn', hdh, hah, th, _, rfl⟩ := HB.out.below HBe.out; refine (add_any _ neg (!neg') A A' n n' cap cap' g h hn hn' hdg hdh tg th hag hah).mono ?_; rw [sg_neg, ← Int.sub_eq_add_neg]; rintro e w5 ⟨v, rfl, hwid, hb5⟩; obtain ⟨neg2, A2, n2, cap2, rfl, hwd⟩ := hwid; have hk4 := HK4.out.below hb5; have f0 := hk4.c0; have f1 := hk4.c1; have f2 := hk4.fr 0; have f3 := hk4.fr 1; have HK4' := Lib.hid hk4; have HWd := Lib.hid hwd; have HB5 := Lib.hid (HBe.out.trans (hb5.mono HBe.out.size)); clear hk4 hwd hb5 hdg hdh hag hah tg th HA HB; generalize Num.sg neg * Num.val g n - Num.sg neg' * Num.val h n' = x at *))
  have h8 := HK4'.out.set2 (.bool neg2) (.slice A2 n2 cap2)
  have r0 := h8.c0
  have r1 := h8.c1
  refine bodyPost_ret (v := .tuple #[.agg #[.bool neg2, .slice A2 n2 cap2], .int .i64 (Num.ferr (x))]) (by simp [results, Tryz.results192, go_sem, r0, r1]) rfl ?_
  exact ⟨_, rfl, ⟨neg2, A2, n2, cap2, rfl, HWd.out.set2 HK4'.out _ _⟩, below_set2 HB5.out (w.heap.size + 1 + 1) (by omega) _ _⟩

theorem sg_mul (neg neg' : Bool) (x y : Int) : Num.sg (!(neg == neg')) * (x * y) = (Num.sg neg * x) * (Num.sg neg' * y) := by
  cases neg <;> cases neg' <;> simp [Num.sg, Int.mul_neg, Int.neg_mul]

set_option maxRecDepth 100000 in
set_option maxHeartbeats 1000000 in
theorem Mul_calls (w : World) (neg neg' : Bool) (A A' : Option Addr) (n n' cap cap' : Nat) (x y : Int) (ha : WD w neg A n cap x) (hb : WD w neg' A' n' cap' y) :
    Calls Tryz.prog 48 #[.agg #[.bool neg, .slice A n cap], .agg #[.bool neg', .slice A' n' cap']] w (NumPost (x * y) w) := by
  have k2 := (((Blk.new w #[.bool neg, .slice A n cap] 92).alloc (.cells #[.bool neg', .slice A' n' cap'] 92)).alloc (.cells #[.bool false, .slice none 0 0] 92)).alloc (.cells #[.bool neg, .slice A n cap, .bool neg', .slice A' n' cap'] 92)
  have k3 := ((Blk.new (w.alloc (.cells #[.bool neg, .slice A n cap] 92)) #[.bool neg', .slice A' n' cap'] 92).alloc (.cells #[.bool false, .slice none 0 0] 92)).alloc (.cells #[.bool neg, .slice A n cap, .bool neg', .slice A' n' cap'] 92)
  have k4 := (Blk.new ((w.alloc (.cells #[.bool neg, .slice A n cap] 92)).alloc (.cells #[.bool neg', .slice A' n' cap'] 92)) #[.bool false, .slice none 0 0] 92).alloc (.cells #[.bool neg, .slice A n cap, .bool neg', .slice A' n' cap'] 92)
  have k5 := Blk.new (((w.alloc (.cells #[.bool neg, .slice A n cap] 92)).alloc (.cells #[.bool neg', .slice A' n' cap'] 92)).alloc (.cells #[.bool false, .slice none 0 0] 92)) #[.bool neg, .slice A n cap, .bool neg', .slice A' n' cap'] 92
  have hb0 := ((((Below.refl w.heap.size w).alloc (Nat.le_refl _) (.cells #[.bool neg, .slice A n cap] 92)).alloc (by simp) (.cells #[.bool neg', .slice A' n' cap'] 92)).alloc (by simp; omega) (.cells #[.bool false, .slice none 0 0] 92)).alloc (by simp; omega) (.cells #[.bool neg, .slice A n cap, .bool neg', .slice A' n' cap'] 92)
  simp only [World.size_alloc] at k2 k3 k4 k5
  have K2 := Lib.hid k2
  have K3 := Lib.hid k3
  have K4 := Lib.hid k4
  have K5 := Lib.hid k5
  have HB0 := Lib.hid hb0
  have HA := Lib.hid ha
  have HB := Lib.hid hb
  clear k2 k3 k4 k5 hb0 ha hb
  go_enter Tryz.func48, Tryz.ntmps48
  go_wp2_with (first
    | (go_at_call 98; refine (check2 _ (w.heap.size + 1 + 1 + 1) 2 K5.out.lt neg neg' A A' n n' cap cap' x y (K5.out.at 0) (K5.out.at 1) (HA.out.below HB0.out) (K5.out.at 2) (K5.out.at 3) (HB.out.below HB0.out)).mono ?_; rintro e w4 ⟨rfl, hb4⟩; have hk2 := K2.out.below hb4; have hk3 := K3.out.below hb4; have hk4 := K4.out.below hb4; have hb := HB0.out.trans (hb4.mono (by (simp; omega))); have c20 := hk2.c0; have c21 := hk2.c1; have c30 := hk3.c0; have c31 := hk3.c1; have f30 := hk3.fr 0; have HK2 := Lib.hid hk2; have HK3 := Lib.hid hk3; have HK4 := Lib.hid hk4; have HBe := Lib.hid hb; have hsz := hk4.lt; clear hk2 hk3 hk4 hb hb4 K2 K3 K4 K5 HB0)
    )
  clear c20 c21 c30 c31 f30
  obtain ⟨g, _, hn, hdg, hag, tg, _, rfl⟩ := HA.out.below HBe.out
  obtain ⟨h, _, hn', hdh, hah, th, _, rfl⟩ := HB.out.below HBe.out
  have hS : Blk w4.drew w.heap.size #[.bool neg, .slice A n cap] 92 ∧ Blk w4.drew (w.heap.size + 1) #[.bool neg', .slice A' n' cap'] 92 := ⟨HK2.out, HK3.out⟩
  have hbe : Below w.heap.size w w4.drew := below_drewN HBe.out 1
  have hk4 : Blk w4.drew (w.heap.size + 1 + 1) #[.bool false, .slice none 0 0] 92 := HK4.out
  have hag5 : At w4.drew A g n := hag
  have hah5 : At w4.drew A' h n' := hah
  clear HK2 HK3 HK4 HBe HA HB hag hah hsz
  refine wp_region_any (by kernel_rfl) ?_
  refine wpAny_of_held (S := fun W' => Blk W' w.heap.size #[.bool neg, .slice A n cap] 92 ∧ Blk W' (w.heap.size + 1) #[.bool neg', .slice A' n' cap'] 92) _ _ _ _ ?_
  refine wpAnyH_take (i := 0) (v := .pointer (some ⟨w.heap.size, 0, none⟩)) rfl (by kernel_rfl) (by kernel_rfl) (by kernel_rfl) (fun _ _ _ h => h) (.inl ⟨rfl, fun w0 hw0 => ?a0⟩) hS ?_
  case a0 =>
    obtain ⟨g2, g3⟩ := hw0; have e0 := g2.c0; have e1 := g2.c1; have e2 := g3.c0; have e3 := g3.c1
    go_simp
  refine wpAnyH_take (i := 1) (v := .bool neg) rfl (by kernel_rfl) (by kernel_rfl) (by kernel_rfl) (fun _ _ _ h => h) (.inl ⟨rfl, fun w0 hw0 => ?a1⟩) hS ?_
  case a1 =>
    obtain ⟨g2, g3⟩ := hw0; have e0 := g2.c0; have e1 := g2.c1; have e2 := g3.c0; have e3 := g3.c1
    go_simp
  refine wpAnyH_take (i := 2) (v := .pointer (some ⟨w.heap.size + 1, 0, none⟩)) rfl (by kernel_rfl) (by kernel_rfl) (by kernel_rfl) (fun _ _ _ h => h) (.inl ⟨rfl, fun w0 hw0 => ?a2⟩) hS ?_
  case a2 =>
    obtain ⟨g2, g3⟩ := hw0; have e0 := g2.c0; have e1 := g2.c1; have e2 := g3.c0; have e3 := g3.c1
    go_simp
  refine wpAnyH_take (i := 3) (v := .bool neg') rfl (by kernel_rfl) (by kernel_rfl) (by kernel_rfl) (fun _ _ _ h => h) (.inl ⟨rfl, fun w0 hw0 => ?a3⟩) hS ?_
  case a3 =>
    obtain ⟨g2, g3⟩ := hw0; have e0 := g2.c0; have e1 := g2.c1; have e2 := g3.c0; have e3 := g3.c1
    go_simp
  refine wpAnyH_take (i := 4) (v := .bool (!(neg == neg'))) rfl (by kernel_rfl) (by kernel_rfl) (by kernel_rfl) (fun _ _ _ h => h) (.inl ⟨rfl, fun w0 hw0 => ?a4⟩) hS ?_
  case a4 =>
    obtain ⟨g2, g3⟩ := hw0; have e0 := g2.c0; have e1 := g2.c1; have e2 := g3.c0; have e3 := g3.c1
    go_simp
  refine wpAnyH_take (i := 5) (v := .pointer (some ⟨w.heap.size, 1, none⟩)) rfl (by kernel_rfl) (by kernel_rfl) (by kernel_rfl) (fun _ _ _ h => h) (.inl ⟨rfl, fun w0 hw0 => ?a5⟩) hS ?_
  case a5 =>
    obtain ⟨g2, g3⟩ := hw0; have e0 := g2.c0; have e1 := g2.c1; have e2 := g3.c0; have e3 := g3.c1
    go_simp
  refine wpAnyH_take (i := 6) (v := .slice A n cap) rfl (by kernel_rfl) (by kernel_rfl) (by kernel_rfl) (fun _ _ _ h => h) (.inl ⟨rfl, fun w0 hw0 => ?a6⟩) hS ?_
  case a6 =>
    obtain ⟨g2, g3⟩ := hw0; have e0 := g2.c0; have e1 := g2.c1; have e2 := g3.c0; have e3 := g3.c1
    go_simp
  refine wpAnyH_take (i := 7) (v := .pointer (some ⟨w.heap.size + 1, 1, none⟩)) rfl (by kernel_rfl) (by kernel_rfl) (by kernel_rfl) (fun _ _ _ h => h) (.inl ⟨rfl, fun w0 hw0 => ?a7⟩) hS ?_
  case a7 =>
    obtain ⟨g2, g3⟩ := hw0; have e0 := g2.c0; have e1 := g2.c1; have e2 := g3.c0; have e3 := g3.c1
    go_simp
  refine wpAnyH_take (i := 8) (v := .slice A' n' cap') rfl (by kernel_rfl) (by kernel_rfl) (by kernel_rfl) (fun _ _ _ h => h) (.inl ⟨rfl, fun w0 hw0 => ?a8⟩) hS ?_
  case a8 =>
    obtain ⟨g2, g3⟩ := hw0; have e0 := g2.c0; have e1 := g2.c1; have e2 := g3.c0; have e3 := g3.c1
    go_simp
  refine wpAnyH_all (rs := [9]) (by kernel_rfl) (by simp) ?_
  intro i0 hi0
  obtain rfl : i0 = 9 := by simpa using hi0
  refine wpOp_plain rfl rfl fun K' hK' => ?_
  go_simp
  generalize w4.drew = w5 at *
  refine (times_calls w5 A A' n n' cap cap' g h hdg hdh (by omega) (by omega) hag5 hah5).mono ?_
  rintro e w6 ⟨b, o, rfl, hbo, hdo, hvo, hbb, hb6⟩
  have hS : Blk w6 w.heap.size #[.bool neg, .slice A n cap] 92 ∧ Blk w6 (w.heap.size + 1) #[.bool neg', .slice A' n' cap'] 92 := ⟨hS.1.below hb6, hS.2.below hb6⟩
  have hk4 := hk4.below hb6
  have hbe := hbe.trans (hb6.mono hbe.size)
  refine hK' _ _ ⟨hS, ?_⟩
  clear hK' K'
  refine wpAnyH_all (rs := [10]) (by kernel_rfl) (by simp) ?_
  intro i0 hi0
  obtain rfl : i0 = 10 := by simpa using hi0
  refine wpOp_plain rfl rfl fun K' hK' => ?_
  go_simp
  refine (made_calls w6 (!(neg == neg')) (some ⟨b, 0, none⟩) (n + n') (n + n') o hdo (Nat.le_refl _) (by omega) hbo.at).mono ?_
  rintro e w7 ⟨v, rfl, hwid, hb7⟩
  obtain ⟨neg2, A2, n2, cap2, rfl, hwd⟩ := hwid
  rw [hvo, sg_mul] at hwd ⊢
  have hS : Blk w7 w.heap.size #[.bool neg, .slice A n cap] 92 ∧ Blk w7 (w.heap.size + 1) #[.bool neg', .slice A' n' cap'] 92 := ⟨hS.1.below hb7, hS.2.below hb7⟩
  have hk4 := hk4.below hb7
  have hbe := hbe.trans (hb7.mono hbe.size)
  refine hK' _ _ ⟨hS, ?_⟩
  clear hK' K'
  generalize Num.sg neg * Num.val g n * (Num.sg neg' * Num.val h n') = x at *
  refine wpAnyH_take (i := 11) (v := .agg #[.bool neg2, .slice A2 n2 cap2]) rfl (by kernel_rfl) (by kernel_rfl) (by kernel_rfl) (fun _ _ _ h => h) (.inl ⟨rfl, fun w0 hw0 => ?a11⟩) hS ?_
  case a11 =>
    obtain ⟨g2, g3⟩ := hw0; have e0 := g2.c0; have e1 := g2.c1; have e2 := g3.c0; have e3 := g3.c1
    go_simp
  refine wpAnyH_take (i := 12) (v := .int .i64 (Num.ferr x)) rfl (by kernel_rfl) (by kernel_rfl) (by kernel_rfl) (fun _ _ _ h => h) (.inl ⟨rfl, fun w0 hw0 => ?a12⟩) hS ?_
  case a12 =>
    obtain ⟨g2, g3⟩ := hw0; have e0 := g2.c0; have e1 := g2.c1; have e2 := g3.c0; have e3 := g3.c1
    go_simp
  have f0 := hk4.c0
  have f1 := hk4.c1
  have f2 := hk4.fr 0
  have f3 := hk4.fr 1
  refine wpAnyH_all (rs := [13]) (by kernel_rfl) (by simp) ?_
  intro i0 hi0
  obtain rfl : i0 = 13 := by simpa using hi0
  refine wpOp_plain rfl rfl fun K' hK' => ?_
  go_simp
  have h8 := hk4.set2 (.bool neg2) (.slice A2 n2 cap2)
  have hwd8 := hwd.set2 hk4 (.bool neg2) (.slice A2 n2 cap2)
  have hbe8 := below_set2 hbe (w.heap.size + 1 + 1) (by omega) (.bool neg2) (.slice A2 n2 cap2)
  have hS : Blk ((w7.setCell ⟨w.heap.size + 1 + 1, 0, none⟩ (.bool neg2)).setCell ⟨w.heap.size + 1 + 1, 1, none⟩ (.slice A2 n2 cap2)) w.heap.size #[.bool neg, .slice A n cap] 92 ∧ Blk ((w7.setCell ⟨w.heap.size + 1 + 1, 0, none⟩ (.bool neg2)).setCell ⟨w.heap.size + 1 + 1, 1, none⟩ (.slice A2 n2 cap2)) (w.heap.size + 1) #[.bool neg', .slice A' n' cap'] 92 := ⟨hS.1.far2 _ _ _ (by omega), hS.2.far2 _ _ _ (by omega)⟩
  clear hbe hwd hk4 f0 f1 f2 f3
  generalize (w7.setCell ⟨w.heap.size + 1 + 1, 0, none⟩ (.bool neg2)).setCell ⟨w.heap.size + 1 + 1, 1, none⟩ (.slice A2 n2 cap2) = w8 at *
  refine hK' _ _ ⟨hS, ?_⟩
  clear hK' K'
  refine wpAnyH_take (i := 14) (v := .int .i64 (Num.ferr x)) rfl (by kernel_rfl) (by kernel_rfl) (by kernel_rfl) (fun _ _ _ h => h) (.inl ⟨rfl, fun w0 hw0 => ?a14⟩) hS ?_
  case a14 =>
    obtain ⟨g2, g3⟩ := hw0; have e0 := g2.c0; have e1 := g2.c1; have e2 := g3.c0; have e3 := g3.c1
    go_simp
  refine wpAnyH_done (by kernel_rfl) ?_ _
  have r0 := h8.c0
  have r1 := h8.c1
  have HW8 := Lib.hid hwd8
  have HBe8 := Lib.hid hbe8
  clear hS hwd8 hbe8 h8
  go_wp2
  refine bodyPost_ret (v := .tuple #[.agg #[.bool neg2, .slice A2 n2 cap2], .int .i64 (Num.ferr x)]) (by simp [results, Tryz.results48, go_sem, r0, r1]) rfl ?_
  exact ⟨_, rfl, ⟨neg2, A2, n2, cap2, rfl, HW8.out⟩, HBe8.out⟩

set_option maxRecDepth 100000 in
set_option maxHeartbeats 1000000 in
theorem Neg_calls (w : World) (neg : Bool) (A : Option Addr) (n cap : Nat) (x : Int) (ha : WD w neg A n cap x) :
    Calls Tryz.prog 219 #[.agg #[.bool neg, .slice A n cap]] w (NumPost (-x) w) := by
  have k2 := ((Blk.new w #[.bool neg, .slice A n cap] 92).alloc (.cells #[.bool false, .slice none 0 0] 92)).alloc (.cells #[.bool neg, .slice A n cap] 92)
  have k4 := (Blk.new (w.alloc (.cells #[.bool neg, .slice A n cap] 92)) #[.bool false, .slice none 0 0] 92).alloc (.cells #[.bool neg, .slice A n cap] 92)
  have k5 := Blk.new ((w.alloc (.cells #[.bool neg, .slice A n cap] 92)).alloc (.cells #[.bool false, .slice none 0 0] 92)) #[.bool neg, .slice A n cap] 92
  have hb0 := (((Below.refl w.heap.size w).alloc (Nat.le_refl _) (.cells #[.bool neg, .slice A n cap] 92)).alloc (by simp) (.cells #[.bool false, .slice none 0 0] 92)).alloc (by simp; omega) (.cells #[.bool neg, .slice A n cap] 92)
  simp only [World.size_alloc] at k2 k4 k5
  have K2 := Lib.hid k2
  have K4 := Lib.hid k4
  have K5 := Lib.hid k5
  have HB0 := Lib.hid hb0
  have HA := Lib.hid ha
  clear k2 k4 k5 hb0 ha
  go_enter Tryz.func219, Tryz.ntmps219
  go_wp2_with (first
    | (go_at_call 98; refine (check1 _ (w.heap.size + 1 + 1) 1 K5.out.lt neg A n cap x K5.out.c0 K5.out.c1 (HA.out.below HB0.out)).mono ?_; rintro e w4 ⟨rfl, hb4⟩; have hk2 := K2.out.below hb4; have hk4 := K4.out.below hb4; have hb := HB0.out.trans (hb4.mono (by (simp; omega))); have c20 := hk2.c0; have c21 := hk2.c1; have HK2 := Lib.hid hk2; have HK4 := Lib.hid hk4; have HBe := Lib.hid hb; have hsz := hk4.lt; clear hk2 hk4 hb hb4 K2 K4 K5 HB0)
    )
  clear c20 c21
  obtain ⟨g, _, hn, hdg, hag, tg, _, rfl⟩ := HA.out.below HBe.out
  have hS : Blk w4.drew w.heap.size #[.bool neg, .slice A n cap] 92 := HK2.out
  have hbe : Below w.heap.size w w4.drew := below_drewN HBe.out 1
  have hk4 : Blk w4.drew (w.heap.size + 1) #[.bool false, .slice none 0 0] 92 := HK4.out
  have hag5 : At w4.drew A g n := hag
  clear HK2 HK4 HBe HA hag hsz
  refine wp_region_any (by kernel_rfl) ?_
  refine wpAny_of_held (S := fun W' => Blk W' w.heap.size #[.bool neg, .slice A n cap] 92) _ _ _ _ ?_
  refine wpAnyH_take (i := 0) (v := .pointer (some ⟨w.heap.size, 0, none⟩)) rfl (by kernel_rfl) (by kernel_rfl) (by kernel_rfl) (fun _ _ _ h => h) (.inl ⟨rfl, fun w0 hw0 => ?a0⟩) hS ?_
  case a0 =>
    have e0 := hw0.c0; have e1 := hw0.c1
    go_simp
  refine wpAnyH_take (i := 1) (v := .bool neg) rfl (by kernel_rfl) (by kernel_rfl) (by kernel_rfl) (fun _ _ _ h => h) (.inl ⟨rfl, fun w0 hw0 => ?a1⟩) hS ?_
  case a1 =>
    have e0 := hw0.c0; have e1 := hw0.c1
    go_simp
  refine wpAnyH_take (i := 2) (v := .bool (!neg)) rfl (by kernel_rfl) (by kernel_rfl) (by kernel_rfl) (fun _ _ _ h => h) (.inl ⟨rfl, fun w0 hw0 => ?a2⟩) hS ?_
  case a2 =>
    have e0 := hw0.c0; have e1 := hw0.c1
    go_simp
  refine wpAnyH_take (i := 3) (v := .pointer (some ⟨w.heap.size, 1, none⟩)) rfl (by kernel_rfl) (by kernel_rfl) (by kernel_rfl) (fun _ _ _ h => h) (.inl ⟨rfl, fun w0 hw0 => ?a3⟩) hS ?_
  case a3 =>
    have e0 := hw0.c0; have e1 := hw0.c1
    go_simp
  refine wpAnyH_take (i := 4) (v := .slice A n cap) rfl (by kernel_rfl) (by kernel_rfl) (by kernel_rfl) (fun _ _ _ h => h) (.inl ⟨rfl, fun w0 hw0 => ?a4⟩) hS ?_
  case a4 =>
    have e0 := hw0.c0; have e1 := hw0.c1
    go_simp
  refine wpAnyH_all (rs := [5]) (by kernel_rfl) (by simp) ?_
  intro i0 hi0
  obtain rfl : i0 = 5 := by simpa using hi0
  refine wpOp_plain rfl rfl fun K' hK' => ?_
  go_simp
  generalize w4.drew = w5 at *
  refine (clone_calls w5 A n cap g (by omega) hag5).mono ?_
  rintro e w6 ⟨Ab, capb, rfl, hcb, hnew, hb6⟩
  have hS : Blk w6 w.heap.size #[.bool neg, .slice A n cap] 92 := hS.below hb6
  have hk4 := hk4.below hb6
  have hbe := hbe.trans (hb6.mono hbe.size)
  refine hK' _ _ ⟨hS, ?_⟩
  clear hK' K'
  refine wpAnyH_all (rs := [6]) (by kernel_rfl) (by simp) ?_
  intro i0 hi0
  obtain rfl : i0 = 6 := by simpa using hi0
  refine wpOp_plain rfl rfl fun K' hK' => ?_
  go_simp
  refine (made_calls w6 (!neg) Ab n capb g hdg hcb (by omega) hnew.at).mono ?_
  rintro e w7 ⟨v, rfl, hwid, hb7⟩
  obtain ⟨neg2, A2, n2, cap2, rfl, hwd⟩ := hwid
  rw [sg_neg] at hwd ⊢
  have hS : Blk w7 w.heap.size #[.bool neg, .slice A n cap] 92 := hS.below hb7
  have hk4 := hk4.below hb7
  have hbe := hbe.trans (hb7.mono hbe.size)
  refine hK' _ _ ⟨hS, ?_⟩
  clear hK' K'
  generalize -(Num.sg neg * Num.val g n) = x at *
  refine wpAnyH_take (i := 7) (v := .agg #[.bool neg2, .slice A2 n2 cap2]) rfl (by kernel_rfl) (by kernel_rfl) (by kernel_rfl) (fun _ _ _ h => h) (.inl ⟨rfl, fun w0 hw0 => ?a7⟩) hS ?_
  case a7 =>
    have e0 := hw0.c0; have e1 := hw0.c1
    go_simp
  refine wpAnyH_take (i := 8) (v := .int .i64 (Num.ferr x)) rfl (by kernel_rfl) (by kernel_rfl) (by kernel_rfl) (fun _ _ _ h => h) (.inl ⟨rfl, fun w0 hw0 => ?a8⟩) hS ?_
  case a8 =>
    have e0 := hw0.c0; have e1 := hw0.c1
    go_simp
  have f0 := hk4.c0
  have f1 := hk4.c1
  have f2 := hk4.fr 0
  have f3 := hk4.fr 1
  refine wpAnyH_all (rs := [9]) (by kernel_rfl) (by simp) ?_
  intro i0 hi0
  obtain rfl : i0 = 9 := by simpa using hi0
  refine wpOp_plain rfl rfl fun K' hK' => ?_
  go_simp
  have h8 := hk4.set2 (.bool neg2) (.slice A2 n2 cap2)
  have hwd8 := hwd.set2 hk4 (.bool neg2) (.slice A2 n2 cap2)
  have hbe8 := below_set2 hbe (w.heap.size + 1) (by omega) (.bool neg2) (.slice A2 n2 cap2)
  have hS : Blk ((w7.setCell ⟨w.heap.size + 1, 0, none⟩ (.bool neg2)).setCell ⟨w.heap.size + 1, 1, none⟩ (.slice A2 n2 cap2)) w.heap.size #[.bool neg, .slice A n cap] 92 := hS.far2 _ _ _ (by omega)
  clear hbe hwd hk4 f0 f1 f2 f3
  generalize (w7.setCell ⟨w.heap.size + 1, 0, none⟩ (.bool neg2)).setCell ⟨w.heap.size + 1, 1, none⟩ (.slice A2 n2 cap2) = w8 at *
  refine hK' _ _ ⟨hS, ?_⟩
  clear hK' K'
  refine wpAnyH_take (i := 10) (v := .int .i64 (Num.ferr x)) rfl (by kernel_rfl) (by kernel_rfl) (by kernel_rfl) (fun _ _ _ h => h) (.inl ⟨rfl, fun w0 hw0 => ?a10⟩) hS ?_
  case a10 =>
    have e0 := hw0.c0; have e1 := hw0.c1
    go_simp
  refine wpAnyH_done (by kernel_rfl) ?_ _
  have r0 := h8.c0
  have r1 := h8.c1
  have HW8 := Lib.hid hwd8
  have HBe8 := Lib.hid hbe8
  clear hS hwd8 hbe8 h8
  go_wp2
  refine bodyPost_ret (v := .tuple #[.agg #[.bool neg2, .slice A2 n2 cap2], .int .i64 (Num.ferr x)]) (by simp [results, Tryz.results219, go_sem, r0, r1]) rfl ?_
  exact ⟨_, rfl, ⟨neg2, A2, n2, cap2, rfl, HW8.out⟩, HBe8.out⟩

end Go.Proofs.YtilaheplclaokaaGreatDoor
namespace Go.Proofs.YtilaheplclaokaaGreatDoor
open Go.RowKit Go.Shelf

/-- A value is returned: a number's struct. -/
def WidPost (x : Int) (w : World) (e : Ending) (w' : World) : Prop := ∃ neg A n cap, e = .returned (.agg #[.bool neg, .slice A n cap]) ∧ WD w' neg A n cap x ∧ Below w.heap.size w w'

/-- The two limbs of an unsigned number. -/
def two (u : Int) : Nat → Int := fun i => if i = 0 then u % 4294967296 else u / 4294967296
theorem two_dig {u : Int} (h0 : 0 ≤ u) (h1 : u < 18446744073709551616) : Num.Dig (two u) 2 := fun i _ => by
  unfold two
  split <;> omega
theorem two_val (u : Int) : Num.val (two u) 2 = u := by
  simp only [Num.val, two, Num.P_zero, Num.P_succ, Num.B_eq]
  simp
  omega
theorem two_at (W : World) (u : Int) (a b : Int) (ha : a = u % 4294967296) (hb : b = u / 4294967296) : At (W.alloc (.cells #[.int .u32 a, .int .u32 b] 175)) (some ⟨W.heap.size, 0, none⟩) (two u) 2 := fun _ => ⟨W.heap.size, 0, rfl, by simp, fun i hi => by
  subst ha hb
  rw [World.cell?_alloc_at _ _ _ _ rfl]
  match i, hi with
  | 0, _ => rfl
  | 1, _ => rfl⟩
theorem two_at2 (W : World) (C : Obj) (u : Int) {a b : Int} (ha : a = u % 4294967296) (hb : b = u / 4294967296) : At ((W.alloc C).alloc (.cells #[.int .u32 a, .int .u32 b] 175)) (some ⟨W.heap.size + 1, 0, none⟩) (two u) 2 := by
  have := two_at (W.alloc C) u a b ha hb
  rwa [World.size_alloc] at this
theorem fits64 {x : Int} (h0 : -18446744073709551616 < x) (h1 : x < 18446744073709551616) : Num.fits x = true := by
  have h2 := Num.P_mono (show 2 ≤ 4096 by omega)
  have h3 : Num.P 2 = 18446744073709551616 := by simp [Num.P_succ, Num.P_zero, Num.B_eq]
  simp only [Num.fits, decide_eq_true_eq]
  omega

set_option maxRecDepth 100000 in
set_option maxHeartbeats 1000000 in
theorem From_pos (w : World) (x : Int) (h0 : 0 ≤ x) (h1 : x < 9223372036854775808) :
    Calls Tryz.prog 49 #[.int .i64 x] w (WidPost x w) := by
  have hneg : ¬ x < 0 := by omega
  have K4 := Lib.hid (Blk.new w #[.bool false, .slice none 0 0] 92)
  have HB0 := Lib.hid ((Below.refl w.heap.size w).alloc (Nat.le_refl _) (.cells #[.bool false, .slice none 0 0] 92))
  go_enter Tryz.func49, Tryz.ntmps49
  go_wp2_with (go_at_call 99; refine (made_calls _ false (some ⟨w.heap.size + 1, 0, none⟩) 2 2 (two (x)) (two_dig (by omega) (by omega)) (Nat.le_refl _) (by omega) (two_at2 _ _ (x) (by omega) (by omega))).mono ?_; rw [two_val, show Num.sg false * (x) = x from Int.one_mul x]; rintro e w5 ⟨v, rfl, hwid, hb5⟩; rw [Num.fit_of (fits64 (by omega) (by omega))] at hwid; obtain ⟨neg2, A2, n2, cap2, rfl, hwd⟩ := hwid; have hbe := HB0.out.trans ((((Below.refl w.heap.size _).alloc (by simp) _).trans (hb5.mono (by (simp; omega))))); have hk4 := (K4.out.alloc _).below hb5; have f0 := hk4.c0; have f1 := hk4.c1; have f2 := hk4.fr 0; have f3 := hk4.fr 1; have hlt := hk4.lt; have HK4' := Lib.hid hk4; have HWd := Lib.hid hwd; have HB5 := Lib.hid hbe; clear hk4 hwd hb5 hbe K4 HB0)
  have h8 := HK4'.out.set2 (.bool neg2) (.slice A2 n2 cap2)
  have hwd8 := HWd.out.set2 HK4'.out (.bool neg2) (.slice A2 n2 cap2)
  have hb8 := below_set2 HB5.out w.heap.size (Nat.le_refl _) (.bool neg2) (.slice A2 n2 cap2)
  have h9 := h8.alloc (.cells #[.bool neg2, .slice A2 n2 cap2] 92)
  have r0 := h9.c0
  have r1 := h9.c1
  refine bodyPost_ret (v := .agg #[.bool neg2, .slice A2 n2 cap2]) (by simp [results, Tryz.results49, go_sem, r0, r1]) rfl ?_
  exact ⟨neg2, A2, n2, cap2, rfl, hwd8.below ((Below.refl _ _).alloc (Nat.le_refl _) _), hb8.alloc hb8.size _⟩

set_option maxRecDepth 100000 in
set_option maxHeartbeats 1000000 in
theorem From_neg (w : World) (x : Int) (h0 : x < 0) (h1 : -9223372036854775808 ≤ x) :
    Calls Tryz.prog 49 #[.int .i64 x] w (WidPost x w) := by
  have hw : IntKind.u64.wrap (-IntKind.u64.wrap x) = -x := by rw [IntKind.wrap_u64, IntKind.wrap_u64]; omega
  have K4 := Lib.hid (Blk.new w #[.bool false, .slice none 0 0] 92)
  have HB0 := Lib.hid ((Below.refl w.heap.size w).alloc (Nat.le_refl _) (.cells #[.bool false, .slice none 0 0] 92))
  go_enter Tryz.func49, Tryz.ntmps49
  go_wp2_with (go_at_call 99; refine (made_calls _ true (some ⟨w.heap.size + 1, 0, none⟩) 2 2 (two (-x)) (two_dig (by omega) (by omega)) (Nat.le_refl _) (by omega) (two_at2 _ _ (-x) (by omega) (by omega))).mono ?_; rw [two_val, show Num.sg true * (-x) = x from (by simp [Num.sg])]; rintro e w5 ⟨v, rfl, hwid, hb5⟩; rw [Num.fit_of (fits64 (by omega) (by omega))] at hwid; obtain ⟨neg2, A2, n2, cap2, rfl, hwd⟩ := hwid; have hbe := HB0.out.trans ((((Below.refl w.heap.size _).alloc (by simp) _).trans (hb5.mono (by (simp; omega))))); have hk4 := (K4.out.alloc _).below hb5; have f0 := hk4.c0; have f1 := hk4.c1; have f2 := hk4.fr 0; have f3 := hk4.fr 1; have hlt := hk4.lt; have HK4' := Lib.hid hk4; have HWd := Lib.hid hwd; have HB5 := Lib.hid hbe; clear hk4 hwd hb5 hbe K4 HB0)
  have h8 := HK4'.out.set2 (.bool neg2) (.slice A2 n2 cap2)
  have hwd8 := HWd.out.set2 HK4'.out (.bool neg2) (.slice A2 n2 cap2)
  have hb8 := below_set2 HB5.out w.heap.size (Nat.le_refl _) (.bool neg2) (.slice A2 n2 cap2)
  have h9 := h8.alloc (.cells #[.bool neg2, .slice A2 n2 cap2] 92)
  have r0 := h9.c0
  have r1 := h9.c1
  refine bodyPost_ret (v := .agg #[.bool neg2, .slice A2 n2 cap2]) (by simp [results, Tryz.results49, go_sem, r0, r1]) rfl ?_
  exact ⟨neg2, A2, n2, cap2, rfl, hwd8.below ((Below.refl _ _).alloc (Nat.le_refl _) _), hb8.alloc hb8.size _⟩

theorem From_calls (w : World) (x : Int) (h0 : -9223372036854775808 ≤ x) (h1 : x < 9223372036854775808) :
    Calls Tryz.prog 49 #[.int .i64 x] w (WidPost x w) := by
  rcases Int.lt_or_le x 0 with h | h
  · exact From_neg w x h h0
  · exact From_pos w x h h1

set_option maxRecDepth 100000 in
set_option maxHeartbeats 1000000 in
theorem Check_calls (w : World) (neg : Bool) (A : Option Addr) (n cap : Nat) (x : Int) (ha : WD w neg A n cap x) :
    Calls Tryz.prog 176 #[.agg #[.bool neg, .slice A n cap]] w (OkPost (.int .i64 0) w) := by
  have k5 := Blk.new (w.alloc (.cells #[.bool neg, .slice A n cap] 92)) #[.bool neg, .slice A n cap] 92
  have hb0 := ((Below.refl w.heap.size w).alloc (Nat.le_refl _) (.cells #[.bool neg, .slice A n cap] 92)).alloc (by simp) (.cells #[.bool neg, .slice A n cap] 92)
  simp only [World.size_alloc] at k5
  have K5 := Lib.hid k5
  have HB0 := Lib.hid hb0
  have HA := Lib.hid ha
  clear k5 hb0 ha
  go_enter Tryz.func176, Tryz.ntmps176
  go_wp2_with (go_at_call 98; refine (check1 _ (w.heap.size + 1) 1 K5.out.lt neg A n cap x K5.out.c0 K5.out.c1 (HA.out.below HB0.out)).mono ?_; rintro e w4 ⟨rfl, hb4⟩; have HB4 := Lib.hid (HB0.out.trans (hb4.mono (by (simp; omega)))); clear hb4)
  go_ret
  exact ⟨rfl, HB4.out⟩

theorem cmpZ_lt {x y : Int} (h : x < y) : cmpZ x y = -1 := by simp [cmpZ, h]
theorem cmpZ_gt {x y : Int} (h : y < x) : cmpZ x y = 1 := by unfold cmpZ; rw [if_neg (by omega), if_pos h]
theorem cmpZ_neg (x y : Int) : cmpZ (-x) (-y) = cmpZ y x := by
  unfold cmpZ
  by_cases h1 : y < x
  · rw [if_pos (by omega), if_pos h1]
  · by_cases h2 : x < y
    · rw [if_neg (by omega), if_pos (by omega), if_neg h1, if_pos h2]
    · rw [if_neg (by omega), if_neg (by omega), if_neg h1, if_neg h2]

set_option maxRecDepth 100000 in
set_option maxHeartbeats 1000000 in
theorem to_calls (w : World) (neg neg' : Bool) (A A' : Option Addr) (n n' cap cap' : Nat) (x y : Int) (ha : WD w neg A n cap x) (hb : WD w neg' A' n' cap' y) :
    Calls Tryz.prog 217 #[.agg #[.bool neg, .slice A n cap], .agg #[.bool neg', .slice A' n' cap']] w (OkPost (.int .i64 (cmpZ x y)) w) := by
  obtain ⟨g, _, hn, hdg, hag, tg, hs, rfl⟩ := ha
  obtain ⟨h, _, hn', hdh, hah, th, hs', rfl⟩ := hb
  have hv := Num.val_nonneg hdg
  have hv' := Num.val_nonneg hdh
  cases neg
  · cases neg'
    · rw [show Num.sg false * Num.val g n = Num.val g n from Int.one_mul _, show Num.sg false * Num.val h n' = Num.val h n' from Int.one_mul _]
      have k2 := (Blk.new w #[.bool false, .slice A n cap] 296).alloc (.cells #[.bool false, .slice A' n' cap'] 92)
      have k3 := Blk.new (w.alloc (.cells #[.bool false, .slice A n cap] 296)) #[.bool false, .slice A' n' cap'] 92
      have hb0 := ((Below.refl w.heap.size w).alloc (Nat.le_refl _) (.cells #[.bool false, .slice A n cap] 296)).alloc (by simp) (.cells #[.bool false, .slice A' n' cap'] 92)
      simp only [World.size_alloc] at k2 k3
      have HB0 := Lib.hid hb0
      have HA := Lib.hid hag
      have HB := Lib.hid hah
      have HG := Lib.hid hdg
      have HH := Lib.hid hdh
      have HTG := Lib.hid tg
      have HTH := Lib.hid th
      clear hb0 k2 k3 hag hah hdg hdh tg th
      go_enter Tryz.func217, Tryz.ntmps217
      go_wp2_with (go_at_call 145; refine (compare_calls _ A A' n n' cap cap' g h (by omega) (by omega) (HA.out.below HB0.out) (HB.out.below HB0.out) HG.out HH.out HTG.out HTH.out).mono ?_; rintro e w4 ⟨rfl, hb4⟩; have HB4 := Lib.hid (HB0.out.trans (hb4.mono (by (simp; omega)))); clear hb4)
      go_ret
      exact ⟨rfl, HB4.out⟩
    · have hp : 0 < Num.val h n' := Num.val_pos hdh th (by rcases Nat.eq_zero_or_pos n' with h0 | h0; (exact absurd (hs' h0) (by simp)); exact h0)
      rw [cmpZ_gt (by simp only [Num.sg, if_true, Bool.false_eq_true, if_false]; omega)]
      have k2 := (Blk.new w #[.bool false, .slice A n cap] 296).alloc (.cells #[.bool true, .slice A' n' cap'] 92)
      have k3 := Blk.new (w.alloc (.cells #[.bool false, .slice A n cap] 296)) #[.bool true, .slice A' n' cap'] 92
      have hb0 := ((Below.refl w.heap.size w).alloc (Nat.le_refl _) (.cells #[.bool false, .slice A n cap] 296)).alloc (by simp) (.cells #[.bool true, .slice A' n' cap'] 92)
      simp only [World.size_alloc] at k2 k3
      have HB0 := Lib.hid hb0
      have HA := Lib.hid hag
      have HB := Lib.hid hah
      have HG := Lib.hid hdg
      have HH := Lib.hid hdh
      have HTG := Lib.hid tg
      have HTH := Lib.hid th
      clear hb0 k2 k3 hag hah hdg hdh tg th
      go_enter Tryz.func217, Tryz.ntmps217
      go_wp2
      go_ret
      exact ⟨rfl, HB0.out⟩
  · have hp : 0 < Num.val g n := Num.val_pos hdg tg (by rcases Nat.eq_zero_or_pos n with h0 | h0; (exact absurd (hs h0) (by simp)); exact h0)
    cases neg'
    · rw [cmpZ_lt (by simp only [Num.sg, if_true, Bool.false_eq_true, if_false]; omega)]
      have k2 := (Blk.new w #[.bool true, .slice A n cap] 296).alloc (.cells #[.bool false, .slice A' n' cap'] 92)
      have k3 := Blk.new (w.alloc (.cells #[.bool true, .slice A n cap] 296)) #[.bool false, .slice A' n' cap'] 92
      have hb0 := ((Below.refl w.heap.size w).alloc (Nat.le_refl _) (.cells #[.bool true, .slice A n cap] 296)).alloc (by simp) (.cells #[.bool false, .slice A' n' cap'] 92)
      simp only [World.size_alloc] at k2 k3
      have HB0 := Lib.hid hb0
      have HA := Lib.hid hag
      have HB := Lib.hid hah
      have HG := Lib.hid hdg
      have HH := Lib.hid hdh
      have HTG := Lib.hid tg
      have HTH := Lib.hid th
      clear hb0 k2 k3 hag hah hdg hdh tg th
      go_enter Tryz.func217, Tryz.ntmps217
      go_wp2
      go_ret
      exact ⟨rfl, HB0.out⟩
    · rw [show Num.sg true * Num.val g n = -Num.val g n from by simp [Num.sg], show Num.sg true * Num.val h n' = -Num.val h n' from by simp [Num.sg], cmpZ_neg]
      have k2 := (Blk.new w #[.bool true, .slice A n cap] 296).alloc (.cells #[.bool true, .slice A' n' cap'] 92)
      have k3 := Blk.new (w.alloc (.cells #[.bool true, .slice A n cap] 296)) #[.bool true, .slice A' n' cap'] 92
      have hb0 := ((Below.refl w.heap.size w).alloc (Nat.le_refl _) (.cells #[.bool true, .slice A n cap] 296)).alloc (by simp) (.cells #[.bool true, .slice A' n' cap'] 92)
      simp only [World.size_alloc] at k2 k3
      have HB0 := Lib.hid hb0
      have HA := Lib.hid hag
      have HB := Lib.hid hah
      have HG := Lib.hid hdg
      have HH := Lib.hid hdh
      have HTG := Lib.hid tg
      have HTH := Lib.hid th
      clear hb0 k2 k3 hag hah hdg hdh tg th
      go_enter Tryz.func217, Tryz.ntmps217
      go_wp2_with (go_at_call 145; refine (compare_calls _ A' A n' n cap' cap h g (by omega) (by omega) (HB.out.below HB0.out) (HA.out.below HB0.out) HH.out HG.out HTH.out HTG.out).mono ?_; rintro e w4 ⟨rfl, hb4⟩; have HB4 := Lib.hid (HB0.out.trans (hb4.mono (by (simp; omega)))); clear hb4)
      go_ret
      exact ⟨rfl, HB4.out⟩

set_option maxRecDepth 100000 in
set_option maxHeartbeats 1000000 in
theorem Cmp_calls (w : World) (neg neg' : Bool) (A A' : Option Addr) (n n' cap cap' : Nat) (x y : Int) (ha : WD w neg A n cap x) (hb : WD w neg' A' n' cap' y) :
    Calls Tryz.prog 172 #[.agg #[.bool neg, .slice A n cap], .agg #[.bool neg', .slice A' n' cap']] w (OkPost (.tuple #[.int .i64 (cmpZ x y), .int .i64 0]) w) := by
  have k2 := ((Blk.new w #[.bool neg, .slice A n cap] 92).alloc (.cells #[.bool neg', .slice A' n' cap'] 92)).alloc (.cells #[.bool neg, .slice A n cap, .bool neg', .slice A' n' cap'] 92)
  have k3 := (Blk.new (w.alloc (.cells #[.bool neg, .slice A n cap] 92)) #[.bool neg', .slice A' n' cap'] 92).alloc (.cells #[.bool neg, .slice A n cap, .bool neg', .slice A' n' cap'] 92)
  have k5 := Blk.new ((w.alloc (.cells #[.bool neg, .slice A n cap] 92)).alloc (.cells #[.bool neg', .slice A' n' cap'] 92)) #[.bool neg, .slice A n cap, .bool neg', .slice A' n' cap'] 92
  have hb0 := (((Below.refl w.heap.size w).alloc (Nat.le_refl _) (.cells #[.bool neg, .slice A n cap] 92)).alloc (by simp) (.cells #[.bool neg', .slice A' n' cap'] 92)).alloc (by simp; omega) (.cells #[.bool neg, .slice A n cap, .bool neg', .slice A' n' cap'] 92)
  simp only [World.size_alloc] at k2 k3 k5
  have K2 := Lib.hid k2
  have K3 := Lib.hid k3
  have K5 := Lib.hid k5
  have HB0 := Lib.hid hb0
  have HA := Lib.hid ha
  have HB := Lib.hid hb
  clear k2 k3 k5 hb0 ha hb
  go_enter Tryz.func172, Tryz.ntmps172
  go_wp2_with (first
    | (go_at_call 98; refine (check2 _ (w.heap.size + 1 + 1) 2 K5.out.lt neg neg' A A' n n' cap cap' x y (K5.out.at 0) (K5.out.at 1) (HA.out.below HB0.out) (K5.out.at 2) (K5.out.at 3) (HB.out.below HB0.out)).mono ?_; rintro e w4 ⟨rfl, hb4⟩; have hk2 := K2.out.below hb4; have hk3 := K3.out.below hb4; have hb := HB0.out.trans (hb4.mono (by (simp; omega))); have c20 := hk2.c0; have c21 := hk2.c1; have c30 := hk3.c0; have c31 := hk3.c1; have HBe := Lib.hid hb; clear hk2 hk3 hb hb4 K2 K3 K5 HB0)
    | (go_at_call 217; refine (to_calls _ neg neg' A A' n n' cap cap' x y (HA.out.below HBe.out) (HB.out.below HBe.out)).mono ?_; rintro e w5 ⟨rfl, hb5⟩; have HB5 := Lib.hid (HBe.out.trans (hb5.mono HBe.out.size)); clear hb5))
  go_ret2
  exact ⟨rfl, HB5.out⟩

set_option maxRecDepth 100000 in
set_option maxHeartbeats 1000000 in
theorem Sign_calls (w : World) (neg : Bool) (A : Option Addr) (n cap : Nat) (x : Int) (ha : WD w neg A n cap x) :
    Calls Tryz.prog 173 #[.agg #[.bool neg, .slice A n cap]] w (OkPost (.tuple #[.int .i64 (cmpZ x 0), .int .i64 0]) w) := by
  have HB0 := Lib.hid ((Below.refl w.heap.size w).alloc (Nat.le_refl _) (.cells #[.bool neg, .slice A n cap] 92))
  have HA := Lib.hid ha
  clear ha
  go_enter Tryz.func173, Tryz.ntmps173
  go_wp2_with (go_at_call 172; refine (Cmp_calls _ neg false A none n 0 cap 0 x 0 (HA.out.below HB0.out) (WD.zero _)).mono ?_; rintro e w5 ⟨rfl, hb5⟩; have HB5 := Lib.hid (HB0.out.trans (hb5.mono (by simp))); clear hb5)
  go_ret2
  exact ⟨rfl, HB5.out⟩

end Go.Proofs.YtilaheplclaokaaGreatDoor
namespace Go.Proofs.YtilaheplclaokaaGreatDoor
open Go.RowKit Go.Shelf
attribute [local go_sem] Oper.semAt_some

/-- A number times a power of 2, rounded down. -/
def shiftZ (x k : Int) : Int := if 0 ≤ k then x * 2 ^ k.toNat else x / 2 ^ (-k).toNat
theorem shiftZ_nat (x : Int) (k : Nat) : shiftZ x k = x * 2 ^ k := by simp [shiftZ]
theorem shiftZ_neg (x : Int) (k : Nat) (hk : 0 < k) : shiftZ x (-(k : Int)) = x / 2 ^ k := by
  unfold shiftZ
  rw [if_neg (by omega), show (- -(k : Int)).toNat = k by omega]

set_option maxRecDepth 100000 in
set_option maxHeartbeats 1000000 in
theorem Shift_far (w : World) (neg : Bool) (A : Option Addr) (n cap : Nat) (x k : Int) (ha : WD w neg A n cap x) (hk : k < -131072 ∨ 131072 < k) :
    Calls Tryz.prog 252 #[.agg #[.bool neg, .slice A n cap], .int .i64 k] w (OkPost (.tuple #[.agg #[.bool false, .slice none 0 0], .int .i64 2]) w) := by
  have k2 := ((Blk.new w #[.bool neg, .slice A n cap] 92).alloc (.cells #[.bool false, .slice none 0 0] 92)).alloc (.cells #[.bool neg, .slice A n cap] 92)
  have k4 := (Blk.new (w.alloc (.cells #[.bool neg, .slice A n cap] 92)) #[.bool false, .slice none 0 0] 92).alloc (.cells #[.bool neg, .slice A n cap] 92)
  have k5 := Blk.new ((w.alloc (.cells #[.bool neg, .slice A n cap] 92)).alloc (.cells #[.bool false, .slice none 0 0] 92)) #[.bool neg, .slice A n cap] 92
  have hb0 := (((Below.refl w.heap.size w).alloc (Nat.le_refl _) (.cells #[.bool neg, .slice A n cap] 92)).alloc (by simp) (.cells #[.bool false, .slice none 0 0] 92)).alloc (by simp; omega) (.cells #[.bool neg, .slice A n cap] 92)
  simp only [World.size_alloc] at k2 k4 k5
  have K2 := Lib.hid k2
  have K4 := Lib.hid k4
  have K5 := Lib.hid k5
  have HB0 := Lib.hid hb0
  have HA := Lib.hid ha
  clear k2 k4 k5 hb0 ha
  by_cases hk1 : k < -131072
  all_goals
    go_enter Tryz.func252, Tryz.ntmps252
    go_wp2_with (first
      | (go_at_call 98; refine (check1 _ (w.heap.size + 1 + 1) 1 K5.out.lt neg A n cap x K5.out.c0 K5.out.c1 (HA.out.below HB0.out)).mono ?_; rintro e w4 ⟨rfl, hb4⟩; have hk2 := K2.out.below hb4; have hk4 := K4.out.below hb4; have hb := HB0.out.trans (hb4.mono (by (simp; omega))); have c20 := hk2.c0; have c21 := hk2.c1; have f0 := hk4.c0; have f1 := hk4.c1; have f2 := hk4.fr 0; have f3 := hk4.fr 1; have HK2 := Lib.hid hk2; have HK4 := Lib.hid hk4; have HBe := Lib.hid hb; have hsz := hk4.lt; clear hk2 hk4 hb hb4 K2 K4 K5 HB0)
      )
    have h8 := HK4.out.set2 (.bool false) (.slice none 0 0)
    have r0 := h8.c0
    have r1 := h8.c1
    refine bodyPost_ret (v := .tuple #[.agg #[.bool false, .slice none 0 0], .int .i64 2]) (by simp [results, Tryz.results252, go_sem, r0, r1]) rfl ?_
    exact ⟨rfl, below_set2 HBe.out (w.heap.size + 1) (by omega) _ _⟩

set_option maxRecDepth 100000 in
set_option maxHeartbeats 1000000 in
theorem Shift_pos (w : World) (neg : Bool) (A : Option Addr) (n cap : Nat) (x : Int) (k : Nat) (ha : WD w neg A n cap x) (hk : k ≤ 131072) :
    Calls Tryz.prog 252 #[.agg #[.bool neg, .slice A n cap], .int .i64 k] w (NumPost (x * 2 ^ k) w) := by
  have k2 := ((Blk.new w #[.bool neg, .slice A n cap] 92).alloc (.cells #[.bool false, .slice none 0 0] 92)).alloc (.cells #[.bool neg, .slice A n cap] 92)
  have k4 := (Blk.new (w.alloc (.cells #[.bool neg, .slice A n cap] 92)) #[.bool false, .slice none 0 0] 92).alloc (.cells #[.bool neg, .slice A n cap] 92)
  have k5 := Blk.new ((w.alloc (.cells #[.bool neg, .slice A n cap] 92)).alloc (.cells #[.bool false, .slice none 0 0] 92)) #[.bool neg, .slice A n cap] 92
  have hb0 := (((Below.refl w.heap.size w).alloc (Nat.le_refl _) (.cells #[.bool neg, .slice A n cap] 92)).alloc (by simp) (.cells #[.bool false, .slice none 0 0] 92)).alloc (by simp; omega) (.cells #[.bool neg, .slice A n cap] 92)
  simp only [World.size_alloc] at k2 k4 k5
  have K2 := Lib.hid k2
  have K4 := Lib.hid k4
  have K5 := Lib.hid k5
  have HB0 := Lib.hid hb0
  have HA := Lib.hid ha
  clear k2 k4 k5 hb0 ha
  have hk1 : ¬ (k : Int) < -131072 := by omega
  have hk2 : ¬ (k : Int) > 131072 := by omega
  go_enter Tryz.func252, Tryz.ntmps252
  go_wp2_with (first
    | (go_at_call 98; refine (check1 _ (w.heap.size + 1 + 1) 1 K5.out.lt neg A n cap x K5.out.c0 K5.out.c1 (HA.out.below HB0.out)).mono ?_; rintro e w4 ⟨rfl, hb4⟩; have hk2 := K2.out.below hb4; have hk4 := K4.out.below hb4; have hb := HB0.out.trans (hb4.mono (by (simp; omega))); have c20 := hk2.c0; have c21 := hk2.c1; have HK2 := Lib.hid hk2; have HK4 := Lib.hid hk4; have HBe := Lib.hid hb; have hsz := hk4.lt; clear hk2 hk4 hb hb4 K2 K4 K5 HB0)
    )
  clear c20 c21
  obtain ⟨g, _, hn, hdg, hag, tg, _, rfl⟩ := HA.out.below HBe.out
  have hS : Blk w4.drew w.heap.size #[.bool neg, .slice A n cap] 92 := HK2.out
  have hbe : Below w.heap.size w w4.drew := below_drewN HBe.out 1
  have hk4 : Blk w4.drew (w.heap.size + 1) #[.bool false, .slice none 0 0] 92 := HK4.out
  have hag5 : At w4.drew A g n := hag
  clear HK2 HK4 HBe HA hag hsz
  refine wp_region_any (by kernel_rfl) ?_
  refine wpAny_of_held (S := fun W' => Blk W' w.heap.size #[.bool neg, .slice A n cap] 92) _ _ _ _ ?_
  refine wpAnyH_take (i := 0) (v := .pointer (some ⟨w.heap.size, 0, none⟩)) rfl (by kernel_rfl) (by kernel_rfl) (by kernel_rfl) (fun _ _ _ h => h) (.inl ⟨rfl, fun w0 hw0 => ?a0⟩) hS ?_
  case a0 =>
    have e0 := hw0.c0; have e1 := hw0.c1
    go_simp
  refine wpAnyH_take (i := 1) (v := .bool neg) rfl (by kernel_rfl) (by kernel_rfl) (by kernel_rfl) (fun _ _ _ h => h) (.inl ⟨rfl, fun w0 hw0 => ?a1⟩) hS ?_
  case a1 =>
    have e0 := hw0.c0; have e1 := hw0.c1
    go_simp
  refine wpAnyH_take (i := 2) (v := .pointer (some ⟨w.heap.size, 1, none⟩)) rfl (by kernel_rfl) (by kernel_rfl) (by kernel_rfl) (fun _ _ _ h => h) (.inl ⟨rfl, fun w0 hw0 => ?a2⟩) hS ?_
  case a2 =>
    have e0 := hw0.c0; have e1 := hw0.c1
    go_simp
  refine wpAnyH_take (i := 3) (v := .slice A n cap) rfl (by kernel_rfl) (by kernel_rfl) (by kernel_rfl) (fun _ _ _ h => h) (.inl ⟨rfl, fun w0 hw0 => ?a3⟩) hS ?_
  case a3 =>
    have e0 := hw0.c0; have e1 := hw0.c1
    go_simp
  refine wpAnyH_take (i := 4) (v := .int .i64 (k : Int)) rfl (by kernel_rfl) (by kernel_rfl) (by kernel_rfl) (fun _ _ _ h => h) (.inl ⟨rfl, fun w0 hw0 => ?a4⟩) hS ?_
  case a4 =>
    have e0 := hw0.c0; have e1 := hw0.c1
    go_simp
  refine wpAnyH_all (rs := [5]) (by kernel_rfl) (by simp) ?_
  intro i0 hi0
  obtain rfl : i0 = 5 := by simpa using hi0
  refine wpOp_plain rfl rfl fun K' hK' => ?_
  go_simp
  generalize w4.drew = w5 at *
  refine (left_calls w5 A n cap k g hdg (by omega) (by omega) hag5).mono ?_
  rintro e w6 ⟨Ab, capb, o, rfl, hcb, hnew, hdo, hvo, hb6⟩
  have hS : Blk w6 w.heap.size #[.bool neg, .slice A n cap] 92 := hS.below hb6
  have hk4 := hk4.below hb6
  have hbe := hbe.trans (hb6.mono hbe.size)
  refine hK' _ _ ⟨hS, ?_⟩
  clear hK' K'
  refine wpAnyH_all (rs := [6]) (by kernel_rfl) (by simp) ?_
  intro i0 hi0
  obtain rfl : i0 = 6 := by simpa using hi0
  refine wpOp_plain rfl rfl fun K' hK' => ?_
  go_simp
  refine (made_calls w6 neg Ab (k / 32 + n + 1) capb o hdo hcb (by omega) hnew.at).mono ?_
  rintro e w7 ⟨v, rfl, hwid, hb7⟩
  obtain ⟨neg2, A2, n2, cap2, rfl, hwd⟩ := hwid
  rw [hvo, ← Int.mul_assoc] at hwd ⊢
  have hS : Blk w7 w.heap.size #[.bool neg, .slice A n cap] 92 := hS.below hb7
  have hk4 := hk4.below hb7
  have hbe := hbe.trans (hb7.mono hbe.size)
  refine hK' _ _ ⟨hS, ?_⟩
  clear hK' K'
  generalize Num.sg neg * Num.val g n * 2 ^ k = x at *
  refine wpAnyH_take (i := 7) (v := .agg #[.bool neg2, .slice A2 n2 cap2]) rfl (by kernel_rfl) (by kernel_rfl) (by kernel_rfl) (fun _ _ _ h => h) (.inl ⟨rfl, fun w0 hw0 => ?a7⟩) hS ?_
  case a7 =>
    have e0 := hw0.c0; have e1 := hw0.c1
    go_simp
  refine wpAnyH_take (i := 8) (v := .int .i64 (Num.ferr x)) rfl (by kernel_rfl) (by kernel_rfl) (by kernel_rfl) (fun _ _ _ h => h) (.inl ⟨rfl, fun w0 hw0 => ?a8⟩) hS ?_
  case a8 =>
    have e0 := hw0.c0; have e1 := hw0.c1
    go_simp
  have f0 := hk4.c0
  have f1 := hk4.c1
  have f2 := hk4.fr 0
  have f3 := hk4.fr 1
  refine wpAnyH_all (rs := [9]) (by kernel_rfl) (by simp) ?_
  intro i0 hi0
  obtain rfl : i0 = 9 := by simpa using hi0
  refine wpOp_plain rfl rfl fun K' hK' => ?_
  go_simp
  have h8 := hk4.set2 (.bool neg2) (.slice A2 n2 cap2)
  have hwd8 := hwd.set2 hk4 (.bool neg2) (.slice A2 n2 cap2)
  have hbe8 := below_set2 hbe (w.heap.size + 1) (by omega) (.bool neg2) (.slice A2 n2 cap2)
  have hS : Blk ((w7.setCell ⟨w.heap.size + 1, 0, none⟩ (.bool neg2)).setCell ⟨w.heap.size + 1, 1, none⟩ (.slice A2 n2 cap2)) w.heap.size #[.bool neg, .slice A n cap] 92 := hS.far2 _ _ _ (by omega)
  clear hbe hwd hk4 f0 f1 f2 f3
  generalize (w7.setCell ⟨w.heap.size + 1, 0, none⟩ (.bool neg2)).setCell ⟨w.heap.size + 1, 1, none⟩ (.slice A2 n2 cap2) = w8 at *
  refine hK' _ _ ⟨hS, ?_⟩
  clear hK' K'
  refine wpAnyH_take (i := 10) (v := .int .i64 (Num.ferr x)) rfl (by kernel_rfl) (by kernel_rfl) (by kernel_rfl) (fun _ _ _ h => h) (.inl ⟨rfl, fun w0 hw0 => ?a10⟩) hS ?_
  case a10 =>
    have e0 := hw0.c0; have e1 := hw0.c1
    go_simp
  refine wpAnyH_done (by kernel_rfl) ?_ _
  have r0 := h8.c0
  have r1 := h8.c1
  have HW8 := Lib.hid hwd8
  have HBe8 := Lib.hid hbe8
  clear hS hwd8 hbe8 h8
  go_wp2
  refine bodyPost_ret (v := .tuple #[.agg #[.bool neg2, .slice A2 n2 cap2], .int .i64 (Num.ferr x)]) (by simp [results, Tryz.results252, go_sem, r0, r1]) rfl ?_
  exact ⟨_, rfl, ⟨neg2, A2, n2, cap2, rfl, HW8.out⟩, HBe8.out⟩

theorem floor_even (v p : Int) (hp : 0 < p) (h : v % p = 0) : -(v / p) = (-v) / p := by
  rw [Int.neg_ediv_of_dvd (Int.dvd_of_emod_eq_zero h)]
theorem floor_odd (v p : Int) (hp : 0 < p) (h : v % p ≠ 0) : -(v / p + 1) = (-v) / p := by
  have h1 := Int.mul_ediv_add_emod v p
  have h2 := Int.emod_nonneg v (show p ≠ 0 by omega)
  have h3 := Int.emod_lt_of_pos v hp
  have := (Int.ediv_emod_unique (a := -v) (b := p) (r := p - v % p) (q := -(v / p + 1)) hp).2 ⟨by
    have e : p * -(v / p + 1) = -(p * (v / p)) - p := by grind
    omega, by omega, by omega⟩
  exact this.1.symm

set_option maxRecDepth 100000 in
set_option maxHeartbeats 1000000 in
theorem Shift_neg0 (w : World) (A : Option Addr) (n cap : Nat) (x : Int) (k : Nat) (ha : WD w false A n cap x) (hk0 : 0 < k) (hk : k ≤ 131072) :
    Calls Tryz.prog 252 #[.agg #[.bool false, .slice A n cap], .int .i64 (-(k : Int))] w (NumPost (x / 2 ^ k) w) := by
  have k2 := ((Blk.new w #[.bool false, .slice A n cap] 92).alloc (.cells #[.bool false, .slice none 0 0] 92)).alloc (.cells #[.bool false, .slice A n cap] 92)
  have k4 := (Blk.new (w.alloc (.cells #[.bool false, .slice A n cap] 92)) #[.bool false, .slice none 0 0] 92).alloc (.cells #[.bool false, .slice A n cap] 92)
  have k5 := Blk.new ((w.alloc (.cells #[.bool false, .slice A n cap] 92)).alloc (.cells #[.bool false, .slice none 0 0] 92)) #[.bool false, .slice A n cap] 92
  have hb0 := (((Below.refl w.heap.size w).alloc (Nat.le_refl _) (.cells #[.bool false, .slice A n cap] 92)).alloc (by simp) (.cells #[.bool false, .slice none 0 0] 92)).alloc (by simp; omega) (.cells #[.bool false, .slice A n cap] 92)
  simp only [World.size_alloc] at k2 k4 k5
  have K2 := Lib.hid k2
  have K4 := Lib.hid k4
  have K5 := Lib.hid k5
  have HB0 := Lib.hid hb0
  have HA := Lib.hid ha
  clear k2 k4 k5 hb0 ha
  have hk1 : ¬ -(k : Int) < -131072 := by omega
  have hk2 : ¬ -(k : Int) > 131072 := by omega
  have hk3 : ¬ 0 ≤ -(k : Int) := by omega
  have hk5 : ¬ (131072 : Int) < k := by omega
  have hk6 : (k : Int) ≤ 131072 := by omega
  go_enter Tryz.func252, Tryz.ntmps252
  go_wp2_with (first
    | (go_at_call 98; refine (check1 _ (w.heap.size + 1 + 1) 1 K5.out.lt false A n cap x K5.out.c0 K5.out.c1 (HA.out.below HB0.out)).mono ?_; rintro e w4 ⟨rfl, hb4⟩; have hk2 := K2.out.below hb4; have hk4 := K4.out.below hb4; have hb := HB0.out.trans (hb4.mono (by (simp; omega))); have c20 := hk2.c0; have c21 := hk2.c1; have HK2 := Lib.hid hk2; have HK4 := Lib.hid hk4; have HBe := Lib.hid hb; have hsz := hk4.lt; clear hk2 hk4 hb hb4 K2 K4 K5 HB0)
    | (go_at_call 151; obtain ⟨g, hncap, hn, hdg, hag, tg, _, hx⟩ := HA.out.below HBe.out; have hsame : Num.val g n = x := (by rw [hx]; simp [Num.sg]); have hr := right_calls _ A n cap k g (by omega) (by omega) hncap hag hdg; rw [hsame] at hr; refine hr.mono ?_; rintro e w5 ⟨bo, o, rfl, hbo, hbs, hdo, hvo, hb5⟩; skip; have hk2' := HK2.out.below hb5; have hk4' := HK4.out.below hb5; have d20 := hk2'.c0; have d21 := hk2'.c1; have HK4b := Lib.hid hk4'; have HBo := Lib.hid hbo; have HDo := Lib.hid hdo; have HVo := Lib.hid hvo; have HB5 := Lib.hid (HBe.out.trans (hb5.mono HBe.out.size)); have hsz5 := hk4'.lt; clear hk2' hk4' hbo hdo hvo hb5 hdg hag tg hx hsame HA hr HK4)
    | (go_at_call 99; refine (made_calls _ false (some ⟨bo, 0, none⟩) (n - k / 32) (n - k / 32) o HDo.out (Nat.le_refl _) (by omega) HBo.out.at).mono ?_; rw [HVo.out, show Num.sg false * (x / 2 ^ k) = x / 2 ^ k from Int.one_mul _]; rintro e w6 ⟨v, rfl, hwid, hb6⟩; obtain ⟨neg2, A2, n2, cap2, rfl, hwd⟩ := hwid; have hk4 := HK4b.out.below hb6; have f0 := hk4.c0; have f1 := hk4.c1; have f2 := hk4.fr 0; have f3 := hk4.fr 1; have HK4' := Lib.hid hk4; have HWd := Lib.hid hwd; have HB6 := HB5; have HB5 := Lib.hid (HB6.out.trans (hb6.mono HB6.out.size)); clear hk4 hwd hb6 HK4b HBo HDo HVo HB6))
  all_goals (try (exfalso; omega))
  generalize x / 2 ^ k = x at *
  have h8 := HK4'.out.set2 (.bool neg2) (.slice A2 n2 cap2)
  have r0 := h8.c0
  have r1 := h8.c1
  refine bodyPost_ret (v := .tuple #[.agg #[.bool neg2, .slice A2 n2 cap2], .int .i64 (Num.ferr (x))]) (by simp [results, Tryz.results252, go_sem, r0, r1]) rfl ?_
  exact ⟨_, rfl, ⟨neg2, A2, n2, cap2, rfl, HWd.out.set2 HK4'.out _ _⟩, below_set2 HB5.out (w.heap.size + 1) (by omega) _ _⟩

set_option maxRecDepth 100000 in
set_option maxHeartbeats 1000000 in
theorem Shift_neg1 (w : World) (A : Option Addr) (n cap : Nat) (x : Int) (k : Nat) (ha : WD w true A n cap x) (hk0 : 0 < k) (hk : k ≤ 131072) (h0 : (-x) % 2 ^ k = 0) :
    Calls Tryz.prog 252 #[.agg #[.bool true, .slice A n cap], .int .i64 (-(k : Int))] w (NumPost (x / 2 ^ k) w) := by
  have HFl := Lib.hid (floor_even (-x) (2 ^ k) (Int.pow_pos (by omega)) h0)
  have HDec : Hid (decide ((-x) % 2 ^ k ≠ 0) = false) := Lib.hid (by simp [h0])
  rw [Int.neg_neg] at HFl
  clear h0
  have k2 := ((Blk.new w #[.bool true, .slice A n cap] 92).alloc (.cells #[.bool false, .slice none 0 0] 92)).alloc (.cells #[.bool true, .slice A n cap] 92)
  have k4 := (Blk.new (w.alloc (.cells #[.bool true, .slice A n cap] 92)) #[.bool false, .slice none 0 0] 92).alloc (.cells #[.bool true, .slice A n cap] 92)
  have k5 := Blk.new ((w.alloc (.cells #[.bool true, .slice A n cap] 92)).alloc (.cells #[.bool false, .slice none 0 0] 92)) #[.bool true, .slice A n cap] 92
  have hb0 := (((Below.refl w.heap.size w).alloc (Nat.le_refl _) (.cells #[.bool true, .slice A n cap] 92)).alloc (by simp) (.cells #[.bool false, .slice none 0 0] 92)).alloc (by simp; omega) (.cells #[.bool true, .slice A n cap] 92)
  simp only [World.size_alloc] at k2 k4 k5
  have K2 := Lib.hid k2
  have K4 := Lib.hid k4
  have K5 := Lib.hid k5
  have HB0 := Lib.hid hb0
  have HA := Lib.hid ha
  clear k2 k4 k5 hb0 ha
  have hk1 : ¬ -(k : Int) < -131072 := by omega
  have hk2 : ¬ -(k : Int) > 131072 := by omega
  have hk3 : ¬ 0 ≤ -(k : Int) := by omega
  have hk5 : ¬ (131072 : Int) < k := by omega
  have hk6 : (k : Int) ≤ 131072 := by omega
  go_enter Tryz.func252, Tryz.ntmps252
  go_wp2_with (first
    | (go_at_call 98; refine (check1 _ (w.heap.size + 1 + 1) 1 K5.out.lt true A n cap x K5.out.c0 K5.out.c1 (HA.out.below HB0.out)).mono ?_; rintro e w4 ⟨rfl, hb4⟩; have hk2 := K2.out.below hb4; have hk4 := K4.out.below hb4; have hb := HB0.out.trans (hb4.mono (by (simp; omega))); have c20 := hk2.c0; have c21 := hk2.c1; have HK2 := Lib.hid hk2; have HK4 := Lib.hid hk4; have HBe := Lib.hid hb; have hsz := hk4.lt; clear hk2 hk4 hb hb4 K2 K4 K5 HB0)
    | (go_at_call 151; obtain ⟨g, hncap, hn, hdg, hag, tg, _, hx⟩ := HA.out.below HBe.out; have hsame : Num.val g n = -x := (by rw [hx]; simp [Num.sg]); have hr := right_calls _ A n cap k g (by omega) (by omega) hncap hag hdg; rw [hsame] at hr; refine hr.mono ?_; rintro e w5 ⟨bo, o, rfl, hbo, hbs, hdo, hvo, hb5⟩; rw [HDec.out]; have hk2' := HK2.out.below hb5; have hk4' := HK4.out.below hb5; have d20 := hk2'.c0; have d21 := hk2'.c1; have HK4b := Lib.hid hk4'; have HBo := Lib.hid hbo; have HDo := Lib.hid hdo; have HVo := Lib.hid hvo; have HB5 := Lib.hid (HBe.out.trans (hb5.mono HBe.out.size)); have hsz5 := hk4'.lt; clear hk2' hk4' hbo hdo hvo hb5 hdg hag tg hx hsame HA hr HK4)
    | (go_at_call 99; refine (made_calls _ true (some ⟨bo, 0, none⟩) (n - k / 32) (n - k / 32) o HDo.out (Nat.le_refl _) (by omega) HBo.out.at).mono ?_; rw [HVo.out, show Num.sg true * (-x / 2 ^ k) = x / 2 ^ k from by rw [← HFl.out]; simp [Num.sg]]; rintro e w6 ⟨v, rfl, hwid, hb6⟩; obtain ⟨neg2, A2, n2, cap2, rfl, hwd⟩ := hwid; have hk4 := HK4b.out.below hb6; have f0 := hk4.c0; have f1 := hk4.c1; have f2 := hk4.fr 0; have f3 := hk4.fr 1; have HK4' := Lib.hid hk4; have HWd := Lib.hid hwd; have HB6 := HB5; have HB5 := Lib.hid (HB6.out.trans (hb6.mono HB6.out.size)); clear hk4 hwd hb6 HK4b HBo HDo HVo HB6))
  all_goals (try (exfalso; omega))
  generalize x / 2 ^ k = x at *
  have h8 := HK4'.out.set2 (.bool neg2) (.slice A2 n2 cap2)
  have r0 := h8.c0
  have r1 := h8.c1
  refine bodyPost_ret (v := .tuple #[.agg #[.bool neg2, .slice A2 n2 cap2], .int .i64 (Num.ferr (x))]) (by simp [results, Tryz.results252, go_sem, r0, r1]) rfl ?_
  exact ⟨_, rfl, ⟨neg2, A2, n2, cap2, rfl, HWd.out.set2 HK4'.out _ _⟩, below_set2 HB5.out (w.heap.size + 1) (by omega) _ _⟩

set_option maxRecDepth 100000 in
set_option maxHeartbeats 1000000 in
theorem Shift_neg2 (w : World) (A : Option Addr) (n cap : Nat) (x : Int) (k : Nat) (ha : WD w true A n cap x) (hk0 : 0 < k) (hk : k ≤ 131072) (h0 : (-x) % 2 ^ k ≠ 0) :
    Calls Tryz.prog 252 #[.agg #[.bool true, .slice A n cap], .int .i64 (-(k : Int))] w (NumPost (x / 2 ^ k) w) := by
  have HFl := Lib.hid (floor_odd (-x) (2 ^ k) (Int.pow_pos (by omega)) h0)
  have HDec : Hid (decide ((-x) % 2 ^ k ≠ 0) = true) := Lib.hid (by simp [h0])
  rw [Int.neg_neg] at HFl
  clear h0
  have k2 := ((Blk.new w #[.bool true, .slice A n cap] 92).alloc (.cells #[.bool false, .slice none 0 0] 92)).alloc (.cells #[.bool true, .slice A n cap] 92)
  have k4 := (Blk.new (w.alloc (.cells #[.bool true, .slice A n cap] 92)) #[.bool false, .slice none 0 0] 92).alloc (.cells #[.bool true, .slice A n cap] 92)
  have k5 := Blk.new ((w.alloc (.cells #[.bool true, .slice A n cap] 92)).alloc (.cells #[.bool false, .slice none 0 0] 92)) #[.bool true, .slice A n cap] 92
  have hb0 := (((Below.refl w.heap.size w).alloc (Nat.le_refl _) (.cells #[.bool true, .slice A n cap] 92)).alloc (by simp) (.cells #[.bool false, .slice none 0 0] 92)).alloc (by simp; omega) (.cells #[.bool true, .slice A n cap] 92)
  simp only [World.size_alloc] at k2 k4 k5
  have K2 := Lib.hid k2
  have K4 := Lib.hid k4
  have K5 := Lib.hid k5
  have HB0 := Lib.hid hb0
  have HA := Lib.hid ha
  clear k2 k4 k5 hb0 ha
  have hk1 : ¬ -(k : Int) < -131072 := by omega
  have hk2 : ¬ -(k : Int) > 131072 := by omega
  have hk3 : ¬ 0 ≤ -(k : Int) := by omega
  have hk5 : ¬ (131072 : Int) < k := by omega
  have hk6 : (k : Int) ≤ 131072 := by omega
  go_enter Tryz.func252, Tryz.ntmps252
  go_wp2_with (first
    | (go_at_call 98; refine (check1 _ (w.heap.size + 1 + 1) 1 K5.out.lt true A n cap x K5.out.c0 K5.out.c1 (HA.out.below HB0.out)).mono ?_; rintro e w4 ⟨rfl, hb4⟩; have hk2 := K2.out.below hb4; have hk4 := K4.out.below hb4; have hb := HB0.out.trans (hb4.mono (by (simp; omega))); have c20 := hk2.c0; have c21 := hk2.c1; have HK2 := Lib.hid hk2; have HK4 := Lib.hid hk4; have HBe := Lib.hid hb; have hsz := hk4.lt; clear hk2 hk4 hb hb4 K2 K4 K5 HB0)
    | (go_at_call 151; obtain ⟨g, hncap, hn, hdg, hag, tg, _, hx⟩ := HA.out.below HBe.out; have hsame : Num.val g n = -x := (by rw [hx]; simp [Num.sg]); have hr := right_calls _ A n cap k g (by omega) (by omega) hncap hag hdg; rw [hsame] at hr; refine hr.mono ?_; rintro e w5 ⟨bo, o, rfl, hbo, hbs, hdo, hvo, hb5⟩; rw [HDec.out]; have hk2' := HK2.out.below hb5; have hk4' := HK4.out.below hb5; have d20 := hk2'.c0; have d21 := hk2'.c1; have HK4b := Lib.hid hk4'; have HBo := Lib.hid hbo; have HDo := Lib.hid hdo; have HVo := Lib.hid hvo; have HB5 := Lib.hid (HBe.out.trans (hb5.mono HBe.out.size)); have hsz5 := hk4'.lt; clear hk2' hk4' hbo hdo hvo hb5 hdg hag tg hx hsame HA hr HK4)
    | (go_at_call 103; refine (plus_calls _ (some ⟨bo, 0, none⟩) (some ⟨w5.heap.size, 0, none⟩) (n - k / 32) 1 (n - k / 32) 1 o (fun _ => 1) HDo.out (fun i hi => ⟨by show (0 : Int) ≤ 1; omega, by show (1 : Int) < 4294967296; omega⟩) (by omega) (by omega) (HBo.out.at.below ((Below.refl _ w5).alloc (Nat.le_refl _) _)) (fun _ => ⟨w5.heap.size, 0, rfl, by simp, fun i hi => by obtain rfl : i = 0 := (by omega); rw [World.cell?_alloc_at _ _ _ _ rfl]; rfl⟩)).mono ?_; rintro e w7 ⟨b7, o7, rfl, hbo7, hdo7, hvo7, hb7, hbe7⟩; have hb57 := ((Below.refl w5.heap.size w5).alloc (Nat.le_refl _) (.cells #[.int .u32 1] 175)).trans (hbe7.mono (by simp)); have hk4' := HK4b.out.below hb57; have HK4x := HK4b; have HB5x := HB5; have hd20 := (hb57.cell (p := ⟨w.heap.size, 0, none⟩) (by show w.heap.size < _; omega)).trans d20; have HK4b := Lib.hid hk4'; have HB5 := Lib.hid (HB5x.out.trans (hb57.mono HB5x.out.size)); have HBo7 := Lib.hid hbo7; have HDo7 := Lib.hid hdo7; have HVo7 : Hid (Num.val o7 (max (n - k / 32) 1 + 1) = -x / 2 ^ k + 1) := Lib.hid (by rw [hvo7, HVo.out]; simp [Num.val, Num.P_zero]); clear HK4x HB5x hk4' hbo7 hdo7 hvo7 hbe7 hb57)
    | (go_at_call 99; refine (made_calls _ true (some ⟨b7, 0, none⟩) (max (n - k / 32) 1 + 1) (max (n - k / 32) 1 + 1) o7 HDo7.out (Nat.le_refl _) (by omega) HBo7.out.at).mono ?_; rw [HVo7.out, show Num.sg true * (-x / 2 ^ k + 1) = x / 2 ^ k from by rw [← HFl.out]; simp [Num.sg]]; rintro e w6 ⟨v, rfl, hwid, hb6⟩; obtain ⟨neg2, A2, n2, cap2, rfl, hwd⟩ := hwid; have hk4 := HK4b.out.below hb6; have f0 := hk4.c0; have f1 := hk4.c1; have f2 := hk4.fr 0; have f3 := hk4.fr 1; have HK4' := Lib.hid hk4; have HWd := Lib.hid hwd; have HB6 := HB5; have HB5 := Lib.hid (HB6.out.trans (hb6.mono HB6.out.size)); clear hk4 hwd hb6 HK4b HBo HDo HVo HB6))
  all_goals (try (exfalso; omega))
  generalize x / 2 ^ k = x at *
  have h8 := HK4'.out.set2 (.bool neg2) (.slice A2 n2 cap2)
  have r0 := h8.c0
  have r1 := h8.c1
  refine bodyPost_ret (v := .tuple #[.agg #[.bool neg2, .slice A2 n2 cap2], .int .i64 (Num.ferr (x))]) (by simp [results, Tryz.results252, go_sem, r0, r1]) rfl ?_
  exact ⟨_, rfl, ⟨neg2, A2, n2, cap2, rfl, HWd.out.set2 HK4'.out _ _⟩, below_set2 HB5.out (w.heap.size + 1) (by omega) _ _⟩

theorem Shift_calls (w : World) (neg : Bool) (A : Option Addr) (n cap : Nat) (x k : Int) (ha : WD w neg A n cap x) (hk : -131072 ≤ k ∧ k ≤ 131072) :
    Calls Tryz.prog 252 #[.agg #[.bool neg, .slice A n cap], .int .i64 k] w (NumPost (shiftZ x k) w) := by
  rcases Int.lt_or_le k 0 with h | h
  · obtain ⟨m, rfl⟩ : ∃ m : Nat, k = -(m : Int) := ⟨(-k).toNat, by omega⟩
    rw [shiftZ_neg x m (by omega)]
    cases neg
    · exact Shift_neg0 w A n cap x m ha (by omega) (by omega)
    · by_cases h0 : (-x) % 2 ^ m = 0
      · exact Shift_neg1 w A n cap x m ha (by omega) (by omega) h0
      · exact Shift_neg2 w A n cap x m ha (by omega) (by omega) h0
  · obtain ⟨m, rfl⟩ := Int.eq_ofNat_of_zero_le h
    rw [shiftZ_nat]
    exact Shift_pos w neg A n cap x m ha (by omega)

end Go.Proofs.YtilaheplclaokaaGreatDoor

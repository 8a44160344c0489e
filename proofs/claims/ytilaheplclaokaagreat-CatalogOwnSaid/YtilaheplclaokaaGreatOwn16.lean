/-
Walks of the references: planisphereref03.Check, planisphereref17.Check (exact), planisphereref19.Check (what it says when it is 0).
Walks of catalog.Place and direction at a valid star.
Walks of catalog.direction and checkAll.
Walk of catalog.Cone at the place of its only star.
Walk of catalog.Cone at the place of its only star.
Walk of catalog.Shift at a star without a parallax.
Laws on a map of one entry and on rows of slices, as catalog.Zones makes them.
Walk of catalog.Zones at a star that has a place.
Walks for the law CatalogOwn: planisphereref19.Check (what it says when it is 0), and the law's own helpers given, at, alive, great.
Walks of the law CatalogOwn's helpers: given, at, alive, great (one star); a place at the epoch.
Two intervals, and two vectors, are compared.
-/
import Derived.Laws.Append
import Derived.MapKept
import Derived.ChangeKeysEq
import Derived.Laws.StructEq
import Derived.Test.YtilaheplclaokaaGreatOwn01
import Derived.Test.YtilaheplclaokaaGreatOwn15
set_option linter.unusedVariables false
set_option linter.unusedSimpArgs false
namespace Go.Proofs.YtilaheplclaokaaGreat
open Go.RowKit Go.Shelf
attribute [local go_sem] Oper.semAt_some

set_option maxRecDepth 100000 in
set_option maxHeartbeats 1000000 in
theorem rivCheck_calls (w : World) (x y : Int) :
    Calls Tryz.prog 73 #[.agg #[.int .i64 x, .int .i64 y]] w (OkPost (.int .i64 (ivE (ivB x y))) w) := by
  have E := (Env.start w).alloc #[.int .i64 x, .int .i64 y] 31
  have HE := Lib.hid E
  clear E
  by_cases h1 : y < x
  · have HB : Hid (ivB x y = false) := Lib.hid (ivB_not (.inl h1))
    go_enter Tryz.func73, Tryz.ntmps73
    go_wp2
    go_ret
    exact ⟨by rw [HB.out]; rfl, HE.out.bel⟩
  by_cases h2 : x < -2305843009213693952
  · have HB : Hid (ivB x y = false) := Lib.hid (ivB_not (.inr (.inl h2)))
    go_enter Tryz.func73, Tryz.ntmps73
    go_wp2
    go_ret
    exact ⟨by rw [HB.out]; rfl, HE.out.bel⟩
  by_cases h3 : 2305843009213693952 < y
  · have HB : Hid (ivB x y = false) := Lib.hid (ivB_not (.inr (.inr h3)))
    go_enter Tryz.func73, Tryz.ntmps73
    go_wp2
    go_ret
    exact ⟨by rw [HB.out]; rfl, HE.out.bel⟩
  have HB : Hid (ivB x y = true) := Lib.hid (ivB_of h1 h2 h3)
  go_enter Tryz.func73, Tryz.ntmps73
  go_wp2
  go_ret
  exact ⟨by rw [HB.out]; rfl, HE.out.bel⟩

theorem ivE_false {b : Bool} (h : ¬ b = true) : ivE b = 8 := by simp [ivE, h]
theorem vecB_not0 {v0 v1 v2 v3 v4 v5 : Int} (h : ¬ ivB v0 v1 = true) : ivE (vecB v0 v1 v2 v3 v4 v5) = 8 := ivE_false fun k => h (vecB_spec k).1
theorem vecB_not1 {v0 v1 v2 v3 v4 v5 : Int} (h : ¬ ivB v2 v3 = true) : ivE (vecB v0 v1 v2 v3 v4 v5) = 8 := ivE_false fun k => h (vecB_spec k).2.1
theorem vecB_not2 {v0 v1 v2 v3 v4 v5 : Int} (h : ¬ ivB v4 v5 = true) : ivE (vecB v0 v1 v2 v3 v4 v5) = 8 := ivE_false fun k => h (vecB_spec k).2.2
theorem vecB_all {v0 v1 v2 v3 v4 v5 : Int} (h0 : ivB v0 v1 = true) (h1 : ivB v2 v3 = true) (h2 : ivB v4 v5 = true) : ivE (vecB v0 v1 v2 v3 v4 v5) = 0 := ivE_true (by simp [vecB, h0, h1, h2])


set_option maxRecDepth 100000 in
set_option maxHeartbeats 1000000 in
theorem rvecCheck_calls (w : World) (v0 v1 v2 v3 v4 v5 : Int) :
    Calls Tryz.prog 26 #[.agg #[.int .i64 v0, .int .i64 v1, .int .i64 v2, .int .i64 v3, .int .i64 v4, .int .i64 v5]] w (OkPost (.int .i64 (ivE (vecB v0 v1 v2 v3 v4 v5))) w) := by
  have HE0 := Lib.hid ((Env.start w).alloc #[.int .i64 v0, .int .i64 v1, .int .i64 v2, .int .i64 v3, .int .i64 v4, .int .i64 v5] 33)
  have HV0 : Hid (¬ ivB v0 v1 = true → ivE (vecB v0 v1 v2 v3 v4 v5) = 8) := Lib.hid vecB_not0
  have HV1 : Hid (¬ ivB v2 v3 = true → ivE (vecB v0 v1 v2 v3 v4 v5) = 8) := Lib.hid vecB_not1
  have HV2 : Hid (¬ ivB v4 v5 = true → ivE (vecB v0 v1 v2 v3 v4 v5) = 8) := Lib.hid vecB_not2
  have HVA : Hid (ivB v0 v1 = true → ivB v2 v3 = true → ivB v4 v5 = true → ivE (vecB v0 v1 v2 v3 v4 v5) = 0) := Lib.hid vecB_all
  generalize ivE (vecB v0 v1 v2 v3 v4 v5) = r at *
  go_enter Tryz.func26, Tryz.ntmps26
  go_wp2
  go_loopw [3] (fun i wr => ∃ (k : Nat), k ≤ 3 ∧ i = .int .i64 k ∧ Env w [(w.heap.size, #[.int .i64 v0, .int .i64 v1, .int .i64 v2, .int .i64 v3, .int .i64 v4, .int .i64 v5], 33)] [] wr ∧ Hid ((1 ≤ k → ivB v0 v1 = true) ∧ (2 ≤ k → ivB v2 v3 = true) ∧ (3 ≤ k → ivB v4 v5 = true))) (fun i _ => 3 - (intOf i).toNat)
  case atStart => exact ⟨0, by omega, rfl, HE0.out, Lib.hid ⟨fun h => absurd h (by omega), fun h => absurd h (by omega), fun h => absurd h (by omega)⟩⟩
  case round =>
    clear HE0
    obtain ⟨k, hk, rfl, E, HR⟩ := hrel
    have HE := Lib.hid E
    clear E
    have hc : k = 0 ∨ k = 1 ∨ k = 2 ∨ k = 3 := by omega
    rcases hc with rfl | rfl | rfl | rfl
    · skip
      have e0 : wr.cell? ⟨w.heap.size, 0, none⟩ = some (.int .i64 v0) := HE.out.blks.1.at 0
      have e1 : wr.cell? ⟨w.heap.size, 1, none⟩ = some (.int .i64 v1) := HE.out.blks.1.at 1
      by_cases hb : ivB v0 v1 = true
      · have K := Lib.hid (ivE_true hb)
        have HB := Lib.hid hb
        clear hb
        go_wp2_with fail
        go_at_call 73
        refine (rivCheck_calls _ v0 v1).mono ?_
        rw [K.out]
        rintro e W2 ⟨rfl, hb2⟩
        have HE2 := Lib.hid (HE.out.below hb2)
        clear hb2 e0 e1
        go_wp2
        go_roundw
        case rel => exact ⟨1, by omega, by go_num, HE2.out, Lib.hid ⟨fun _ => HB.out, fun h => absurd h (by omega), fun h => absurd h (by omega)⟩⟩
        case measure => simp [intOf]
      · have K := Lib.hid (ivE_false hb)
        have KV := Lib.hid (HV0.out hb)
        clear hb
        go_wp2_with fail
        go_at_call 73
        refine (rivCheck_calls _ v0 v1).mono ?_
        rw [K.out]
        rintro e W2 ⟨rfl, hb2⟩
        have HE2 := Lib.hid (HE.out.below hb2)
        clear hb2 e0 e1
        have e0 : W2.cell? ⟨w.heap.size, 0, none⟩ = some (.int .i64 v0) := HE2.out.blks.1.at 0
        have e1 : W2.cell? ⟨w.heap.size, 1, none⟩ = some (.int .i64 v1) := HE2.out.blks.1.at 1
        go_wp2_with fail
        go_at_call 73
        refine (rivCheck_calls _ v0 v1).mono ?_
        rw [K.out]
        rintro e W3 ⟨rfl, hb2⟩
        have HE3 := Lib.hid (HE2.out.below hb2)
        clear hb2 e0 e1
        go_wp2
        go_ret
        exact ⟨by rw [KV.out]; rfl, HE3.out.bel⟩
    · skip
      have e0 : wr.cell? ⟨w.heap.size, 2, none⟩ = some (.int .i64 v2) := HE.out.blks.1.at 2
      have e1 : wr.cell? ⟨w.heap.size, 3, none⟩ = some (.int .i64 v3) := HE.out.blks.1.at 3
      by_cases hb : ivB v2 v3 = true
      · have K := Lib.hid (ivE_true hb)
        have HB := Lib.hid hb
        clear hb
        go_wp2_with fail
        go_at_call 73
        refine (rivCheck_calls _ v2 v3).mono ?_
        rw [K.out]
        rintro e W2 ⟨rfl, hb2⟩
        have HE2 := Lib.hid (HE.out.below hb2)
        clear hb2 e0 e1
        go_wp2
        go_roundw
        case rel => exact ⟨2, by omega, by go_num, HE2.out, Lib.hid ⟨fun _ => HR.out.1 (by omega), fun _ => HB.out, fun h => absurd h (by omega)⟩⟩
        case measure => simp [intOf]
      · have K := Lib.hid (ivE_false hb)
        have KV := Lib.hid (HV1.out hb)
        clear hb
        go_wp2_with fail
        go_at_call 73
        refine (rivCheck_calls _ v2 v3).mono ?_
        rw [K.out]
        rintro e W2 ⟨rfl, hb2⟩
        have HE2 := Lib.hid (HE.out.below hb2)
        clear hb2 e0 e1
        have e0 : W2.cell? ⟨w.heap.size, 2, none⟩ = some (.int .i64 v2) := HE2.out.blks.1.at 2
        have e1 : W2.cell? ⟨w.heap.size, 3, none⟩ = some (.int .i64 v3) := HE2.out.blks.1.at 3
        go_wp2_with fail
        go_at_call 73
        refine (rivCheck_calls _ v2 v3).mono ?_
        rw [K.out]
        rintro e W3 ⟨rfl, hb2⟩
        have HE3 := Lib.hid (HE2.out.below hb2)
        clear hb2 e0 e1
        go_wp2
        go_ret
        exact ⟨by rw [KV.out]; rfl, HE3.out.bel⟩
    · skip
      have e0 : wr.cell? ⟨w.heap.size, 4, none⟩ = some (.int .i64 v4) := HE.out.blks.1.at 4
      have e1 : wr.cell? ⟨w.heap.size, 5, none⟩ = some (.int .i64 v5) := HE.out.blks.1.at 5
      by_cases hb : ivB v4 v5 = true
      · have K := Lib.hid (ivE_true hb)
        have HB := Lib.hid hb
        clear hb
        go_wp2_with fail
        go_at_call 73
        refine (rivCheck_calls _ v4 v5).mono ?_
        rw [K.out]
        rintro e W2 ⟨rfl, hb2⟩
        have HE2 := Lib.hid (HE.out.below hb2)
        clear hb2 e0 e1
        go_wp2
        go_roundw
        case rel => exact ⟨3, by omega, by go_num, HE2.out, Lib.hid ⟨fun _ => HR.out.1 (by omega), fun _ => HR.out.2.1 (by omega), fun _ => HB.out⟩⟩
        case measure => simp [intOf]
      · have K := Lib.hid (ivE_false hb)
        have KV := Lib.hid (HV2.out hb)
        clear hb
        go_wp2_with fail
        go_at_call 73
        refine (rivCheck_calls _ v4 v5).mono ?_
        rw [K.out]
        rintro e W2 ⟨rfl, hb2⟩
        have HE2 := Lib.hid (HE.out.below hb2)
        clear hb2 e0 e1
        have e0 : W2.cell? ⟨w.heap.size, 4, none⟩ = some (.int .i64 v4) := HE2.out.blks.1.at 4
        have e1 : W2.cell? ⟨w.heap.size, 5, none⟩ = some (.int .i64 v5) := HE2.out.blks.1.at 5
        go_wp2_with fail
        go_at_call 73
        refine (rivCheck_calls _ v4 v5).mono ?_
        rw [K.out]
        rintro e W3 ⟨rfl, hb2⟩
        have HE3 := Lib.hid (HE2.out.below hb2)
        clear hb2 e0 e1
        go_wp2
        go_ret
        exact ⟨by rw [KV.out]; rfl, HE3.out.bel⟩
    · have KV := Lib.hid (HVA.out (HR.out.1 (by omega)) (HR.out.2.1 (by omega)) (HR.out.2.2 (by omega)))
      go_wp2
      go_ret
      exact ⟨by rw [KV.out]; rfl, HE.out.bel⟩

end Go.Proofs.YtilaheplclaokaaGreat
namespace Go.Proofs.YtilaheplclaokaaGreat
open Go.RowKit Go.Shelf
attribute [local go_sem] Oper.semAt_some

theorem moved_le {a by' mi : Int} (ha : -1296000000000 ≤ a ∧ a ≤ 1296000000000) (hb : -20000000 ≤ by' ∧ by' ≤ 20000000) (hm : -10000000000000000 ≤ mi ∧ mi ≤ 10000000000000000) : -9000000000000 ≤ moved a by' mi ∧ moved a by' mi ≤ 9000000000000 := by
  have ok := mv_ok ha hb hm
  have hnear := rnd_near (mvS a by' mi / mvH a by' mi) (mvD by' mi / mvH a by' mi)
  have hq0 := ok.q0
  have hq1 := ok.q1
  have hmv : moved a by' mi = rnd (mvS a by' mi / mvH a by' mi) (mvD by' mi / mvH a by' mi) := rfl
  rw [hmv]
  omega

/-- The place of a star: its right ascension. -/
def plRa (ra pr ep t : Int) : Int := moved ra pr (t - ep) % 1296000000000
/-- The place of a star: its declination. -/
def plDe (de pd ep t : Int) : Int := moved de pd (t - ep)

/-- What Place returns for a valid star. -/
def plA (ra de pr pd ep t : Int) : Int := if (-5000000000000000 ≤ t ∧ t ≤ 5000000000000000) ∧ (-324000000000 ≤ plDe de pd ep t ∧ plDe de pd ep t ≤ 324000000000) then plRa ra pr ep t else 0
def plB (de pd ep t : Int) : Int := if (-5000000000000000 ≤ t ∧ t ≤ 5000000000000000) ∧ (-324000000000 ≤ plDe de pd ep t ∧ plDe de pd ep t ≤ 324000000000) then plDe de pd ep t else 0
def plE (de pd ep t : Int) : Int := if (-5000000000000000 ≤ t ∧ t ≤ 5000000000000000) then (if (-324000000000 ≤ plDe de pd ep t ∧ plDe de pd ep t ≤ 324000000000) then 0 else 16) else 2

set_option maxRecDepth 100000 in
set_option maxHeartbeats 1000000 in
theorem Place_calls (w : World) (s : ByteArray) (ep ra de pr pd pa mg t : Int) (hs : StarOk s ep ra de pr pd pa mg) (ht0 : -9223372036854775808 ≤ t) (ht1 : t < 9223372036854775808) :
    Calls Tryz.prog 11 #[.agg #[.string s, .int .i64 ep, .int .i64 ra, .int .i64 de, .int .i64 pr, .int .i64 pd, .int .i64 pa, .int .i64 mg], .int .i64 t] w (OkPost (.tuple #[.int .i64 (plA ra de pr pd ep t), .int .i64 (plB de pd ep t), .int .i64 (plE de pd ep t)]) w) := by
  have HS := Lib.hid hs
  have CC := Lib.hid fun w' => check19_calls w' s ep ra de pr pd pa mg hs
  clear hs
  have E := (Env.start w).alloc #[.string s, .int .i64 ep, .int .i64 ra, .int .i64 de, .int .i64 pr, .int .i64 pd, .int .i64 pa, .int .i64 mg] 39
  have HE := Lib.hid E
  clear E
  by_cases ht : -5000000000000000 ≤ t ∧ t ≤ 5000000000000000
  · have hmi : -10000000000000000 ≤ t - ep ∧ t - ep ≤ 10000000000000000 := by have := HS.out.ep0; have := HS.out.ep1; omega
    have hwr : IntKind.i64.wrap (t - ep) = t - ep := wrap_i64 _ (by omega) (by omega)
    have hra : -1296000000000 ≤ ra ∧ ra ≤ 1296000000000 := by have := HS.out.ra0; have := HS.out.ra1; omega
    have hde : -1296000000000 ≤ de ∧ de ≤ 1296000000000 := by have := HS.out.de0; have := HS.out.de1; omega
    have C1 := Lib.hid fun w' => motion_calls w' ra pr (t - ep) hra ⟨HS.out.pr0, HS.out.pr1⟩ hmi
    have C2 := Lib.hid fun w' => motion_calls w' de pd (t - ep) hde ⟨HS.out.pd0, HS.out.pd1⟩ hmi
    have l1 := moved_le hra ⟨HS.out.pr0, HS.out.pr1⟩ hmi
    have CN : Hid (∀ w' : World, Calls Tryz.prog 38 #[.int .i64 (moved ra pr (t - ep))] w' (RetPost (.int .i64 (plRa ra pr ep t)) w')) := Lib.hid fun w' => norm_calls w' (moved ra pr (t - ep)) (by omega) (by omega)
    have CT : Hid (∀ w' : World, Calls Tryz.prog 32 #[.int .i64 (-5000000000000000), .int .i64 t, .int .i64 5000000000000000] w' (RetPost (.bool true) w')) := Lib.hid fun w' => between_calls w' _ _ _ ht.1 ht.2
    have CD : Hid (∀ w' : World, Calls Tryz.prog 32 #[.int .i64 (-324000000000), .int .i64 (moved de pd (t - ep)), .int .i64 324000000000] w' (RetPost (.bool (decide (-324000000000 ≤ moved de pd (t - ep) ∧ moved de pd (t - ep) ≤ 324000000000))) w')) := Lib.hid fun w' => between_any w' _ _ _
    have hA : plA ra de pr pd ep t = if -324000000000 ≤ moved de pd (t - ep) ∧ moved de pd (t - ep) ≤ 324000000000 then plRa ra pr ep t else 0 := by unfold plA plDe; simp only [ht, true_and, and_self]
    have hB : plB de pd ep t = if -324000000000 ≤ moved de pd (t - ep) ∧ moved de pd (t - ep) ≤ 324000000000 then moved de pd (t - ep) else 0 := by unfold plB plDe; simp only [ht, true_and, and_self]
    have hEE : plE de pd ep t = if -324000000000 ≤ moved de pd (t - ep) ∧ moved de pd (t - ep) ≤ 324000000000 then 0 else 16 := by unfold plE plDe; simp only [ht, and_self, if_true]
    rw [hA, hB, hEE]
    clear hA hB hEE hmi hra hde l1 ht ht0 ht1
    generalize moved ra pr (t - ep) = za at *
    generalize moved de pd (t - ep) = zd at *
    generalize plRa ra pr ep t = zn at *
    by_cases hd : -324000000000 ≤ zd ∧ zd ≤ 324000000000
    · rw [if_pos hd, if_pos hd, if_pos hd]
      rw [decide_eq_true hd] at CD
      clear hd
      go_enter Tryz.func11, Tryz.ntmps11
      go_wp2_with fail
      go_at_call 36
      refine (CC.out _).mono ?_
      rintro e W1 ⟨rfl, hb1⟩
      replace HE := Lib.hid (HE.out.below hb1)
      clear hb1
      go_wp2_with fail
      go_at_call 32
      refine (CT.out _).mono ?_
      rintro e W2 ⟨rfl, rfl⟩
      have c1 : W1.cell? ⟨w.heap.size, 1, none⟩ = some (.int .i64 ep) := HE.out.blks.1.at 1
      have c2 : W1.cell? ⟨w.heap.size, 2, none⟩ = some (.int .i64 ra) := HE.out.blks.1.at 2
      have c4 : W1.cell? ⟨w.heap.size, 4, none⟩ = some (.int .i64 pr) := HE.out.blks.1.at 4
      go_wp2_with fail
      go_at_call 37
      refine (C1.out _).mono ?_
      rintro e W3 ⟨rfl, hb3⟩
      replace HE := Lib.hid (HE.out.below hb3)
      clear hb3 c1 c2 c4
      have c1 : W3.cell? ⟨w.heap.size, 1, none⟩ = some (.int .i64 ep) := HE.out.blks.1.at 1
      have c3 : W3.cell? ⟨w.heap.size, 3, none⟩ = some (.int .i64 de) := HE.out.blks.1.at 3
      have c5 : W3.cell? ⟨w.heap.size, 5, none⟩ = some (.int .i64 pd) := HE.out.blks.1.at 5
      go_wp2_with fail
      go_at_call 37
      refine (C2.out _).mono ?_
      rintro e W4 ⟨rfl, hb4⟩
      replace HE := Lib.hid (HE.out.below hb4)
      clear hb4 c1 c3 c5
      go_wp2_with fail
      go_at_call 32
      refine (CD.out _).mono ?_
      rintro e W5 ⟨rfl, rfl⟩
      go_wp2_with fail
      go_at_call 38
      refine (CN.out _).mono ?_
      rintro e W5 ⟨rfl, rfl⟩
      go_wp2
      refine bodyPost_ret (v := .tuple #[.int .i64 zn, .int .i64 zd, .int .i64 0]) (by simp [results, Tryz.results11, go_sem]) rfl ?_
      exact ⟨rfl, HE.out.bel⟩
    · rw [if_neg hd, if_neg hd, if_neg hd]
      rw [decide_eq_false hd] at CD
      clear hd
      go_enter Tryz.func11, Tryz.ntmps11
      go_wp2_with fail
      go_at_call 36
      refine (CC.out _).mono ?_
      rintro e W1 ⟨rfl, hb1⟩
      replace HE := Lib.hid (HE.out.below hb1)
      clear hb1
      go_wp2_with fail
      go_at_call 32
      refine (CT.out _).mono ?_
      rintro e W2 ⟨rfl, rfl⟩
      have c1 : W1.cell? ⟨w.heap.size, 1, none⟩ = some (.int .i64 ep) := HE.out.blks.1.at 1
      have c2 : W1.cell? ⟨w.heap.size, 2, none⟩ = some (.int .i64 ra) := HE.out.blks.1.at 2
      have c4 : W1.cell? ⟨w.heap.size, 4, none⟩ = some (.int .i64 pr) := HE.out.blks.1.at 4
      go_wp2_with fail
      go_at_call 37
      refine (C1.out _).mono ?_
      rintro e W3 ⟨rfl, hb3⟩
      replace HE := Lib.hid (HE.out.below hb3)
      clear hb3 c1 c2 c4
      have c1 : W3.cell? ⟨w.heap.size, 1, none⟩ = some (.int .i64 ep) := HE.out.blks.1.at 1
      have c3 : W3.cell? ⟨w.heap.size, 3, none⟩ = some (.int .i64 de) := HE.out.blks.1.at 3
      have c5 : W3.cell? ⟨w.heap.size, 5, none⟩ = some (.int .i64 pd) := HE.out.blks.1.at 5
      go_wp2_with fail
      go_at_call 37
      refine (C2.out _).mono ?_
      rintro e W4 ⟨rfl, hb4⟩
      replace HE := Lib.hid (HE.out.below hb4)
      clear hb4 c1 c3 c5
      go_wp2_with fail
      go_at_call 32
      refine (CD.out _).mono ?_
      rintro e W5 ⟨rfl, rfl⟩
      go_wp2
      refine bodyPost_ret (v := .tuple #[.int .i64 0, .int .i64 0, .int .i64 16]) (by simp [results, Tryz.results11, go_sem]) rfl ?_
      exact ⟨rfl, HE.out.bel⟩
  · have CT : Hid (∀ w' : World, Calls Tryz.prog 32 #[.int .i64 (-5000000000000000), .int .i64 t, .int .i64 5000000000000000] w' (RetPost (.bool false) w')) := Lib.hid fun w' => by
      have h := between_any w' (-5000000000000000) t 5000000000000000
      rw [decide_eq_false ht] at h
      exact h
    have hA : plA ra de pr pd ep t = 0 := by unfold plA; rw [if_neg (fun h => ht h.1)]
    have hB : plB de pd ep t = 0 := by unfold plB; rw [if_neg (fun h => ht h.1)]
    have hEE : plE de pd ep t = 2 := by unfold plE; rw [if_neg ht]
    rw [hA, hB, hEE]
    clear hA hB hEE ht ht0 ht1
    go_enter Tryz.func11, Tryz.ntmps11
    go_wp2_with fail
    go_at_call 36
    refine (CC.out _).mono ?_
    rintro e W1 ⟨rfl, hb1⟩
    replace HE := Lib.hid (HE.out.below hb1)
    clear hb1
    go_wp2_with fail
    go_at_call 32
    refine (CT.out _).mono ?_
    rintro e W2 ⟨rfl, rfl⟩
    go_wp2
    refine bodyPost_ret (v := .tuple #[.int .i64 0, .int .i64 0, .int .i64 2]) (by simp [results, Tryz.results11, go_sem]) rfl ?_
    exact ⟨rfl, HE.out.bel⟩

end Go.Proofs.YtilaheplclaokaaGreat
namespace Go.Proofs.YtilaheplclaokaaGreat
open Go.RowKit Go.Shelf
attribute [local go_sem] Oper.semAt_some

/-- The place of a star is one. -/
structure PlaceOk (de pd ep t : Int) : Prop where
  t0 : -5000000000000000 ≤ t
  t1 : t ≤ 5000000000000000
  d0 : -324000000000 ≤ plDe de pd ep t
  d1 : plDe de pd ep t ≤ 324000000000

theorem PlaceOk.of_zero {de pd ep t : Int} (h : plE de pd ep t = 0) : PlaceOk de pd ep t := by
  unfold plE at h
  by_cases h1 : -5000000000000000 ≤ t ∧ t ≤ 5000000000000000
  · rw [if_pos h1] at h
    by_cases h2 : -324000000000 ≤ plDe de pd ep t ∧ plDe de pd ep t ≤ 324000000000
    · exact ⟨h1.1, h1.2, h2.1, h2.2⟩
    · rw [if_neg h2] at h; omega
  · rw [if_neg h1] at h; omega

theorem plE_cases (de pd ep t : Int) : plE de pd ep t = 0 ∨ plE de pd ep t = 2 ∨ plE de pd ep t = 16 := by
  unfold plE
  by_cases h1 : -5000000000000000 ≤ t ∧ t ≤ 5000000000000000
  · rw [if_pos h1]
    by_cases h2 : -324000000000 ≤ plDe de pd ep t ∧ plDe de pd ep t ≤ 324000000000
    · rw [if_pos h2]; omega
    · rw [if_neg h2]; omega
  · rw [if_neg h1]; omega

theorem PlaceOk.plE {de pd ep t : Int} (h : PlaceOk de pd ep t) : plE de pd ep t = 0 := by
  unfold Go.Proofs.YtilaheplclaokaaGreat.plE
  rw [if_pos ⟨h.t0, h.t1⟩, if_pos ⟨h.d0, h.d1⟩]
theorem PlaceOk.plA {ra pr de pd ep t : Int} (h : PlaceOk de pd ep t) : plA ra de pr pd ep t = plRa ra pr ep t := by
  unfold Go.Proofs.YtilaheplclaokaaGreat.plA
  rw [if_pos ⟨⟨h.t0, h.t1⟩, ⟨h.d0, h.d1⟩⟩]
theorem PlaceOk.plB {de pd ep t : Int} (h : PlaceOk de pd ep t) : plB de pd ep t = plDe de pd ep t := by
  unfold Go.Proofs.YtilaheplclaokaaGreat.plB
  rw [if_pos ⟨⟨h.t0, h.t1⟩, ⟨h.d0, h.d1⟩⟩]
theorem plRa_range (ra pr ep t : Int) : 0 ≤ plRa ra pr ep t ∧ plRa ra pr ep t < 1296000000000 := by
  unfold plRa
  omega

set_option maxRecDepth 100000 in
set_option maxHeartbeats 1000000 in
theorem direction_calls (w : World) (s : ByteArray) (ep ra de pr pd pa mg t : Int) (hs : StarOk s ep ra de pr pd pa mg) (hp : PlaceOk de pd ep t) :
    Calls Tryz.prog 33 #[.agg #[.string s, .int .i64 ep, .int .i64 ra, .int .i64 de, .int .i64 pr, .int .i64 pd, .int .i64 pa, .int .i64 mg], .int .i64 t] w (OkPost (.tuple #[.agg #[.int .i64 (unXl (plRa ra pr ep t) (plDe de pd ep t)), .int .i64 (unXh (plRa ra pr ep t) (plDe de pd ep t)), .int .i64 (unYl (plRa ra pr ep t) (plDe de pd ep t)), .int .i64 (unYh (plRa ra pr ep t) (plDe de pd ep t)), .int .i64 (sinLo (plDe de pd ep t)), .int .i64 (sinHi (plDe de pd ep t))], .int .i64 0]) w) := by
  have CP := Lib.hid fun w' => Place_calls w' s ep ra de pr pd pa mg t hs (by have := hp.t0; omega) (by have := hp.t1; omega)
  rw [hp.plA, hp.plB, hp.plE] at CP
  have hr := plRa_range ra pr ep t
  have CU := Lib.hid fun w' => Unit_calls w' (plRa ra pr ep t) (plDe de pd ep t) (by omega) (by omega) hp.d0 hp.d1
  clear hp hs hr
  generalize plRa ra pr ep t = za at *
  generalize plDe de pd ep t = zd at *
  generalize unXl za zd = xl at *
  generalize unXh za zd = xh at *
  generalize unYl za zd = yl at *
  generalize unYh za zd = yh at *
  generalize sinLo zd = zl at *
  generalize sinHi zd = zh at *
  have E := ((Env.start w).alloc #[.string s, .int .i64 ep, .int .i64 ra, .int .i64 de, .int .i64 pr, .int .i64 pd, .int .i64 pa, .int .i64 mg] 39).alloc #[.int .i64 0, .int .i64 0, .int .i64 0, .int .i64 0, .int .i64 0, .int .i64 0] 33
  simp only [World.size_alloc] at E
  have HE := Lib.hid E
  clear E
  go_enter Tryz.func33, Tryz.ntmps33
  go_wp2_with fail
  go_at_call 11
  refine (CP.out _).mono ?_
  rintro e W1 ⟨rfl, hb1⟩
  replace HE := Lib.hid (HE.out.below hb1)
  clear hb1
  go_wp2_with fail
  go_at_call 10
  refine (CU.out _).mono ?_
  rintro e W2 ⟨rfl, hb1⟩
  replace HE := Lib.hid (HE.out.below hb1)
  clear hb1
  have f0 : W2.cell? ⟨w.heap.size + 1, 0, none⟩ = some (.int .i64 0) := HE.out.blks.1.at 0
  have g0 := HE.out.blks.1.fr 0
  have f1 : W2.cell? ⟨w.heap.size + 1, 1, none⟩ = some (.int .i64 0) := HE.out.blks.1.at 1
  have g1 := HE.out.blks.1.fr 1
  have f2 : W2.cell? ⟨w.heap.size + 1, 2, none⟩ = some (.int .i64 0) := HE.out.blks.1.at 2
  have g2 := HE.out.blks.1.fr 2
  have f3 : W2.cell? ⟨w.heap.size + 1, 3, none⟩ = some (.int .i64 0) := HE.out.blks.1.at 3
  have g3 := HE.out.blks.1.fr 3
  have f4 : W2.cell? ⟨w.heap.size + 1, 4, none⟩ = some (.int .i64 0) := HE.out.blks.1.at 4
  have g4 := HE.out.blks.1.fr 4
  have f5 : W2.cell? ⟨w.heap.size + 1, 5, none⟩ = some (.int .i64 0) := HE.out.blks.1.at 5
  have g5 := HE.out.blks.1.fr 5
  go_wp2
  have E := ((((((HE.out.setY (by omega) (by simp [Free] <;> omega) rfl 0 (.int .i64 xl)).setY (by omega) (by simp [Free] <;> omega) rfl 1 (.int .i64 xh)).setY (by omega) (by simp [Free] <;> omega) rfl 2 (.int .i64 yl)).setY (by omega) (by simp [Free] <;> omega) rfl 3 (.int .i64 yh)).setY (by omega) (by simp [Free] <;> omega) rfl 4 (.int .i64 zl)).setY (by omega) (by simp [Free] <;> omega) rfl 5 (.int .i64 zh))
  have q0 : _ = some (Value.int .i64 xl) := E.blks.1.at 0
  have q1 : _ = some (Value.int .i64 xh) := E.blks.1.at 1
  have q2 : _ = some (Value.int .i64 yl) := E.blks.1.at 2
  have q3 : _ = some (Value.int .i64 yh) := E.blks.1.at 3
  have q4 : _ = some (Value.int .i64 zl) := E.blks.1.at 4
  have q5 : _ = some (Value.int .i64 zh) := E.blks.1.at 5
  refine bodyPost_ret (v := .tuple #[.agg #[.int .i64 xl, .int .i64 xh, .int .i64 yl, .int .i64 yh, .int .i64 zl, .int .i64 zh], .int .i64 0]) (by simp [results, Tryz.results33, go_sem, q0, q1, q2, q3, q4, q5]) rfl ?_
  exact ⟨rfl, E.bel⟩

set_option maxRecDepth 100000 in
set_option maxHeartbeats 1000000 in
theorem checkAll_calls (w : World) (o : Nat) (c : Nat) (ty : TypeId) (s : ByteArray) (ep ra de pr pd pa mg : Int) (hs : StarOk s ep ra de pr pd pa mg) (hb : Blk w o #[.string s, .int .i64 ep, .int .i64 ra, .int .i64 de, .int .i64 pr, .int .i64 pd, .int .i64 pa, .int .i64 mg] ty) :
    Calls Tryz.prog 31 #[.slice (some ⟨o, 0, none⟩) 1 c] w (OkPost (.int .i64 0) w) := by
  have CC := Lib.hid fun w' => check19_calls w' s ep ra de pr pd pa mg hs
  clear hs
  have k0 : w.cell? ⟨o, 0, none⟩ = some (.string s) := (hb).at 0
  have k1 : w.cell? ⟨o, 1, none⟩ = some (.int .i64 ep) := (hb).at 1
  have k2 : w.cell? ⟨o, 2, none⟩ = some (.int .i64 ra) := (hb).at 2
  have k3 : w.cell? ⟨o, 3, none⟩ = some (.int .i64 de) := (hb).at 3
  have k4 : w.cell? ⟨o, 4, none⟩ = some (.int .i64 pr) := (hb).at 4
  have k5 : w.cell? ⟨o, 5, none⟩ = some (.int .i64 pd) := (hb).at 5
  have k6 : w.cell? ⟨o, 6, none⟩ = some (.int .i64 pa) := (hb).at 6
  have k7 : w.cell? ⟨o, 7, none⟩ = some (.int .i64 mg) := (hb).at 7
  have HE := Lib.hid ((Env.start w).alloc #[.string s, .int .i64 ep, .int .i64 ra, .int .i64 de, .int .i64 pr, .int .i64 pd, .int .i64 pa, .int .i64 mg] 39)
  clear hb
  go_enter Tryz.func31, Tryz.ntmps31
  go_wp2
  refine wp_loop_rounds 2 ?_
  rw [rounds_succ]
  go_wp2_with fail
  go_at_call 36
  refine (CC.out _).mono ?_
  rintro e W1 ⟨rfl, hb1⟩
  replace HE := Lib.hid (HE.out.below hb1)
  clear hb1
  go_wp2
  rw [rounds_succ]
  go_wp2
  go_ret
  exact ⟨rfl, HE.out.bel⟩

end Go.Proofs.YtilaheplclaokaaGreat
namespace Go.Proofs.YtilaheplclaokaaGreat
open Go.RowKit Go.Shelf
attribute [local go_sem] Oper.semAt_some

theorem unit_vecB (ra dec : Int) : vecB (unXl ra dec) (unXh ra dec) (unYl ra dec) (unYh ra dec) (sinLo dec) (sinHi dec) = true := by
  have h1 := prod_sin (cosA dec) (cosA ra)
  have h2 := prod_sin (cosA dec) ra
  have h3 := sin_bounds dec
  unfold vecB ivB unXl unXh unYl unYh
  simp only [Bool.and_eq_true, decide_eq_true_eq]
  omega

theorem sq_small {n : Int} (h0 : 0 ≤ n) (h1 : n ≤ 4) : 0 ≤ n * n ∧ n * n ≤ 16 := by
  have h : n = 0 ∨ n = 1 ∨ n = 2 ∨ n = 3 ∨ n = 4 := by omega
  rcases h with rfl | rfl | rfl | rfl | rfl <;> decide

theorem unit_sqs (ra dec : Int) : sqs (unXh ra dec - unXl ra dec) (unYh ra dec - unYl ra dec) (sinHi dec - sinLo dec) 3 ≤ 100 := by
  have h1 := prod_sin (cosA dec) (cosA ra)
  have h2 := prod_sin (cosA dec) ra
  have h3 := sin_bounds dec
  have q1 : 0 ≤ unXh ra dec - unXl ra dec ∧ unXh ra dec - unXl ra dec ≤ 4 := by unfold unXl unXh; omega
  have q2 : 0 ≤ unYh ra dec - unYl ra dec ∧ unYh ra dec - unYl ra dec ≤ 4 := by unfold unYl unYh; omega
  have q3 : 0 ≤ sinHi dec - sinLo dec ∧ sinHi dec - sinLo dec ≤ 4 := by omega
  have s1 := sq_small q1.1 q1.2
  have s2 := sq_small q2.1 q2.2
  have s3 := sq_small q3.1 q3.2
  generalize unXh ra dec - unXl ra dec = n0 at *
  generalize unYh ra dec - unYl ra dec = n1 at *
  generalize sinHi dec - sinLo dec = n2 at *
  have e0 : sqs n0 n1 n2 3 = Num.fit (Num.fit (Num.fit (0 + Num.fit (n0 * n0)) + Num.fit (n1 * n1)) + Num.fit (n2 * n2)) := rfl
  rw [e0]
  generalize n0 * n0 = m0 at *
  generalize n1 * n1 = m1 at *
  generalize n2 * n2 = m2 at *
  have f1 : Num.fit m0 = m0 := Num.fit_of (fits_lit (by omega))
  have f2 : Num.fit m1 = m1 := Num.fit_of (fits_lit (by omega))
  have f3 : Num.fit m2 = m2 := Num.fit_of (fits_lit (by omega))
  have f4 : Num.fit (0 + m0) = 0 + m0 := Num.fit_of (fits_lit (by omega))
  have f5 : Num.fit (0 + m0 + m1) = 0 + m0 + m1 := Num.fit_of (fits_lit (by omega))
  have f6 : Num.fit (0 + m0 + m1 + m2) = 0 + m0 + m1 + m2 := Num.fit_of (fits_lit (by omega))
  rw [f1, f2, f3, f4, f5, f6]
  omega

theorem within_own (w : World) (ra dec : Int) :
    Calls Tryz.prog 12 #[.agg #[.int .i64 (unXl ra dec), .int .i64 (unXh ra dec), .int .i64 (unYl ra dec), .int .i64 (unYh ra dec), .int .i64 (sinLo dec), .int .i64 (sinHi dec)], .agg #[.int .i64 (unXl ra dec), .int .i64 (unXh ra dec), .int .i64 (unYl ra dec), .int .i64 (unYh ra dec), .int .i64 (sinLo dec), .int .i64 (sinHi dec)], .int .i64 1] w (OkPost (.tuple #[.bool true, .bool true, .int .i64 0]) w) := by
  have h := within_self w (unXl ra dec) (unXh ra dec) (unYl ra dec) (unYh ra dec) (sinLo dec) (sinHi dec) 1 (unit_vecB ra dec) (by omega) (by omega)
  rw [sin_1.1, sin_1.2] at h
  have e1 : Num.fit (2 * 5 * (2 * 5)) = 100 := fit_small (by decide)
  have e2 : Num.fit (2 * 6 * (2 * 6)) = 144 := fit_small (by decide)
  rw [e1, e2, decide_eq_true (unit_sqs ra dec), decide_eq_true (by omega : (0 : Int) ≤ 144)] at h
  exact h

theorem Tryz.infoInt : (Tryz.prog.info? 3).map (fun i => (i.zero, i.size, i.bytes)) = some (some (.int .i64 0), 1, 8) := by kernel_rfl

/-- One number behind a nil slice. -/
theorem append_one (W : World) (x : Int) :
    (Builtin.append_ #[26, 26] 26 #[.slice none 0 0, .slice (some ⟨W.heap.size, 0, none⟩) 1 1]).run Tryz.prog (W.alloc (.cells #[.int .i64 x] 3)) =
      .ok (.slice (some ⟨W.heap.size + 1, 0, none⟩) 1 (grownCap (W.alloc (.cells #[.int .i64 x] 3)) 1 0 3)) ((W.alloc (.cells #[.int .i64 x] 3)).drew.alloc (.cells (#[.int .i64 x] ++ Builtin.zeroCells #[.int .i64 0] (grownCap (W.alloc (.cells #[.int .i64 x] 3)) 1 0 3 - 1)) 3)) := by
  obtain ⟨i, hi, hz, hs, hb⟩ := info_parts Tryz.infoInt
  have h := run_append_nil (P := Tryz.prog) (W.alloc (.cells #[.int .i64 x] 3)) 26 26 3 i (.int .i64 0) Tryz.underlying26 hi hz ⟨W.heap.size, 0, none⟩ 1 1 [.int .i64 x] (by rw [hs]; rfl) (fun j v hv => by
    cases j with
    | zero =>
      obtain rfl : Value.int .i64 x = v := by simpa using hv
      exact (Blk.new W #[.int .i64 x] 3).at 0
    | succ j => simp at hv) (by omega) (by omega) (by rw [hb]; omega)
  rw [World.size_alloc] at h
  exact h

end Go.Proofs.YtilaheplclaokaaGreat
namespace Go.Proofs.YtilaheplclaokaaGreat
open Go.RowKit Go.Shelf
attribute [local go_sem] Oper.semAt_some


/-- Two rows of one number, and no error. -/
def ConePost (w : World) (e : Ending) (w' : World) : Prop :=
  ∃ A1 c1 A2 c2, e = .returned (.tuple #[.slice A1 1 c1, .slice A2 1 c2, .int .i64 0]) ∧ Below w.heap.size w w'

set_option maxRecDepth 100000 in
set_option maxHeartbeats 1000000 in
theorem Cone_calls (w : World) (o : Nat) (c : Nat) (ty : TypeId) (s : ByteArray) (ep ra de pr pd pa mg t : Int) (hs : StarOk s ep ra de pr pd pa mg) (hp : PlaceOk de pd ep t) (hb : Blk w o #[.string s, .int .i64 ep, .int .i64 ra, .int .i64 de, .int .i64 pr, .int .i64 pd, .int .i64 pa, .int .i64 mg] ty) :
    Calls Tryz.prog 9 #[.slice (some ⟨o, 0, none⟩) 1 c, .int .i64 t, .int .i64 (plRa ra pr ep t), .int .i64 (plDe de pd ep t), .int .i64 1] w (ConePost w) := by
  have CA := Lib.hid fun w' hb' => checkAll_calls w' o c ty s ep ra de pr pd pa mg hs hb'
  have CD := Lib.hid fun w' => direction_calls w' s ep ra de pr pd pa mg t hs hp
  have hr := plRa_range ra pr ep t
  have CU := Lib.hid fun w' => Unit_calls w' (plRa ra pr ep t) (plDe de pd ep t) (by omega) (by omega) hp.d0 hp.d1
  have CW := Lib.hid fun w' => within_own w' (plRa ra pr ep t) (plDe de pd ep t)
  have CT : Hid (∀ w' : World, Calls Tryz.prog 32 #[.int .i64 (-5000000000000000), .int .i64 t, .int .i64 5000000000000000] w' (RetPost (.bool true) w')) := Lib.hid fun w' => between_calls w' _ _ _ hp.t0 hp.t1
  have CB : Hid (∀ w' : World, Calls Tryz.prog 32 #[.int .i64 (-324000000000), .int .i64 (plDe de pd ep t), .int .i64 324000000000] w' (RetPost (.bool true) w')) := Lib.hid fun w' => between_calls w' _ _ _ hp.d0 hp.d1
  have CH : Hid (∀ w' : World, Calls Tryz.prog 32 #[.int .i64 0, .int .i64 1, .int .i64 324000000000] w' (RetPost (.bool true) w')) := Lib.hid fun w' => between_calls w' _ _ _ (by omega) (by omega)
  clear hp hs hr
  generalize plRa ra pr ep t = za at *
  generalize plDe de pd ep t = zd at *
  generalize unXl za zd = xl at *
  generalize unXh za zd = xh at *
  generalize unYl za zd = yl at *
  generalize unYh za zd = yh at *
  generalize sinLo zd = zl at *
  generalize sinHi zd = zh at *
  have HE := Lib.hid ((Env.start w).blk hb)
  have HC := Lib.hid (CA.out _ hb)
  clear hb CA
  go_enter Tryz.func9, Tryz.ntmps9
  go_wp2_with fail
  go_at_call 31
  refine HC.out.mono ?_
  rintro e W1 ⟨rfl, hb1⟩
  replace HE := Lib.hid (HE.out.below hb1)
  clear hb1 HC
  go_wp2_with (first | (go_at_call_has 32 (Value.int .i64 5000000000000000); refine (CT.out _).mono ?_; rintro e w' ⟨rfl, rfl⟩) | (go_at_call_has 32 zd; refine (CB.out _).mono ?_; rintro e w' ⟨rfl, rfl⟩) | (go_at_call_has 32 (Value.int .i64 1); refine (CH.out _).mono ?_; rintro e w' ⟨rfl, rfl⟩))
  go_at_call 10
  refine (CU.out _).mono ?_
  rintro e W2 ⟨rfl, hb1⟩
  replace HE := Lib.hid ((HE.out.below hb1).alloc #[.int .i64 xl, .int .i64 xh, .int .i64 yl, .int .i64 yh, .int .i64 zl, .int .i64 zh] 33)
  clear hb1
  go_wp2
  generalize W2.alloc (.cells #[.int .i64 xl, .int .i64 xh, .int .i64 yl, .int .i64 yh, .int .i64 zl, .int .i64 zh] 33) = V at *
  generalize W2.heap.size = v14 at *
  refine wp_loop_rounds 2 ?_
  rw [rounds_succ]
  have k0 : V.cell? ⟨o, 0, none⟩ = some (.string s) := (HE.out.blks.2.1).at 0
  have k1 : V.cell? ⟨o, 1, none⟩ = some (.int .i64 ep) := (HE.out.blks.2.1).at 1
  have k2 : V.cell? ⟨o, 2, none⟩ = some (.int .i64 ra) := (HE.out.blks.2.1).at 2
  have k3 : V.cell? ⟨o, 3, none⟩ = some (.int .i64 de) := (HE.out.blks.2.1).at 3
  have k4 : V.cell? ⟨o, 4, none⟩ = some (.int .i64 pr) := (HE.out.blks.2.1).at 4
  have k5 : V.cell? ⟨o, 5, none⟩ = some (.int .i64 pd) := (HE.out.blks.2.1).at 5
  have k6 : V.cell? ⟨o, 6, none⟩ = some (.int .i64 pa) := (HE.out.blks.2.1).at 6
  have k7 : V.cell? ⟨o, 7, none⟩ = some (.int .i64 mg) := (HE.out.blks.2.1).at 7
  have E := HE.out.alloc #[.string s, .int .i64 ep, .int .i64 ra, .int .i64 de, .int .i64 pr, .int .i64 pd, .int .i64 pa, .int .i64 mg] 39
  replace HE := Lib.hid E
  clear E
  go_wp2_with fail
  go_at_call 33
  refine (CD.out _).mono ?_
  rintro e W4 ⟨rfl, hb1⟩
  replace HE := Lib.hid ((HE.out.below hb1).alloc #[.int .i64 xl, .int .i64 xh, .int .i64 yl, .int .i64 yh, .int .i64 zl, .int .i64 zh] 33)
  clear hb1 k0 k1 k2 k3 k4 k5 k6 k7
  have j0 : _ = some (Value.int .i64 xl) := HE.out.blks.2.2.1.at 0
  have j1 : _ = some (Value.int .i64 xh) := HE.out.blks.2.2.1.at 1
  have j2 : _ = some (Value.int .i64 yl) := HE.out.blks.2.2.1.at 2
  have j3 : _ = some (Value.int .i64 yh) := HE.out.blks.2.2.1.at 3
  have j4 : _ = some (Value.int .i64 zl) := HE.out.blks.2.2.1.at 4
  have j5 : _ = some (Value.int .i64 zh) := HE.out.blks.2.2.1.at 5
  go_wp2_with fail
  go_at_call 12
  refine (CW.out _).mono ?_
  rintro e W5 ⟨rfl, hb1⟩
  replace HE := Lib.hid (HE.out.below hb1)
  clear hb1 j0 j1 j2 j3 j4 j5
  have hap : ∀ (W : World) (x : Int), _ = _ := append_one
  go_wp2
  rw [rounds_succ]
  go_wp2
  refine bodyPost_ret (by simp [results, Tryz.results9, go_sem]; rfl) rfl ?_
  exact ⟨_, _, _, _, rfl, (((((HE.out.alloc _ _).alloc _ _).alloc _ _).alloc _ _).drew).drew.bel⟩

end Go.Proofs.YtilaheplclaokaaGreat
namespace Go.Proofs.YtilaheplclaokaaGreat
open Go.RowKit Go.Shelf
attribute [local go_sem] Oper.semAt_some

set_option maxRecDepth 100000 in
set_option maxHeartbeats 1000000 in
theorem Shift0_calls (w : World) (s : ByteArray) (ep ra de pr pd mg t : Int) (a0 a1 a2 a3 a4 a5 : Int) (hs : StarOk s ep ra de pr pd 0 mg) (hp : PlaceOk de pd ep t) (hv : vecB a0 a1 a2 a3 a4 a5 = true) :
    Calls Tryz.prog 28 #[.agg #[.string s, .int .i64 ep, .int .i64 ra, .int .i64 de, .int .i64 pr, .int .i64 pd, .int .i64 0, .int .i64 mg], .int .i64 t, .agg #[.int .i64 a0, .int .i64 a1, .int .i64 a2, .int .i64 a3, .int .i64 a4, .int .i64 a5]] w (OkPost (.tuple #[.agg #[.int .i64 (unXl (plRa ra pr ep t) (plDe de pd ep t)), .int .i64 (unXh (plRa ra pr ep t) (plDe de pd ep t)), .int .i64 (unYl (plRa ra pr ep t) (plDe de pd ep t)), .int .i64 (unYh (plRa ra pr ep t) (plDe de pd ep t)), .int .i64 (sinLo (plDe de pd ep t)), .int .i64 (sinHi (plDe de pd ep t))], .int .i64 0]) w) := by
  have CD := Lib.hid fun w' => direction_calls w' s ep ra de pr pd 0 mg t hs hp
  have CC := Lib.hid fun w' => vcheck_calls w' a0 a1 a2 a3 a4 a5 hv
  have CR := Lib.hid fun w' => radians0_calls w'
  have CS := Lib.hid fun w' => scale0_calls w' a0 a1 a2 a3 a4 a5 hv
  have CU := Lib.hid fun w' => sub0_calls w' _ _ _ _ _ _ (unit_vecB (plRa ra pr ep t) (plDe de pd ep t))
  clear hp hs hv
  generalize plRa ra pr ep t = za at *
  generalize plDe de pd ep t = zd at *
  generalize unXl za zd = xl at *
  generalize unXh za zd = xh at *
  generalize unYl za zd = yl at *
  generalize unYh za zd = yh at *
  generalize sinLo zd = zl at *
  generalize sinHi zd = zh at *
  have E := (((Env.start w).alloc #[.string s, .int .i64 ep, .int .i64 ra, .int .i64 de, .int .i64 pr, .int .i64 pd, .int .i64 0, .int .i64 mg] 39).alloc #[.int .i64 a0, .int .i64 a1, .int .i64 a2, .int .i64 a3, .int .i64 a4, .int .i64 a5] 33).alloc #[.int .i64 0, .int .i64 0, .int .i64 0, .int .i64 0, .int .i64 0, .int .i64 0] 33
  simp only [World.size_alloc] at E
  have HE := Lib.hid E
  clear E
  go_enter Tryz.func28, Tryz.ntmps28
  go_wp2_with fail
  go_at_call 33
  refine (CD.out _).mono ?_
  rintro e W1 ⟨rfl, hb1⟩
  replace HE := Lib.hid (HE.out.below hb1)
  clear hb1
  replace HE := Lib.hid (HE.out.alloc #[.int .i64 xl, .int .i64 xh, .int .i64 yl, .int .i64 yh, .int .i64 zl, .int .i64 zh] 33)
  have j0 : _ = some (Value.int .i64 a0) := HE.out.blks.2.2.1.at 0
  have j1 : _ = some (Value.int .i64 a1) := HE.out.blks.2.2.1.at 1
  have j2 : _ = some (Value.int .i64 a2) := HE.out.blks.2.2.1.at 2
  have j3 : _ = some (Value.int .i64 a3) := HE.out.blks.2.2.1.at 3
  have j4 : _ = some (Value.int .i64 a4) := HE.out.blks.2.2.1.at 4
  have j5 : _ = some (Value.int .i64 a5) := HE.out.blks.2.2.1.at 5
  go_wp2_with fail
  go_at_call 55
  refine (CC.out _).mono ?_
  rintro e W2 ⟨rfl, hb1⟩
  replace HE := Lib.hid (HE.out.below hb1)
  clear hb1 j0 j1 j2 j3 j4 j5
  have j6 : W2.cell? ⟨w.heap.size, 6, none⟩ = some (.int .i64 0) := HE.out.blks.2.2.2.1.at 6
  go_wp2_with fail
  go_at_call 18
  refine (CR.out _).mono ?_
  rintro e W3 ⟨rfl, hb1⟩
  replace HE := Lib.hid (HE.out.below hb1)
  clear hb1 j6
  replace HE := Lib.hid (HE.out.alloc #[.int .i64 0, .int .i64 0] 31)
  have j0 : _ = some (Value.int .i64 a0) := HE.out.blks.2.2.2.1.at 0
  have j1 : _ = some (Value.int .i64 a1) := HE.out.blks.2.2.2.1.at 1
  have j2 : _ = some (Value.int .i64 a2) := HE.out.blks.2.2.2.1.at 2
  have j3 : _ = some (Value.int .i64 a3) := HE.out.blks.2.2.2.1.at 3
  have j4 : _ = some (Value.int .i64 a4) := HE.out.blks.2.2.2.1.at 4
  have j5 : _ = some (Value.int .i64 a5) := HE.out.blks.2.2.2.1.at 5
  go_wp2_with fail
  go_at_call 74
  refine (CS.out _).mono ?_
  rintro e W4 ⟨rfl, hb1⟩
  replace HE := Lib.hid (HE.out.below hb1)
  clear hb1 j0 j1 j2 j3 j4 j5
  replace HE := Lib.hid (HE.out.alloc #[.int .i64 0, .int .i64 0, .int .i64 0, .int .i64 0, .int .i64 0, .int .i64 0] 33)
  have j0 : _ = some (Value.int .i64 xl) := HE.out.blks.2.2.1.at 0
  have j1 : _ = some (Value.int .i64 xh) := HE.out.blks.2.2.1.at 1
  have j2 : _ = some (Value.int .i64 yl) := HE.out.blks.2.2.1.at 2
  have j3 : _ = some (Value.int .i64 yh) := HE.out.blks.2.2.1.at 3
  have j4 : _ = some (Value.int .i64 zl) := HE.out.blks.2.2.1.at 4
  have j5 : _ = some (Value.int .i64 zh) := HE.out.blks.2.2.1.at 5
  go_wp2_with fail
  go_at_call 75
  refine (CU.out _).mono ?_
  rintro e W5 ⟨rfl, hb1⟩
  replace HE := Lib.hid (HE.out.below hb1)
  clear hb1 j0 j1 j2 j3 j4 j5
  have B := HE.out.blks.2.2.2.1
  have f0 : W5.cell? ⟨w.heap.size + 1 + 1, 0, none⟩ = some (.int .i64 0) := B.at 0
  have f1 : W5.cell? ⟨w.heap.size + 1 + 1, 1, none⟩ = some (.int .i64 0) := B.at 1
  have f2 : W5.cell? ⟨w.heap.size + 1 + 1, 2, none⟩ = some (.int .i64 0) := B.at 2
  have f3 : W5.cell? ⟨w.heap.size + 1 + 1, 3, none⟩ = some (.int .i64 0) := B.at 3
  have f4 : W5.cell? ⟨w.heap.size + 1 + 1, 4, none⟩ = some (.int .i64 0) := B.at 4
  have f5 : W5.cell? ⟨w.heap.size + 1 + 1, 5, none⟩ = some (.int .i64 0) := B.at 5
  have g0 : W5.frozen? ⟨w.heap.size + 1 + 1, 0, none⟩ = false := B.fr 0
  have g1 : W5.frozen? ⟨w.heap.size + 1 + 1, 1, none⟩ = false := B.fr 1
  have g2 : W5.frozen? ⟨w.heap.size + 1 + 1, 2, none⟩ = false := B.fr 2
  have g3 : W5.frozen? ⟨w.heap.size + 1 + 1, 3, none⟩ = false := B.fr 3
  have g4 : W5.frozen? ⟨w.heap.size + 1 + 1, 4, none⟩ = false := B.fr 4
  have g5 : W5.frozen? ⟨w.heap.size + 1 + 1, 5, none⟩ = false := B.fr 5
  have E0 : Env w [(w.heap.size + 1 + 1, #[.int .i64 0, .int .i64 0, .int .i64 0, .int .i64 0, .int .i64 0, .int .i64 0], 33)] [] W5 := ⟨⟨B, trivial⟩, trivial, HE.out.bel⟩
  clear HE B
  replace HE := Lib.hid E0
  clear E0
  go_wp2
  have E := ((((((HE.out.setY (by omega) (by simp [Free] <;> omega) rfl 0 (.int .i64 xl)).setY (by omega) (by simp [Free] <;> omega) rfl 1 (.int .i64 xh)).setY (by omega) (by simp [Free] <;> omega) rfl 2 (.int .i64 yl)).setY (by omega) (by simp [Free] <;> omega) rfl 3 (.int .i64 yh)).setY (by omega) (by simp [Free] <;> omega) rfl 4 (.int .i64 zl)).setY (by omega) (by simp [Free] <;> omega) rfl 5 (.int .i64 zh))
  have q0 : _ = some (Value.int .i64 xl) := E.blks.1.at 0
  have q1 : _ = some (Value.int .i64 xh) := E.blks.1.at 1
  have q2 : _ = some (Value.int .i64 yl) := E.blks.1.at 2
  have q3 : _ = some (Value.int .i64 yh) := E.blks.1.at 3
  have q4 : _ = some (Value.int .i64 zl) := E.blks.1.at 4
  have q5 : _ = some (Value.int .i64 zh) := E.blks.1.at 5
  refine bodyPost_ret (v := .tuple #[.agg #[.int .i64 xl, .int .i64 xh, .int .i64 yl, .int .i64 yh, .int .i64 zl, .int .i64 zh], .int .i64 0]) (by simp [results, Tryz.results28, go_sem, q0, q1, q2, q3, q4, q5]) rfl ?_
  exact ⟨rfl, E.bel⟩

end Go.Proofs.YtilaheplclaokaaGreat
namespace Go.Proofs.YtilaheplclaokaaGreat
open Go.RowKit Go.Shelf

/-- The world in which a block holds another object. -/
def putObj (w : World) (r : Nat) (x : Obj) : World := { w with heap := w.heap.setIfInBounds r x }
theorem putObj_size (w : World) (r : Nat) (x : Obj) : (putObj w r x).heap.size = w.heap.size := by simp [putObj]
theorem putObj_at {w : World} {r : Nat} (x : Obj) (h : r < w.heap.size) : (putObj w r x).heap[r]? = some x := by simp [putObj, h]
theorem below_putObj {B : Nat} {w W : World} (h : Below B w W) {r : Nat} (x : Obj) (hr : B ≤ r) : Below B w (putObj W r x) where
  os := h.os
  tape := h.tape
  output := h.output
  size := by rw [putObj_size]; exact h.size
  block := fun k hk => by
    have hne : r ≠ k := by omega
    rw [← h.block k hk]
    simp [Go.Proofs.YtilaheplclaokaaGreat.putObj, Array.getElem?_setIfInBounds, hne]

/-- The map of one entry. -/
def oneMap (z : Int) (v : Value) : Obj := .map #[{ key := .int .i64 z, val := v, born := 0 }] 1

theorem map_put (w : World) (r : Nat) (z : Int) (v : Value) (hb : w.heap[r]? = some (.map #[] 0)) :
    (Instr.mapUpdate 123 (.map (some r)) (.int .i64 z) v).run Tryz.prog w = .ok () (putObj w r (oneMap z v)) := by
  have hm := Tryz.underlying123
  have hk := Tryz.underlying2
  have hf : Instr.findNow (.int .i64) (.int .i64 z) ([] : List MapEntry) 0 = some none := rfl
  have hc : (Instr.checkKey false 10000 2 (.int .i64 z)).run Tryz.prog w = .ok () w := MapKept.run_checkKey (k := .int .i64 z) hk (by simp [MapKept.IsKey]) false 9999
  simp [Instr.mapUpdate, run_underlying hm, MapKept.run_getObj_map hb, hc, MapKept.run_findKey hk hf, MapKept.run_setObj_map _ hb, Result.andThen, putObj, oneMap]

theorem Tryz.infoInts : (Tryz.prog.info? 26).map (fun i => (i.zero, i.size, i.bytes)) = some (some (.slice none 0 0), 1, 24) := by kernel_rfl

theorem map_look0 (w : World) (r : Nat) (z : Int) (hb : w.heap[r]? = some (.map #[] 0)) :
    (Instr.lookup 123 (.map (some r)) (.int .i64 z) false).run Tryz.prog w = .ok (.slice none 0 0) w := by
  have hm := Tryz.underlying123
  have hk := Tryz.underlying2
  obtain ⟨i, hi, hz, hs, hy⟩ := info_parts Tryz.infoInts
  have hf : Instr.findNow (.int .i64) (.int .i64 z) ([] : List MapEntry) 0 = some none := rfl
  have hc : (Instr.checkKey true 10000 2 (.int .i64 z)).run Tryz.prog w = .ok () w := MapKept.run_checkKey (k := .int .i64 z) hk (by simp [MapKept.IsKey]) true 9999
  simp [Instr.lookup, run_underlying hm, MapKept.run_getObj_map hb, hc, MapKept.run_findKey hk hf, Result.andThen, zeroValue, typeInfo, hi, hz]

/-- What the map of one entry holds at a key. -/
def oneAt (z k : Int) (v : Value) : Value := if k = z then v else .slice none 0 0

theorem oneAt_slice (z k : Int) {v : Value} (hv : ∃ A n c, v = .slice A n c) : ∃ A n c, oneAt z k v = .slice A n c := by
  unfold oneAt
  split
  · exact hv
  · exact ⟨_, _, _, rfl⟩

theorem map_look1 (w : World) (r : Nat) (z k : Int) (v : Value) (hb : w.heap[r]? = some (oneMap z v)) :
    (Instr.lookup 123 (.map (some r)) (.int .i64 k) false).run Tryz.prog w = .ok (oneAt z k v) w := by
  have hm := Tryz.underlying123
  have hk := Tryz.underlying2
  obtain ⟨i, hi, hz, hs, hy⟩ := info_parts Tryz.infoInts
  have hc : (Instr.checkKey false 10000 2 (.int .i64 k)).run Tryz.prog w = .ok () w := MapKept.run_checkKey (k := .int .i64 k) hk (by simp [MapKept.IsKey]) false 9999
  unfold oneMap at hb
  by_cases h : k = z
  · have hf : Instr.findNow (.int .i64) (.int .i64 k) [{ key := .int .i64 z, val := v, born := 0 }] 0 = some (some (0, v)) := by
      simp [Instr.findNow, Instr.sameNow, h]
    have ho : oneAt z k v = v := by unfold oneAt; rw [if_pos h]
    rw [ho]
    simp [Instr.lookup, run_underlying hm, MapKept.run_getObj_map hb, hc, MapKept.run_findKey hk hf, Result.andThen]
  · have hf : Instr.findNow (.int .i64) (.int .i64 k) [{ key := .int .i64 z, val := v, born := 0 }] 0 = some none := by
      have e : (k == z) = false := by simpa using h
      simp [Instr.findNow, Instr.sameNow, e]
    simp [Instr.lookup, run_underlying hm, MapKept.run_getObj_map hb, hc, MapKept.run_findKey hk hf, Result.andThen, zeroValue, typeInfo, hi, hz, oneAt, h]

/-- A block holds these values, a cell each. -/
structure Cells (w : World) (b n : Nat) (f : Nat → Value) : Prop where
  lt : b < w.heap.size
  cell : ∀ i, i < n → w.cell? ⟨b, i, none⟩ = some (f i)
  free : ∀ i, i < n → w.frozen? ⟨b, i, none⟩ = false
def nils (n : Nat) : Array Value := madeCells #[.slice none 0 0] n
theorem nils_get (n i : Nat) (h : i < n) : (nils n)[i]? = some (.slice none 0 0) := by
  unfold nils
  rw [← Array.getElem?_toList, toList_madeCells_one]
  simp [h]
theorem Cells.new (w : World) (n : Nat) (t : TypeId) : Cells (w.alloc (.cells (nils n) t)) w.heap.size n (fun _ => .slice none 0 0) where
  lt := by simp
  cell := fun i hi => by rw [World.cell?_alloc_at _ _ _ _ rfl]; exact nils_get n i hi
  free := fun i hi => by simp
theorem Cells.set {w : World} {b n k : Nat} {f : Nat → Value} (h : Cells w b n f) (x : Value) (hk : k < n) (g : Nat → Value) (hg : ∀ i, g i = if i = k then x else f i) : Cells (w.setCell ⟨b, k, none⟩ x) b n g where
  lt := by simpa [World.setCell] using h.lt
  cell := fun i hi => by
    rw [hg i]
    split
    · rename_i e; subst e; exact World.cell?_setCell_same' _ _ _ (by rw [h.cell i hi]; rfl)
    · rename_i e
      have hne : (⟨b, k, none⟩ : Addr) ≠ ⟨b, i, none⟩ := fun e' => e (by injection e' with _ e'; exact e'.symm)
      rw [World.cell?_setCell_other (h := hne)]
      exact h.cell i hi
  free := fun i hi => by rw [World.frozen?_setCell]; exact h.free i hi
theorem Cells.below {w w' : World} {b n : Nat} {f : Nat → Value} (h : Cells w b n f) (hb : Below w.heap.size w w') : Cells w' b n f where
  lt := Nat.lt_of_lt_of_le h.lt hb.size
  cell := fun i hi => (hb.cell (p := ⟨b, i, none⟩) h.lt).trans (h.cell i hi)
  free := fun i hi => (hb.frozen (p := ⟨b, i, none⟩) h.lt).trans (h.free i hi)
theorem Cells.eq {w : World} {b n : Nat} {f : Nat → Value} (h : Cells w b n f) (g : Nat → Value) (hg : ∀ i, i < n → f i = g i) : Cells w b n g where
  lt := h.lt
  cell := fun i hi => by rw [← hg i hi]; exact h.cell i hi
  free := h.free
/-- A row into which the first entries of a map of one entry were laid. -/
def rowAt (z : Int) (v : Value) (k j : Nat) : Value := if j < k then oneAt z j v else .slice none 0 0
theorem rowAt_zero (z : Int) (v : Value) (j : Nat) : rowAt z v 0 j = .slice none 0 0 := rfl
theorem rowAt_succ (z : Int) (v : Value) (k j : Nat) : rowAt z v (k + 1) j = if j = k then oneAt z k v else rowAt z v k j := by
  unfold rowAt
  by_cases h1 : j = k
  · subst h1; simp
  · rw [if_neg h1]
    by_cases h2 : j < k
    · rw [if_pos h2, if_pos (by omega)]
    · rw [if_neg h2, if_neg (by omega)]
theorem rowAt_end {z : Int} (v : Value) {n j : Nat} (hj : j < n) (h0 : 0 ≤ z) : rowAt z v n j = if j = z.toNat then v else .slice none 0 0 := by
  unfold rowAt oneAt
  rw [if_pos hj]
  by_cases h : j = z.toNat
  · rw [if_pos (by omega), if_pos h]
  · rw [if_neg (by omega), if_neg h]
theorem obj_setCell {w : World} {p : Addr} {r : Nat} (u : Value) (hne : p.block ≠ r) : (w.setCell p u).heap[r]? = w.heap[r]? := by
  simp only [World.setCell]
  rw [Array.getElem?_modify, if_neg hne]

theorem make_rows (n : Nat) (hn : n ≤ 1000000) (w : World) :
    (Instr.makeSlice 59 (.int .i64 (n : Int)) (.int .i64 (n : Int))).run Tryz.prog w = .ok (.slice (some ⟨w.heap.size, 0, none⟩) n n) (w.alloc (.cells (nils n) 26)) := by
  obtain ⟨i, hi, hz, hs, hb⟩ := info_parts Tryz.infoInts
  have h := run_make (P := Tryz.prog) w 59 26 i (.slice none 0 0) Tryz.underlying59 hi hz .i64 .i64 n n (by omega) (by omega) (by rw [hb]; omega) (by omega)
  rw [hs] at h
  simp only [Int.toNat_natCast, Nat.mul_one] at h
  exact h

end Go.Proofs.YtilaheplclaokaaGreat
namespace Go.Proofs.YtilaheplclaokaaGreat
open Go.RowKit Go.Shelf
attribute [local go_sem] Oper.semAt_some run_makeMap


/-- A row of rows of which one has one number, or the error of an argument. -/
def ZonesPost (w : World) (e : Ending) (w' : World) : Prop :=
  Below w.heap.size w w' ∧
  (e = .returned (.tuple #[.slice none 0 0, .int .i64 2]) ∨
    ∃ b n z A c, e = .returned (.tuple #[.slice (some ⟨b, 0, none⟩) n n, .int .i64 0]) ∧ z < n ∧ n ≤ 1000 ∧ Cells w' b n fun i => if i = z then .slice A 1 c else .slice none 0 0)

theorem zones_num {width : Int} (h0 : 1296000000 ≤ width) (h1 : width ≤ 648000000000) : ∃ n : Nat, Int.tdiv (648000000000 + width - 1) width = n ∧ 1 ≤ n ∧ n ≤ 1000 := by
  rw [Int.tdiv_eq_ediv_of_nonneg (by omega)]
  have a1 : 1 ≤ (648000000000 + width - 1) / width := (Int.le_ediv_iff_mul_le (by omega)).mpr (by omega)
  have a2 : (648000000000 + width - 1) / width < 1001 := Int.ediv_lt_of_lt_mul (by omega) (by omega)
  exact ⟨((648000000000 + width - 1) / width).toNat, by omega, by omega, by omega⟩
theorem zones_at {width d : Int} (h0 : 1296000000 ≤ width) (h2 : -324000000000 ≤ d) : 0 ≤ (d + 324000000000) / width := by
  exact Int.ediv_nonneg (by omega) (by omega)

set_option maxRecDepth 100000 in
set_option maxHeartbeats 1000000 in
theorem Zones_calls (w : World) (o : Nat) (c : Nat) (ty : TypeId) (s : ByteArray) (ep ra de pr pd pa mg t width : Int) (hs : StarOk s ep ra de pr pd pa mg) (hp : PlaceOk de pd ep t) (hb : Blk w o #[.string s, .int .i64 ep, .int .i64 ra, .int .i64 de, .int .i64 pr, .int .i64 pd, .int .i64 pa, .int .i64 mg] ty) :
    Calls Tryz.prog 27 #[.slice (some ⟨o, 0, none⟩) 1 c, .int .i64 t, .int .i64 width] w (ZonesPost w) := by
  have CA := Lib.hid fun w' hb' => checkAll_calls w' o c ty s ep ra de pr pd pa mg hs hb'
  have CP := Lib.hid fun w' => Place_calls w' s ep ra de pr pd pa mg t hs (by have := hp.t0; omega) (by have := hp.t1; omega)
  rw [hp.plA, hp.plB, hp.plE] at CP
  have CT : Hid (∀ w' : World, Calls Tryz.prog 32 #[.int .i64 (-5000000000000000), .int .i64 t, .int .i64 5000000000000000] w' (RetPost (.bool true) w')) := Lib.hid fun w' => between_calls w' _ _ _ hp.t0 hp.t1
  have CW : Hid (∀ w' : World, Calls Tryz.prog 32 #[.int .i64 1296000000, .int .i64 width, .int .i64 648000000000] w' (RetPost (.bool (decide (1296000000 ≤ width ∧ width ≤ 648000000000))) w')) := Lib.hid fun w' => between_any w' _ _ _
  have hd := hp.d0
  have hd1 := hp.d1
  clear hp hs
  generalize plRa ra pr ep t = za at *
  generalize plDe de pd ep t = zd at *
  have HE := Lib.hid ((Env.start w).blk hb)
  have HC := Lib.hid (CA.out _ hb)
  clear hb CA
  by_cases hw : 1296000000 ≤ width ∧ width ≤ 648000000000
  · rw [decide_eq_true hw] at CW
    obtain ⟨n, hn, hn1, hn2⟩ := zones_num hw.1 hw.2
    have hq := zones_at (width := width) hw.1 hd
    have hh := Lib.hid (And.intro hq (And.intro hn1 hn2))
    clear hq
    have hw1 : IntKind.i64.wrap (648000000000 + width) = 648000000000 + width := wrap_i64 _ (by omega) (by omega)
    have hw2 : IntKind.i64.wrap (648000000000 + width - 1) = 648000000000 + width - 1 := wrap_i64 _ (by omega) (by omega)
    have hw3 : IntKind.i64.wrap (zd + 324000000000) = zd + 324000000000 := wrap_i64 _ (by omega) (by omega)
    have hw4 : ¬ width = 0 := by omega
    have hw5 : ¬ width = -1 := by omega
    go_enter Tryz.func27, Tryz.ntmps27
    go_wp2_with fail
    go_at_call 31
    refine HC.out.mono ?_
    rintro e W1 ⟨rfl, hb1⟩
    replace HE := Lib.hid (HE.out.below hb1)
    clear hb1 HC
    go_wp2_with (first | (go_at_call_has 32 (Value.int .i64 5000000000000000); refine (CT.out _).mono ?_; rintro e w' ⟨rfl, rfl⟩) | (go_at_call_has 32 width; refine (CW.out _).mono ?_; rintro e w' ⟨rfl, rfl⟩))
    have hwm : w.heap.size ≤ W1.heap.size := HE.out.bel.size
    go_wp2
    have hb1 := (Below.refl W1.heap.size W1).alloc (Nat.le_refl _) (.map #[] 0)
    replace HE := Lib.hid (HE.out.below hb1)
    have hm0 : (W1.alloc (.map #[] 0)).heap[W1.heap.size]? = some (.map #[] 0) := (MapKept.heap_alloc W1 _).1
    have hml : W1.heap.size < (W1.alloc (.map #[] 0)).heap.size := by simp
    have hmw := hb1.size
    clear hb1
    generalize W1.alloc (.map #[] 0) = V at *
    generalize W1.heap.size = mb at *
    refine wp_loop_rounds 2 ?_
    rw [rounds_succ]
    have k0 : V.cell? ⟨o, 0, none⟩ = some (.string s) := (HE.out.blks.1).at 0
    have k1 : V.cell? ⟨o, 1, none⟩ = some (.int .i64 ep) := (HE.out.blks.1).at 1
    have k2 : V.cell? ⟨o, 2, none⟩ = some (.int .i64 ra) := (HE.out.blks.1).at 2
    have k3 : V.cell? ⟨o, 3, none⟩ = some (.int .i64 de) := (HE.out.blks.1).at 3
    have k4 : V.cell? ⟨o, 4, none⟩ = some (.int .i64 pr) := (HE.out.blks.1).at 4
    have k5 : V.cell? ⟨o, 5, none⟩ = some (.int .i64 pd) := (HE.out.blks.1).at 5
    have k6 : V.cell? ⟨o, 6, none⟩ = some (.int .i64 pa) := (HE.out.blks.1).at 6
    have k7 : V.cell? ⟨o, 7, none⟩ = some (.int .i64 mg) := (HE.out.blks.1).at 7
    go_wp2_with fail
    go_at_call 11
    refine (CP.out _).mono ?_
    have hm1 : (V.alloc (.cells #[.string s, .int .i64 ep, .int .i64 ra, .int .i64 de, .int .i64 pr, .int .i64 pd, .int .i64 pa, .int .i64 mg] 39)).heap[mb]? = some (.map #[] 0) := ((MapKept.heap_alloc V _).2 mb hml).trans hm0
    replace HE := Lib.hid (HE.out.alloc #[.string s, .int .i64 ep, .int .i64 ra, .int .i64 de, .int .i64 pr, .int .i64 pd, .int .i64 pa, .int .i64 mg] 39)
    have hml1 : mb < (V.alloc (.cells #[.string s, .int .i64 ep, .int .i64 ra, .int .i64 de, .int .i64 pr, .int .i64 pd, .int .i64 pa, .int .i64 mg] 39)).heap.size := by rw [World.size_alloc]; omega
    rintro e W4 ⟨rfl, hb1⟩
    replace HE := Lib.hid (HE.out.below hb1)
    have hm4 : W4.heap[mb]? = some (.map #[] 0) := (hb1.block mb hml1).trans hm1
    have hml4 : mb < W4.heap.size := Nat.lt_of_lt_of_le hml1 hb1.size
    clear hb1 hm1 hml1 k0 k1 k2 k3 k4 k5 k6 k7
    have hl0 := fun z => map_look0 W4 mb z hm4
    have hap : ∀ (W : World) (x : Int), _ = _ := append_one
    have hmp : ∀ (c1 c2 : Obj) (z : Int) (v : Value), (Instr.mapUpdate 123 (.map (some mb)) (.int .i64 z) v).run Tryz.prog ((W4.alloc c1).alloc c2).drew = .ok () (putObj ((W4.alloc c1).alloc c2).drew mb (oneMap z v)) := fun c1 c2 z v => map_put _ _ _ _ (((MapKept.heap_alloc (W4.alloc c1) c2).2 mb (by rw [World.size_alloc]; omega)).trans (((MapKept.heap_alloc W4 c1).2 mb hml4).trans hm4))
    clear hm0 hml hm4
    go_wp2
    · skip
      generalize hA : Value.slice (some ⟨W4.heap.size + 1, 0, none⟩) 1 _ = v
      have hvs : Hid (∃ A c, v = .slice A 1 c) := Lib.hid ⟨_, _, hA.symm⟩
      clear hA
      generalize hW5 : putObj _ mb (oneMap ((zd + 324000000000) / width) v) = W5
      have hkey : 0 ≤ ((zd + 324000000000) / width) ∧ ((zd + 324000000000) / width) < n := by have := hh.out; omega
      have hkk := Lib.hid hkey
      clear hkey
      generalize ((zd + 324000000000) / width) = z at *
      have hbel : Below w.heap.size w W5 := by
        rw [← hW5]
        exact below_putObj (((HE.out.alloc _ _).alloc _ _).drew.bel) _ hwm
      have hml5 : mb < W5.heap.size := by
        rw [← hW5, putObj_size]
        simp
        omega
      have hm5 : W5.heap[mb]? = some (oneMap z v) := by
        rw [← hW5]
        refine putObj_at _ ?_
        simp
        omega
      clear hW5 HE CP CT CW hl0 hap hmp hml4 hmw
      have hmk := make_rows n (by omega)
      rw [rounds_succ]
      go_wp2
      have hcells := Cells.new W5 n 26
      have hb6 := (Below.refl W5.heap.size W5).alloc (Nat.le_refl _) (.cells (nils n) 26)
      have hwb : w.heap.size ≤ W5.heap.size := hbel.size
      have hbw : W5.heap.size ≠ mb := by omega
      replace hbel := hbel.trans (hb6.mono hwb)
      have hm6 : (W5.alloc (.cells (nils n) 26)).heap[mb]? = some (oneMap z v) := (hb6.block mb hml5).trans hm5
      clear hb6 hm5 hmk
      generalize W5.alloc (.cells (nils n) 26) = W6 at *
      generalize W5.heap.size = b at *
      go_loopw [75] (fun i wr => ∃ k : Nat, k ≤ n ∧ i = .int .i64 k ∧ Cells wr b n (rowAt z v k) ∧ Below w.heap.size w wr ∧ wr.heap[mb]? = some (oneMap z v)) (fun i _ => n - (intOf i).toNat)
      case atStart => exact ⟨0, Nat.zero_le _, rfl, hcells, hbel, hm6⟩
      case round =>
        clear hcells hbel hm6
        obtain ⟨k, hk, rfl, hcells, hbel, hm6⟩ := hrel
        by_cases hlt : k < n
        · have hlk := map_look1 wr mb z k v hm6
          obtain ⟨A', n', c', ho⟩ := oneAt_slice z k (v := v) (let ⟨A, c, h⟩ := hvs.out; ⟨A, 1, c, h⟩)
          rw [ho] at hlk
          have HO := Lib.hid ho
          clear ho
          have hc := hcells.cell k hlt
          have hf := hcells.free k hlt
          go_wp2
          go_roundw
          case rel => exact ⟨k + 1, by omega, by go_num, hcells.set _ hlt _ (fun i => by rw [rowAt_succ, HO.out]), hbel.setCell (p := ⟨b, k, none⟩) hwb _, (obj_setCell _ hbw).trans hm6⟩
          case measure => simp [intOf]; omega
        · obtain rfl : k = n := by omega
          go_wp2
          refine bodyPost_ret (v := .tuple #[.slice (some ⟨b, 0, none⟩) k k, .int .i64 0]) (by simp [results, Tryz.results27, go_sem]) rfl ?_
          have hkz := hkk.out
          obtain ⟨A9, c9, hv9⟩ := hvs.out
          refine ⟨hbel, .inr ⟨b, k, z.toNat, A9, c9, rfl, by omega, by omega, hcells.eq _ fun i hi => ?_⟩⟩
          rw [rowAt_end _ hi hkz.1, hv9]
    · skip
      generalize hA : Value.slice (some ⟨W4.heap.size + 1, 0, none⟩) 1 _ = v
      have hvs : Hid (∃ A c, v = .slice A 1 c) := Lib.hid ⟨_, _, hA.symm⟩
      clear hA
      generalize hW5 : putObj _ mb (oneMap ((n : Int) - 1) v) = W5
      have hkey : 0 ≤ ((n : Int) - 1) ∧ ((n : Int) - 1) < n := by have := hh.out; omega
      have hkk := Lib.hid hkey
      clear hkey
      generalize ((n : Int) - 1) = z at *
      have hbel : Below w.heap.size w W5 := by
        rw [← hW5]
        exact below_putObj (((HE.out.alloc _ _).alloc _ _).drew.bel) _ hwm
      have hml5 : mb < W5.heap.size := by
        rw [← hW5, putObj_size]
        simp
        omega
      have hm5 : W5.heap[mb]? = some (oneMap z v) := by
        rw [← hW5]
        refine putObj_at _ ?_
        simp
        omega
      clear hW5 HE CP CT CW hl0 hap hmp hml4 hmw
      have hmk := make_rows n (by omega)
      rw [rounds_succ]
      go_wp2
      have hcells := Cells.new W5 n 26
      have hb6 := (Below.refl W5.heap.size W5).alloc (Nat.le_refl _) (.cells (nils n) 26)
      have hwb : w.heap.size ≤ W5.heap.size := hbel.size
      have hbw : W5.heap.size ≠ mb := by omega
      replace hbel := hbel.trans (hb6.mono hwb)
      have hm6 : (W5.alloc (.cells (nils n) 26)).heap[mb]? = some (oneMap z v) := (hb6.block mb hml5).trans hm5
      clear hb6 hm5 hmk
      generalize W5.alloc (.cells (nils n) 26) = W6 at *
      generalize W5.heap.size = b at *
      go_loopw [75] (fun i wr => ∃ k : Nat, k ≤ n ∧ i = .int .i64 k ∧ Cells wr b n (rowAt z v k) ∧ Below w.heap.size w wr ∧ wr.heap[mb]? = some (oneMap z v)) (fun i _ => n - (intOf i).toNat)
      case atStart => exact ⟨0, Nat.zero_le _, rfl, hcells, hbel, hm6⟩
      case round =>
        clear hcells hbel hm6
        obtain ⟨k, hk, rfl, hcells, hbel, hm6⟩ := hrel
        by_cases hlt : k < n
        · have hlk := map_look1 wr mb z k v hm6
          obtain ⟨A', n', c', ho⟩ := oneAt_slice z k (v := v) (let ⟨A, c, h⟩ := hvs.out; ⟨A, 1, c, h⟩)
          rw [ho] at hlk
          have HO := Lib.hid ho
          clear ho
          have hc := hcells.cell k hlt
          have hf := hcells.free k hlt
          go_wp2
          go_roundw
          case rel => exact ⟨k + 1, by omega, by go_num, hcells.set _ hlt _ (fun i => by rw [rowAt_succ, HO.out]), hbel.setCell (p := ⟨b, k, none⟩) hwb _, (obj_setCell _ hbw).trans hm6⟩
          case measure => simp [intOf]; omega
        · obtain rfl : k = n := by omega
          go_wp2
          refine bodyPost_ret (v := .tuple #[.slice (some ⟨b, 0, none⟩) k k, .int .i64 0]) (by simp [results, Tryz.results27, go_sem]) rfl ?_
          have hkz := hkk.out
          obtain ⟨A9, c9, hv9⟩ := hvs.out
          refine ⟨hbel, .inr ⟨b, k, z.toNat, A9, c9, rfl, by omega, by omega, hcells.eq _ fun i hi => ?_⟩⟩
          rw [rowAt_end _ hi hkz.1, hv9]
  · rw [decide_eq_false hw] at CW
    clear hw
    go_enter Tryz.func27, Tryz.ntmps27
    go_wp2_with fail
    go_at_call 31
    refine HC.out.mono ?_
    rintro e W1 ⟨rfl, hb1⟩
    replace HE := Lib.hid (HE.out.below hb1)
    clear hb1 HC
    go_wp2_with (first | (go_at_call_has 32 (Value.int .i64 5000000000000000); refine (CT.out _).mono ?_; rintro e w' ⟨rfl, rfl⟩) | (go_at_call_has 32 width; refine (CW.out _).mono ?_; rintro e w' ⟨rfl, rfl⟩))
    refine bodyPost_ret (v := .tuple #[.slice none 0 0, .int .i64 2]) (by simp [results, Tryz.results27, go_sem]) rfl ?_
    exact ⟨HE.out.bel, .inl rfl⟩

end Go.Proofs.YtilaheplclaokaaGreat
namespace Go.Proofs.YtilaheplclaokaaGreat
open Go.RowKit Go.Shelf
attribute [local go_sem] Oper.semAt_some

/-- A code: what it says when it is 0. -/
def CodePost (p : Prop) (w : World) (e : Ending) (w' : World) : Prop :=
  ∃ r : Int, e = .returned (.int .i64 r) ∧ (r = 0 → p) ∧ Below w.heap.size w w'


set_option maxRecDepth 100000 in
set_option maxHeartbeats 1000000 in
theorem rcheck19_calls (w : World) (s : ByteArray) (ep ra de pr pd pa mg : Int) (hsz : s.size ≤ 100) :
    Calls Tryz.prog 25 #[.agg #[.string s, .int .i64 ep, .int .i64 ra, .int .i64 de, .int .i64 pr, .int .i64 pd, .int .i64 pa, .int .i64 mg]] w (CodePost (StarOk s ep ra de pr pd pa mg) w) := by
  have E := (Env.start w).alloc #[.string s, .int .i64 ep, .int .i64 ra, .int .i64 de, .int .i64 pr, .int .i64 pd, .int .i64 pa, .int .i64 mg] 39
  have HE := Lib.hid E
  clear E
  go_enter Tryz.func25, Tryz.ntmps25
  go_wp2_with fail
  go_at_call 71
  refine (rName_calls _ s hsz).mono ?_
  rintro e w' ⟨b, rfl, hnm, rfl⟩
  cases b
  · skip
    go_wp2
    all_goals (try (exfalso; omega))
    go_ret
    exact ⟨8, rfl, (fun h => absurd h (by omega)), HE.out.bel⟩
  replace hnm := Lib.hid (hnm rfl)
  go_wp2_with fail
  all_goals (try (exfalso; omega))
  go_at_call_has 72 ep
  refine (rwithin_calls _ ep 5000000000000000 (by omega) (by omega)).mono ?_
  rintro e w' ⟨b, rfl, hep, rfl⟩
  cases b
  · skip
    go_wp2
    all_goals (try (exfalso; omega))
    go_ret
    exact ⟨8, rfl, (fun h => absurd h (by omega)), HE.out.bel⟩
  replace hep := hep rfl
  by_cases h0 : ra < 0
  · skip
    go_wp2
    all_goals (try (exfalso; omega))
    go_ret
    exact ⟨8, rfl, (fun h => absurd h (by omega)), HE.out.bel⟩
  by_cases h1 : 1296000000000 ≤ ra
  · skip
    go_wp2
    all_goals (try (exfalso; omega))
    go_ret
    exact ⟨8, rfl, (fun h => absurd h (by omega)), HE.out.bel⟩
  go_wp2_with fail
  all_goals (try (exfalso; omega))
  go_at_call_has 72 de
  refine (rwithin_calls _ de 324000000000 (by omega) (by omega)).mono ?_
  rintro e w' ⟨b, rfl, hde, rfl⟩
  cases b
  · skip
    go_wp2
    all_goals (try (exfalso; omega))
    go_ret
    exact ⟨8, rfl, (fun h => absurd h (by omega)), HE.out.bel⟩
  replace hde := hde rfl
  go_wp2_with fail
  all_goals (try (exfalso; omega))
  go_at_call_has 72 pr
  refine (rwithin_calls _ pr 20000000 (by omega) (by omega)).mono ?_
  rintro e w' ⟨b, rfl, hpr, rfl⟩
  cases b
  · skip
    go_wp2
    all_goals (try (exfalso; omega))
    go_ret
    exact ⟨8, rfl, (fun h => absurd h (by omega)), HE.out.bel⟩
  replace hpr := hpr rfl
  go_wp2_with fail
  all_goals (try (exfalso; omega))
  go_at_call_has 72 pd
  refine (rwithin_calls _ pd 20000000 (by omega) (by omega)).mono ?_
  rintro e w' ⟨b, rfl, hpd, rfl⟩
  cases b
  · skip
    go_wp2
    all_goals (try (exfalso; omega))
    go_ret
    exact ⟨8, rfl, (fun h => absurd h (by omega)), HE.out.bel⟩
  replace hpd := hpd rfl
  by_cases h2 : pa < 0
  · skip
    go_wp2
    all_goals (try (exfalso; omega))
    go_ret
    exact ⟨8, rfl, (fun h => absurd h (by omega)), HE.out.bel⟩
  by_cases h3 : 1000000 < pa
  · skip
    go_wp2
    all_goals (try (exfalso; omega))
    go_ret
    exact ⟨8, rfl, (fun h => absurd h (by omega)), HE.out.bel⟩
  by_cases h4 : mg < -500
  · by_cases h5 : mg = 9999
    · omega
    · skip
      go_wp2
      all_goals (try (exfalso; omega))
      go_ret
      exact ⟨8, rfl, (fun h => absurd h (by omega)), HE.out.bel⟩
  by_cases h6 : 3000 < mg
  · by_cases h5 : mg = 9999
    · subst h5
      go_wp2
      all_goals (try (exfalso; omega))
      go_ret
      exact ⟨0, rfl, (fun _ => ⟨hnm.out, by omega, by omega, by omega, by omega, by omega, by omega, by omega, by omega, by omega, by omega, by omega, by omega, .inr rfl⟩), HE.out.bel⟩
    · skip
      go_wp2
      all_goals (try (exfalso; omega))
      go_ret
      exact ⟨8, rfl, (fun h => absurd h (by omega)), HE.out.bel⟩
  go_wp2
  all_goals (try (exfalso; omega))
  go_ret
  exact ⟨0, rfl, (fun _ => ⟨hnm.out, by omega, by omega, by omega, by omega, by omega, by omega, by omega, by omega, by omega, by omega, by omega, by omega, .inl ⟨by omega, by omega⟩⟩), HE.out.bel⟩

end Go.Proofs.YtilaheplclaokaaGreat
namespace Go.Proofs.YtilaheplclaokaaGreat
open Go.RowKit Go.Shelf
attribute [local go_sem] Oper.semAt_some

/-- At its epoch a star is at its place. -/
theorem place_epoch {s : ByteArray} {ep ra de pr pd pa mg : Int} (h : StarOk s ep ra de pr pd pa mg) : plA ra de pr pd ep ep = ra ∧ plB de pd ep ep = de ∧ plE de pd ep ep = 0 := by
  have hd : plDe de pd ep ep = de := by unfold plDe; rw [Int.sub_self]; exact moved_zero _ _
  have hr : plRa ra pr ep ep = ra := by
    unfold plRa
    rw [Int.sub_self, moved_zero]
    have := h.ra0
    have := h.ra1
    omega
  have ok : PlaceOk de pd ep ep := ⟨h.ep0, h.ep1, by rw [hd]; exact h.de0, by rw [hd]; exact h.de1⟩
  exact ⟨ok.plA.trans hr, ok.plB.trans hd, ok.plE⟩

/-- The name of the chapter's star. -/
def givenName : ByteArray := ⟨#[97, 49, 45, 98]⟩
theorem givenName_ok : NameOk givenName where
  z0 := by decide
  z1 := by decide
  all := fun i h => by
    have h4 : i < 4 := h
    have hc : i = 0 ∨ i = 1 ∨ i = 2 ∨ i = 3 := by omega
    rcases hc with rfl | rfl | rfl | rfl
    · exact .inl (show 97 ≤ (97 : UInt8).toNat ∧ (97 : UInt8).toNat ≤ 122 by decide)
    · exact .inr ⟨by decide, .inl (show 48 ≤ (49 : UInt8).toNat ∧ (49 : UInt8).toNat ≤ 57 by decide)⟩
    · exact .inr ⟨by decide, .inr (show (45 : UInt8).toNat = 45 by decide)⟩
    · exact .inl (show 97 ≤ (98 : UInt8).toNat ∧ (98 : UInt8).toNat ≤ 122 by decide)
theorem given_ok : StarOk givenName 0 100 200 (-1000) 30 0 500 :=
  ⟨givenName_ok, by omega, by omega, by omega, by omega, by omega, by omega, by omega, by omega, by omega, by omega, by omega, by omega, .inl ⟨by omega, by omega⟩⟩

set_option maxRecDepth 100000 in
theorem given_calls (w : World) :
    Calls Tryz.prog 30 #[] w (OkPost (.agg #[.string givenName, .int .i64 0, .int .i64 100, .int .i64 200, .int .i64 (-1000), .int .i64 30, .int .i64 0, .int .i64 500]) w) := by
  go_enter Tryz.func30, Tryz.ntmps30
  go_wp2
  refine bodyPost_ret (v := .agg #[.string givenName, .int .i64 0, .int .i64 100, .int .i64 200, .int .i64 (-1000), .int .i64 30, .int .i64 0, .int .i64 500]) (by simp [results, Tryz.results30, go_sem, givenName]) rfl ?_
  exact ⟨rfl, (Below.refl _ _).alloc (Nat.le_refl _) _⟩

set_option maxRecDepth 100000 in
theorem at_calls (w : World) (s : ByteArray) (ep ra de pr pd pa mg t a' b' : Int) (hs : StarOk s ep ra de pr pd pa mg) (ht0 : -9223372036854775808 ≤ t) (ht1 : t < 9223372036854775808)
    (ha : plA ra de pr pd ep t = a') (hb : plB de pd ep t = b') (he : plE de pd ep t = 0) :
    Calls Tryz.prog 29 #[.agg #[.string s, .int .i64 ep, .int .i64 ra, .int .i64 de, .int .i64 pr, .int .i64 pd, .int .i64 pa, .int .i64 mg], .int .i64 t, .int .i64 a', .int .i64 b'] w (OkPost (.bool true) w) := by
  have CP := Lib.hid fun w' => Place_calls w' s ep ra de pr pd pa mg t hs ht0 ht1
  rw [ha, hb, he] at CP
  clear ha hb he hs ht0 ht1
  have HE := Lib.hid ((Env.start w).alloc #[.string s, .int .i64 ep, .int .i64 ra, .int .i64 de, .int .i64 pr, .int .i64 pd, .int .i64 pa, .int .i64 mg] 39)
  go_enter Tryz.func29, Tryz.ntmps29
  go_wp2_with fail
  go_at_call 11
  refine (CP.out _).mono ?_
  rintro e W1 ⟨rfl, hb1⟩
  replace HE := Lib.hid (HE.out.below hb1)
  clear hb1
  go_wp2
  go_ret
  exact ⟨rfl, HE.out.bel⟩

set_option maxRecDepth 100000 in
theorem alive_calls (w : World) :
    Calls Tryz.prog 6 #[] w (OkPost (.bool true) w) := by
  have C1 := Lib.hid fun w' => at_calls w' givenName 0 100 200 (-1000) 30 0 500 15778800000000 1295999999600 215 given_ok (by omega) (by omega) (by decide +kernel) (by decide +kernel) (by decide +kernel)
  have C2 := Lib.hid fun w' => at_calls w' givenName 0 100 200 (-1000) 30 0 500 1 100 200 given_ok (by omega) (by omega) (by decide +kernel) (by decide +kernel) (by decide +kernel)
  have CG := Lib.hid fun w' => given_calls w'
  generalize givenName = s at *
  have HE := Lib.hid (Env.start w)
  go_enter Tryz.func6, Tryz.ntmps6
  go_wp2_with fail
  go_at_call 30
  refine (CG.out _).mono ?_
  rintro e W1 ⟨rfl, hb1⟩
  replace HE := Lib.hid (HE.out.below hb1)
  clear hb1
  go_wp2_with fail
  go_at_call 29
  refine (C1.out _).mono ?_
  rintro e W2 ⟨rfl, hb1⟩
  replace HE := Lib.hid (HE.out.below hb1)
  clear hb1
  go_wp2_with fail
  go_at_call 30
  refine (CG.out _).mono ?_
  rintro e W3 ⟨rfl, hb1⟩
  replace HE := Lib.hid (HE.out.below hb1)
  clear hb1
  go_wp2_with fail
  go_at_call 29
  refine (C2.out _).mono ?_
  rintro e W4 ⟨rfl, hb1⟩
  replace HE := Lib.hid (HE.out.below hb1)
  clear hb1
  go_wp2
  go_ret
  exact ⟨rfl, HE.out.bel⟩

set_option maxRecDepth 100000 in
theorem great1_calls (w : World) (b : Nat) (ty : TypeId) (s : ByteArray) (ep ra de pr pd pa mg : Int) (hb : Blk w b #[.string s, .int .i64 ep, .int .i64 ra, .int .i64 de, .int .i64 pr, .int .i64 pd, .int .i64 pa, .int .i64 mg] ty) :
    Calls Tryz.prog 7 #[.slice (some ⟨b, 0, none⟩) 1 1, .int .i64 1] w (fun e w' => ∃ r : Bool, e = .returned (.bool r) ∧ (r = false → s.size ≤ 100) ∧ w' = w) := by
  have k0 : w.cell? ⟨b, 0, none⟩ = some (.string s) := hb.at 0
  clear hb
  by_cases h : (s.size : Int) ≤ 100
  · have h' : ¬ (100 : Int) < (s.size : Int) := by omega
    go_enter Tryz.func7, Tryz.ntmps7
    go_wp2
    refine wp_loop_rounds 2 ?_
    rw [rounds_succ]
    go_wp2
    rw [rounds_succ]
    go_wp2
    go_ret
    exact ⟨false, rfl, fun _ => by omega, rfl⟩
  · have h' : (100 : Int) < (s.size : Int) := by omega
    go_enter Tryz.func7, Tryz.ntmps7
    go_wp2
    refine wp_loop_rounds 2 ?_
    rw [rounds_succ]
    go_wp2
    go_ret
    exact ⟨true, rfl, (fun h => nomatch h), rfl⟩

end Go.Proofs.YtilaheplclaokaaGreat
namespace Go.Proofs.YtilaheplclaokaaGreat
open Go.RowKit

theorem Tryz.infoIv : ∃ i, Tryz.prog.info? 31 = some i := Option.isSome_iff_exists.1 (by kernel_rfl)
theorem Tryz.cellsIv : Tryz.prog.cellsOf 31 = 2 := by kernel_rfl

theorem eqIv (w : World) (d : Nat) (a b c e : Int) :
    (Op.equalIn (d + 1 + 1) 31 (.agg #[.int .i64 a, .int .i64 b]) (.agg #[.int .i64 c, .int .i64 e])).run Tryz.prog w = .ok ((a == c) && (b == e)) w := by
  rw [run_equalIn_struct w (d + 1) 31 _ _ (by kernel_rfl) (by kernel_rfl)]
  go_simp
  by_cases h1 : a = c <;> by_cases h2 : b = e <;> simp [h1, h2]

theorem eqVec (w : World) (a0 a1 a2 a3 a4 a5 b0 b1 b2 b3 b4 b5 : Int) :
    (Op.equalIn 10000 33 (.agg #[.int .i64 a0, .int .i64 a1, .int .i64 a2, .int .i64 a3, .int .i64 a4, .int .i64 a5]) (.agg #[.int .i64 b0, .int .i64 b1, .int .i64 b2, .int .i64 b3, .int .i64 b4, .int .i64 b5])).run Tryz.prog w =
      .ok (((a0 == b0) && (a1 == b1)) && (((a2 == b2) && (a3 == b3)) && ((a4 == b4) && (a5 == b5)))) w := by
  obtain ⟨i, hi⟩ := Tryz.infoIv
  have hu : Tryz.prog.underlying 33 = some (.array 3 31) := Tryz.underlying33
  have h0 := fun w => eqIv w 9997 a0 a1 b0 b1
  have h1 := fun w => eqIv w 9997 a2 a3 b2 b3
  have h2 := fun w => eqIv w 9997 a4 a5 b4 b5
  rw [run_equalIn_array w 9999 _ _ hu hi, Tryz.cellsIv]
  simp only [List.range, List.range.loop, Op.eqItems]
  go_simp
  by_cases k0 : (a0 == b0) && (a1 == b1)
  all_goals by_cases k1 : (a2 == b2) && (a3 == b3)
  all_goals by_cases k2 : (a4 == b4) && (a5 == b5)
  all_goals simp_all

theorem eqVec_self (w : World) (a0 a1 a2 a3 a4 a5 : Int) :
    (Op.equalIn 10000 33 (.agg #[.int .i64 a0, .int .i64 a1, .int .i64 a2, .int .i64 a3, .int .i64 a4, .int .i64 a5]) (.agg #[.int .i64 a0, .int .i64 a1, .int .i64 a2, .int .i64 a3, .int .i64 a4, .int .i64 a5])).run Tryz.prog w = .ok true w := by
  rw [eqVec]
  simp

end Go.Proofs.YtilaheplclaokaaGreat

/-
Walk of the law CatalogOwn: it returns true.
Arguments of a law, opened: stars, vectors.
-/
import Derived.ProofKit
import Derived.OpenShut
import Derived.Lib.SmallJoins
import Derived.Test.YtilaheplclaokaaGreatOwn16
set_option linter.unusedVariables false
set_option linter.unusedSimpArgs false
namespace Go.Proofs.YtilaheplclaokaaGreat
open Go.RowKit Go.Shelf
attribute [local go_sem] Oper.semAt_some



set_option maxRecDepth 100000 in
set_option maxHeartbeats 2000000 in
theorem own_calls (w : World) (s : ByteArray) (ep ra de pr pd pa mg t width a0 a1 a2 a3 a4 a5 : Int) (ht0 : -9223372036854775808 ≤ t) (ht1 : t < 9223372036854775808) :
    Calls Tryz.prog 5 #[.agg #[.string s, .int .i64 ep, .int .i64 ra, .int .i64 de, .int .i64 pr, .int .i64 pd, .int .i64 pa, .int .i64 mg], .int .i64 t, .int .i64 width, .agg #[.int .i64 a0, .int .i64 a1, .int .i64 a2, .int .i64 a3, .int .i64 a4, .int .i64 a5]] w (OkPost (.bool true) w) := by
  have CA := Lib.hid fun w' => alive_calls w'
  have CV := Lib.hid fun w' => rvecCheck_calls w' a0 a1 a2 a3 a4 a5
  have E := ((Env.start w).alloc #[.string s, .int .i64 ep, .int .i64 ra, .int .i64 de, .int .i64 pr, .int .i64 pd, .int .i64 pa, .int .i64 mg] 39).alloc #[.int .i64 a0, .int .i64 a1, .int .i64 a2, .int .i64 a3, .int .i64 a4, .int .i64 a5] 33
  simp only [World.size_alloc] at E
  have HE := Lib.hid E
  clear E
  go_enter Tryz.func5, Tryz.ntmps5
  go_wp2_with fail
  go_at_call 6
  refine (CA.out _).mono ?_
  rintro e W1 ⟨rfl, hb1⟩
  replace HE := Lib.hid (HE.out.below hb1)
  clear hb1 CA
  have k0 : (W1).cell? ⟨w.heap.size, 0, none⟩ = some (.string s) := (HE.out.blks.2.1).at 0
  have k1 : (W1).cell? ⟨w.heap.size, 1, none⟩ = some (.int .i64 ep) := (HE.out.blks.2.1).at 1
  have k2 : (W1).cell? ⟨w.heap.size, 2, none⟩ = some (.int .i64 ra) := (HE.out.blks.2.1).at 2
  have k3 : (W1).cell? ⟨w.heap.size, 3, none⟩ = some (.int .i64 de) := (HE.out.blks.2.1).at 3
  have k4 : (W1).cell? ⟨w.heap.size, 4, none⟩ = some (.int .i64 pr) := (HE.out.blks.2.1).at 4
  have k5 : (W1).cell? ⟨w.heap.size, 5, none⟩ = some (.int .i64 pd) := (HE.out.blks.2.1).at 5
  have k6 : (W1).cell? ⟨w.heap.size, 6, none⟩ = some (.int .i64 pa) := (HE.out.blks.2.1).at 6
  have k7 : (W1).cell? ⟨w.heap.size, 7, none⟩ = some (.int .i64 mg) := (HE.out.blks.2.1).at 7
  replace HE := Lib.hid (HE.out.alloc #[.string s, .int .i64 ep, .int .i64 ra, .int .i64 de, .int .i64 pr, .int .i64 pd, .int .i64 pa, .int .i64 mg] 39)
  go_wp2_with fail
  go_at_call 7
  refine (great1_calls _ W1.heap.size _ s ep ra de pr pd pa mg HE.out.blks.1).mono ?_
  rintro e W2 ⟨g, rfl, hg, rfl⟩
  clear k0 k1 k2 k3 k4 k5 k6 k7
  generalize W1.alloc (.cells #[.string s, .int .i64 ep, .int .i64 ra, .int .i64 de, .int .i64 pr, .int .i64 pd, .int .i64 pa, .int .i64 mg] 39) = V at *
  cases g
  case true =>
    go_wp2
    go_ret
    exact ⟨rfl, HE.out.bel⟩
  have hsz := hg rfl
  have CS := Lib.hid fun w' => rcheck19_calls w' s ep ra de pr pd pa mg hsz
  clear hg hsz
  replace HE := Lib.hid HE.out.drop
  have k0 : (V).cell? ⟨w.heap.size, 0, none⟩ = some (.string s) := (HE.out.blks.2.1).at 0
  have k1 : (V).cell? ⟨w.heap.size, 1, none⟩ = some (.int .i64 ep) := (HE.out.blks.2.1).at 1
  have k2 : (V).cell? ⟨w.heap.size, 2, none⟩ = some (.int .i64 ra) := (HE.out.blks.2.1).at 2
  have k3 : (V).cell? ⟨w.heap.size, 3, none⟩ = some (.int .i64 de) := (HE.out.blks.2.1).at 3
  have k4 : (V).cell? ⟨w.heap.size, 4, none⟩ = some (.int .i64 pr) := (HE.out.blks.2.1).at 4
  have k5 : (V).cell? ⟨w.heap.size, 5, none⟩ = some (.int .i64 pd) := (HE.out.blks.2.1).at 5
  have k6 : (V).cell? ⟨w.heap.size, 6, none⟩ = some (.int .i64 pa) := (HE.out.blks.2.1).at 6
  have k7 : (V).cell? ⟨w.heap.size, 7, none⟩ = some (.int .i64 mg) := (HE.out.blks.2.1).at 7
  go_wp2_with fail
  go_at_call 25
  refine (CS.out _).mono ?_
  rintro e W3 ⟨r, rfl, hr, hb1⟩
  replace HE := Lib.hid (HE.out.below hb1)
  clear hb1 CS k0 k1 k2 k3 k4 k5 k6 k7
  by_cases hr0 : r = 0
  case neg =>
    have hr1 : (r != 0) = true := by rw [bne_iff_ne]; exact hr0
    clear hr
    go_wp2
    go_ret
    exact ⟨rfl, HE.out.bel⟩
  subst hr0
  have hs := hr rfl
  have HS := Lib.hid hs
  clear hr hs
  have j0 : (W3).cell? ⟨w.heap.size + 1, 0, none⟩ = some (.int .i64 a0) := (HE.out.blks.1).at 0
  have j1 : (W3).cell? ⟨w.heap.size + 1, 1, none⟩ = some (.int .i64 a1) := (HE.out.blks.1).at 1
  have j2 : (W3).cell? ⟨w.heap.size + 1, 2, none⟩ = some (.int .i64 a2) := (HE.out.blks.1).at 2
  have j3 : (W3).cell? ⟨w.heap.size + 1, 3, none⟩ = some (.int .i64 a3) := (HE.out.blks.1).at 3
  have j4 : (W3).cell? ⟨w.heap.size + 1, 4, none⟩ = some (.int .i64 a4) := (HE.out.blks.1).at 4
  have j5 : (W3).cell? ⟨w.heap.size + 1, 5, none⟩ = some (.int .i64 a5) := (HE.out.blks.1).at 5
  by_cases hv : vecB a0 a1 a2 a3 a4 a5 = true
  case neg =>
    rw [ivE_false hv] at CV
    go_wp2_with fail
    go_at_call 26
    refine (CV.out _).mono ?_
    rintro e W4 ⟨rfl, hb1⟩
    replace HE := Lib.hid (HE.out.below hb1)
    clear hb1 j0 j1 j2 j3 j4 j5
    go_wp2
    go_ret
    exact ⟨rfl, HE.out.bel⟩
  rw [ivE_true hv] at CV
  have HV := Lib.hid hv
  clear hv
  go_wp2_with fail
  go_at_call 26
  refine (CV.out _).mono ?_
  rintro e W4 ⟨rfl, hb1⟩
  replace HE := Lib.hid (HE.out.below hb1)
  clear hb1 j0 j1 j2 j3 j4 j5 CV
  have CP := Lib.hid fun w' => Place_calls w' s ep ra de pr pd pa mg ep HS.out (by have := HS.out.ep0; omega) (by have := HS.out.ep1; omega)
  rw [(place_epoch HS.out).1, (place_epoch HS.out).2.1, (place_epoch HS.out).2.2] at CP
  have CQ := Lib.hid fun w' => Place_calls w' s ep ra de pr pd pa mg t HS.out ht0 ht1
  clear ht0 ht1
  have k0 : (W4).cell? ⟨w.heap.size, 0, none⟩ = some (.string s) := (HE.out.blks.2.1).at 0
  have k1 : (W4).cell? ⟨w.heap.size, 1, none⟩ = some (.int .i64 ep) := (HE.out.blks.2.1).at 1
  have k2 : (W4).cell? ⟨w.heap.size, 2, none⟩ = some (.int .i64 ra) := (HE.out.blks.2.1).at 2
  have k3 : (W4).cell? ⟨w.heap.size, 3, none⟩ = some (.int .i64 de) := (HE.out.blks.2.1).at 3
  have k4 : (W4).cell? ⟨w.heap.size, 4, none⟩ = some (.int .i64 pr) := (HE.out.blks.2.1).at 4
  have k5 : (W4).cell? ⟨w.heap.size, 5, none⟩ = some (.int .i64 pd) := (HE.out.blks.2.1).at 5
  have k6 : (W4).cell? ⟨w.heap.size, 6, none⟩ = some (.int .i64 pa) := (HE.out.blks.2.1).at 6
  have k7 : (W4).cell? ⟨w.heap.size, 7, none⟩ = some (.int .i64 mg) := (HE.out.blks.2.1).at 7
  go_wp2_with fail
  go_at_call 11
  refine (CP.out _).mono ?_
  rintro e W5 ⟨rfl, hb1⟩
  replace HE := Lib.hid (HE.out.below hb1)
  clear hb1 CP k0 k1 k2 k3 k4 k5 k6 k7
  have k0 : (W5).cell? ⟨w.heap.size, 0, none⟩ = some (.string s) := (HE.out.blks.2.1).at 0
  have k1 : (W5).cell? ⟨w.heap.size, 1, none⟩ = some (.int .i64 ep) := (HE.out.blks.2.1).at 1
  have k2 : (W5).cell? ⟨w.heap.size, 2, none⟩ = some (.int .i64 ra) := (HE.out.blks.2.1).at 2
  have k3 : (W5).cell? ⟨w.heap.size, 3, none⟩ = some (.int .i64 de) := (HE.out.blks.2.1).at 3
  have k4 : (W5).cell? ⟨w.heap.size, 4, none⟩ = some (.int .i64 pr) := (HE.out.blks.2.1).at 4
  have k5 : (W5).cell? ⟨w.heap.size, 5, none⟩ = some (.int .i64 pd) := (HE.out.blks.2.1).at 5
  have k6 : (W5).cell? ⟨w.heap.size, 6, none⟩ = some (.int .i64 pa) := (HE.out.blks.2.1).at 6
  have k7 : (W5).cell? ⟨w.heap.size, 7, none⟩ = some (.int .i64 mg) := (HE.out.blks.2.1).at 7
  go_wp2_with fail
  go_at_call 11
  rcases plE_cases de pd ep t with hE | hE | hE
  case inr.inl =>
    rw [hE] at CQ
    clear hE
    refine (CQ.out _).mono ?_
    rintro e W6 ⟨rfl, hb1⟩
    replace HE := Lib.hid (HE.out.below hb1)
    clear hb1 k0 k1 k2 k3 k4 k5 k6 k7
    go_wp2
    go_ret
    exact ⟨rfl, HE.out.bel⟩
  case inr.inr =>
    rw [hE] at CQ
    clear hE
    refine (CQ.out _).mono ?_
    rintro e W6 ⟨rfl, hb1⟩
    replace HE := Lib.hid (HE.out.below hb1)
    clear hb1 k0 k1 k2 k3 k4 k5 k6 k7
    go_wp2
    go_ret
    exact ⟨rfl, HE.out.bel⟩
  have hp := PlaceOk.of_zero hE
  rw [hp.plA, hp.plB, hp.plE] at CQ
  clear hE
  have HP := Lib.hid hp
  have hr := plRa_range ra pr ep t
  have CU := Lib.hid fun w' => Unit_calls w' (plRa ra pr ep t) (plDe de pd ep t) (by omega) (by omega) hp.d0 hp.d1
  have hs0 : StarOk s ep ra de pr pd 0 mg := ⟨HS.out.nm, HS.out.ep0, HS.out.ep1, HS.out.ra0, HS.out.ra1, HS.out.de0, HS.out.de1, HS.out.pr0, HS.out.pr1, HS.out.pd0, HS.out.pd1, by omega, by omega, HS.out.mg⟩
  have CF := Lib.hid fun w' => Shift0_calls w' s ep ra de pr pd mg t a0 a1 a2 a3 a4 a5 hs0 hp HV.out
  have CC := Lib.hid fun w' b ty hb' => Cone_calls w' b 1 ty s ep ra de pr pd pa mg t HS.out hp hb'
  have CZ := Lib.hid fun w' b ty hb' => Zones_calls w' b 1 ty s ep ra de pr pd pa mg t width HS.out hp hb'
  clear hr hs0 hp HP HV HS
  refine (CQ.out _).mono ?_
  rintro e W6 ⟨rfl, hb1⟩
  replace HE := Lib.hid (HE.out.below hb1)
  clear hb1 CQ k0 k1 k2 k3 k4 k5 k6 k7
  generalize plRa ra pr ep t = za at *
  generalize plDe de pd ep t = zd at *
  generalize unXl za zd = xl at *
  generalize unXh za zd = xh at *
  generalize unYl za zd = yl at *
  generalize unYh za zd = yh at *
  generalize sinLo zd = zl at *
  generalize sinHi zd = zh at *
  have k0 : (W6).cell? ⟨w.heap.size, 0, none⟩ = some (.string s) := (HE.out.blks.2.1).at 0
  have k1 : (W6).cell? ⟨w.heap.size, 1, none⟩ = some (.int .i64 ep) := (HE.out.blks.2.1).at 1
  have k2 : (W6).cell? ⟨w.heap.size, 2, none⟩ = some (.int .i64 ra) := (HE.out.blks.2.1).at 2
  have k3 : (W6).cell? ⟨w.heap.size, 3, none⟩ = some (.int .i64 de) := (HE.out.blks.2.1).at 3
  have k4 : (W6).cell? ⟨w.heap.size, 4, none⟩ = some (.int .i64 pr) := (HE.out.blks.2.1).at 4
  have k5 : (W6).cell? ⟨w.heap.size, 5, none⟩ = some (.int .i64 pd) := (HE.out.blks.2.1).at 5
  have k6 : (W6).cell? ⟨w.heap.size, 6, none⟩ = some (.int .i64 pa) := (HE.out.blks.2.1).at 6
  have k7 : (W6).cell? ⟨w.heap.size, 7, none⟩ = some (.int .i64 mg) := (HE.out.blks.2.1).at 7
  go_wp2_with fail
  go_at_call 9
  replace HE := Lib.hid (HE.out.alloc #[.string s, .int .i64 ep, .int .i64 ra, .int .i64 de, .int .i64 pr, .int .i64 pd, .int .i64 pa, .int .i64 mg] 39)
  refine (CC.out _ _ _ HE.out.blks.1).mono ?_
  rintro e W7 ⟨A1, c1, A2, c2, rfl, hb1⟩
  replace HE := Lib.hid (HE.out.below hb1).drop
  clear hb1 CC k0 k1 k2 k3 k4 k5 k6 k7
  have k0 : (W7).cell? ⟨w.heap.size, 0, none⟩ = some (.string s) := (HE.out.blks.2.1).at 0
  have k1 : (W7).cell? ⟨w.heap.size, 1, none⟩ = some (.int .i64 ep) := (HE.out.blks.2.1).at 1
  have k2 : (W7).cell? ⟨w.heap.size, 2, none⟩ = some (.int .i64 ra) := (HE.out.blks.2.1).at 2
  have k3 : (W7).cell? ⟨w.heap.size, 3, none⟩ = some (.int .i64 de) := (HE.out.blks.2.1).at 3
  have k4 : (W7).cell? ⟨w.heap.size, 4, none⟩ = some (.int .i64 pr) := (HE.out.blks.2.1).at 4
  have k5 : (W7).cell? ⟨w.heap.size, 5, none⟩ = some (.int .i64 pd) := (HE.out.blks.2.1).at 5
  have k6 : (W7).cell? ⟨w.heap.size, 6, none⟩ = some (.int .i64 pa) := (HE.out.blks.2.1).at 6
  have k7 : (W7).cell? ⟨w.heap.size, 7, none⟩ = some (.int .i64 mg) := (HE.out.blks.2.1).at 7
  go_wp2_with fail
  go_at_call 27
  replace HE := Lib.hid (HE.out.alloc #[.string s, .int .i64 ep, .int .i64 ra, .int .i64 de, .int .i64 pr, .int .i64 pd, .int .i64 pa, .int .i64 mg] 39)
  refine (CZ.out _ _ _ HE.out.blks.1).mono ?_
  rintro e W8 ⟨hb1, hz⟩
  replace HE := Lib.hid (HE.out.below hb1).drop
  clear hb1 CZ k0 k1 k2 k3 k4 k5 k6 k7
  rcases hz with rfl | ⟨b, n, z, A, c, rfl, hzn, hn, hcells⟩
  · go_wp2
    refine wp_loop_rounds 1 ?_
    rw [rounds_succ]
    have k0 : (W8).cell? ⟨w.heap.size, 0, none⟩ = some (.string s) := (HE.out.blks.2.1).at 0
    have k1 : (W8).cell? ⟨w.heap.size, 1, none⟩ = some (.int .i64 ep) := (HE.out.blks.2.1).at 1
    have k2 : (W8).cell? ⟨w.heap.size, 2, none⟩ = some (.int .i64 ra) := (HE.out.blks.2.1).at 2
    have k3 : (W8).cell? ⟨w.heap.size, 3, none⟩ = some (.int .i64 de) := (HE.out.blks.2.1).at 3
    have k4 : (W8).cell? ⟨w.heap.size, 4, none⟩ = some (.int .i64 pr) := (HE.out.blks.2.1).at 4
    have k5 : (W8).cell? ⟨w.heap.size, 5, none⟩ = some (.int .i64 pd) := (HE.out.blks.2.1).at 5
    have k6 : (W8).cell? ⟨w.heap.size, 6, none⟩ = some (.int .i64 pa) := (HE.out.blks.2.1).at 6
    have k7 : (W8).cell? ⟨w.heap.size, 7, none⟩ = some (.int .i64 mg) := (HE.out.blks.2.1).at 7
    have j0 : (W8).cell? ⟨w.heap.size + 1, 0, none⟩ = some (.int .i64 a0) := (HE.out.blks.1).at 0
    have j1 : (W8).cell? ⟨w.heap.size + 1, 1, none⟩ = some (.int .i64 a1) := (HE.out.blks.1).at 1
    have j2 : (W8).cell? ⟨w.heap.size + 1, 2, none⟩ = some (.int .i64 a2) := (HE.out.blks.1).at 2
    have j3 : (W8).cell? ⟨w.heap.size + 1, 3, none⟩ = some (.int .i64 a3) := (HE.out.blks.1).at 3
    have j4 : (W8).cell? ⟨w.heap.size + 1, 4, none⟩ = some (.int .i64 a4) := (HE.out.blks.1).at 4
    have j5 : (W8).cell? ⟨w.heap.size + 1, 5, none⟩ = some (.int .i64 a5) := (HE.out.blks.1).at 5
    have hs0 : w.heap.size < (W8).heap.size := HE.out.blks.2.1.lt
    have hs1 : w.heap.size + 1 < (W8).heap.size := HE.out.blks.1.lt
    go_wp2_with fail
    go_at_call 28
    replace HE := Lib.hid (HE.out.alloc #[.string s, .int .i64 ep, .int .i64 ra, .int .i64 de, .int .i64 pr, .int .i64 pd, .int .i64 0, .int .i64 mg] 39)
    refine (CF.out _).mono ?_
    rintro e W9 ⟨rfl, hb1⟩
    replace HE := Lib.hid (HE.out.below hb1)
    clear hb1 CF k0 k1 k2 k3 k4 k5 k6 k7 j0 j1 j2 j3 j4 j5 hs0 hs1
    go_wp2_with fail
    go_at_call 10
    replace HE := Lib.hid (HE.out.alloc #[.int .i64 xl, .int .i64 xh, .int .i64 yl, .int .i64 yh, .int .i64 zl, .int .i64 zh] 33)
    refine (CU.out _).mono ?_
    rintro e W10 ⟨rfl, hb1⟩
    replace HE := Lib.hid (HE.out.below hb1)
    clear hb1 CU
    have hs1 : W9.heap.size < W10.heap.size := HE.out.blks.1.lt
    have j0 : W10.cell? ⟨W9.heap.size, 0, none⟩ = some (.int .i64 xl) := HE.out.blks.1.at 0
    have j1 : W10.cell? ⟨W9.heap.size, 1, none⟩ = some (.int .i64 xh) := HE.out.blks.1.at 1
    have j2 : W10.cell? ⟨W9.heap.size, 2, none⟩ = some (.int .i64 yl) := HE.out.blks.1.at 2
    have j3 : W10.cell? ⟨W9.heap.size, 3, none⟩ = some (.int .i64 yh) := HE.out.blks.1.at 3
    have j4 : W10.cell? ⟨W9.heap.size, 4, none⟩ = some (.int .i64 zl) := HE.out.blks.1.at 4
    have j5 : W10.cell? ⟨W9.heap.size, 5, none⟩ = some (.int .i64 zh) := HE.out.blks.1.at 5
    have hq := fun W => eqVec_self W xl xh yl yh zl zh
    go_wp2
    go_ret
    exact ⟨rfl, (HE.out.alloc #[.int .i64 xl, .int .i64 xh, .int .i64 yl, .int .i64 yh, .int .i64 zl, .int .i64 zh] 33).bel⟩
  · have HH := Lib.hid hcells
    clear hcells
    go_wp2
    go_loopw [18, 19] (fun m i w' => ∃ k : Nat, k ≤ n ∧ i = .int .i64 k ∧ m = .int .i64 (if z < k then 1 else 0) ∧ w' = W8) (fun _ i _ => n - (intOf i).toNat)
    case atStart => exact ⟨0, Nat.zero_le _, rfl, by simp, rfl⟩
    case round =>
      obtain ⟨k, hk, rfl, rfl, rfl⟩ := hrel
      by_cases hlt : k < n
      · have hc := HH.out.cell k hlt
        by_cases hkz : k = z
        · subst hkz
          rw [if_pos rfl] at hc
          go_wp2
          exact ⟨⟨k + 1, by omega, by go_num, by rw [if_pos (by omega)], trivial⟩, by simp [intOf]; omega⟩
        · rw [if_neg hkz] at hc
          have e1 : (if z < k then (1 : Int) else 0) = if z < k + 1 then 1 else 0 := by
            by_cases h : z < k
            · rw [if_pos h, if_pos (by omega)]
            · rw [if_neg h, if_neg (by omega)]
          have HE1 := Lib.hid e1
          clear e1
          go_wp2
          exact ⟨⟨k + 1, by omega, by go_num, by rw [HE1.out], trivial⟩, by simp [intOf]; omega⟩
      · obtain rfl : k = n := by omega
        rw [if_pos hzn]
        clear HH
        have k0 : (wr).cell? ⟨w.heap.size, 0, none⟩ = some (.string s) := (HE.out.blks.2.1).at 0
        have k1 : (wr).cell? ⟨w.heap.size, 1, none⟩ = some (.int .i64 ep) := (HE.out.blks.2.1).at 1
        have k2 : (wr).cell? ⟨w.heap.size, 2, none⟩ = some (.int .i64 ra) := (HE.out.blks.2.1).at 2
        have k3 : (wr).cell? ⟨w.heap.size, 3, none⟩ = some (.int .i64 de) := (HE.out.blks.2.1).at 3
        have k4 : (wr).cell? ⟨w.heap.size, 4, none⟩ = some (.int .i64 pr) := (HE.out.blks.2.1).at 4
        have k5 : (wr).cell? ⟨w.heap.size, 5, none⟩ = some (.int .i64 pd) := (HE.out.blks.2.1).at 5
        have k6 : (wr).cell? ⟨w.heap.size, 6, none⟩ = some (.int .i64 pa) := (HE.out.blks.2.1).at 6
        have k7 : (wr).cell? ⟨w.heap.size, 7, none⟩ = some (.int .i64 mg) := (HE.out.blks.2.1).at 7
        have j0 : (wr).cell? ⟨w.heap.size + 1, 0, none⟩ = some (.int .i64 a0) := (HE.out.blks.1).at 0
        have j1 : (wr).cell? ⟨w.heap.size + 1, 1, none⟩ = some (.int .i64 a1) := (HE.out.blks.1).at 1
        have j2 : (wr).cell? ⟨w.heap.size + 1, 2, none⟩ = some (.int .i64 a2) := (HE.out.blks.1).at 2
        have j3 : (wr).cell? ⟨w.heap.size + 1, 3, none⟩ = some (.int .i64 a3) := (HE.out.blks.1).at 3
        have j4 : (wr).cell? ⟨w.heap.size + 1, 4, none⟩ = some (.int .i64 a4) := (HE.out.blks.1).at 4
        have j5 : (wr).cell? ⟨w.heap.size + 1, 5, none⟩ = some (.int .i64 a5) := (HE.out.blks.1).at 5
        have hs0 : w.heap.size < (wr).heap.size := HE.out.blks.2.1.lt
        have hs1 : w.heap.size + 1 < (wr).heap.size := HE.out.blks.1.lt
        go_wp2_with fail
        go_at_call 28
        replace HE := Lib.hid (HE.out.alloc #[.string s, .int .i64 ep, .int .i64 ra, .int .i64 de, .int .i64 pr, .int .i64 pd, .int .i64 0, .int .i64 mg] 39)
        refine (CF.out _).mono ?_
        rintro e W9 ⟨rfl, hb1⟩
        replace HE := Lib.hid (HE.out.below hb1)
        clear hb1 CF k0 k1 k2 k3 k4 k5 k6 k7 j0 j1 j2 j3 j4 j5 hs0 hs1
        go_wp2_with fail
        go_at_call 10
        replace HE := Lib.hid (HE.out.alloc #[.int .i64 xl, .int .i64 xh, .int .i64 yl, .int .i64 yh, .int .i64 zl, .int .i64 zh] 33)
        refine (CU.out _).mono ?_
        rintro e W10 ⟨rfl, hb1⟩
        replace HE := Lib.hid (HE.out.below hb1)
        clear hb1 CU
        have hs1 : W9.heap.size < W10.heap.size := HE.out.blks.1.lt
        have j0 : W10.cell? ⟨W9.heap.size, 0, none⟩ = some (.int .i64 xl) := HE.out.blks.1.at 0
        have j1 : W10.cell? ⟨W9.heap.size, 1, none⟩ = some (.int .i64 xh) := HE.out.blks.1.at 1
        have j2 : W10.cell? ⟨W9.heap.size, 2, none⟩ = some (.int .i64 yl) := HE.out.blks.1.at 2
        have j3 : W10.cell? ⟨W9.heap.size, 3, none⟩ = some (.int .i64 yh) := HE.out.blks.1.at 3
        have j4 : W10.cell? ⟨W9.heap.size, 4, none⟩ = some (.int .i64 zl) := HE.out.blks.1.at 4
        have j5 : W10.cell? ⟨W9.heap.size, 5, none⟩ = some (.int .i64 zh) := HE.out.blks.1.at 5
        have hq := fun W => eqVec_self W xl xh yl yh zl zh
        go_wp2
        go_ret
        exact ⟨rfl, (HE.out.alloc #[.int .i64 xl, .int .i64 xh, .int .i64 yl, .int .i64 yh, .int .i64 zl, .int .i64 zh] 33).bel⟩

end Go.Proofs.YtilaheplclaokaaGreat
namespace Go.Proofs.YtilaheplclaokaaGreat
open Go.RowKit Go.WideShapes Go.Joins Go.ChangeShapes Go.ChangeAt

section
variable {H : Type} {enc : TypeId × Value → H} {w : World} {base : Nat} {spare : Nat → Bool} {held : Bool} {r : Reach} {b0 : Nat} {v : Value} {d : DataW H} {p : List MemPlace}

theorem array6 {α : Type} {cs : Array α} (h : cs.size = 6) : ∃ c0 c1 c2 c3 c4 c5, cs = #[c0, c1, c2, c3, c4, c5] := by
  obtain ⟨l⟩ := cs
  match l, h with
  | [c0, c1, c2, c3, c4, c5], _ => exact ⟨c0, c1, c2, c3, c4, c5, rfl⟩
theorem array8 {α : Type} {cs : Array α} (h : cs.size = 8) : ∃ c0 c1 c2 c3 c4 c5 c6 c7, cs = #[c0, c1, c2, c3, c4, c5, c6, c7] := by
  obtain ⟨l⟩ := cs
  match l, h with
  | [c0, c1, c2, c3, c4, c5, c6, c7], _ => exact ⟨c0, c1, c2, c3, c4, c5, c6, c7, rfl⟩

/-- An int64 cell. -/
theorem cellI64 {fuel : Nat} {c : Value} {x : DataW H × List MemPlace} (h : DataW.trod enc Tryz.prog w base spare held fuel 2 [c] = some x) : ∃ n : Int, c = .int .i64 n ∧ -9223372036854775808 ≤ n ∧ n < 9223372036854775808 := by
  obtain ⟨n, e, _, hw⟩ := DataW.trod_int Tryz.underlying2 h
  have hb := bounds_i64 hw
  exact ⟨n, by simpa using e, by omega, by omega⟩
/-- An int cell. -/
theorem cellInt {fuel : Nat} {c : Value} {x : DataW H × List MemPlace} (h : DataW.trod enc Tryz.prog w base spare held fuel 3 [c] = some x) : ∃ n : Int, c = .int .i64 n ∧ -9223372036854775808 ≤ n ∧ n < 9223372036854775808 := by
  obtain ⟨n, e, _, hw⟩ := DataW.trod_int Tryz.underlying3 h
  have hb := bounds_i64 hw
  exact ⟨n, by simpa using e, by omega, by omega⟩
/-- A string's cell. -/
theorem cellStr {fuel : Nat} {c : Value} {x : DataW H × List MemPlace} (h : DataW.trod enc Tryz.prog w base spare held fuel 9 [c] = some x) : ∃ s : ByteArray, c = .string s ∧ s.size ≤ maxLen := by
  obtain ⟨n, e, _, hw⟩ := DataW.trod_string Tryz.underlying9 h
  exact ⟨n, by simpa using e, hw⟩

theorem Tryz.cellsI64 : Tryz.prog.cellsOf 2 = 1 := by kernel_rfl
theorem Tryz.cellsInt : Tryz.prog.cellsOf 3 = 1 := by kernel_rfl
theorem Tryz.cellsStr : Tryz.prog.cellsOf 9 = 1 := by kernel_rfl
theorem Tryz.cellsVec : Tryz.prog.cellsOf 33 = 6 := by kernel_rfl

/-- An interval's two cells. -/
theorem cellsTwo {fuel : Nat} {c0 c1 : Value} {x : DataW H × List MemPlace} (h : DataW.trod enc Tryz.prog w base spare held fuel 31 [c0, c1] = some x) : ∃ m n : Int, c0 = .int .i64 m ∧ c1 = .int .i64 n ∧ -9223372036854775808 ≤ m ∧ m < 9223372036854775808 ∧ -9223372036854775808 ≤ n ∧ n < 9223372036854775808 := by
  obtain ⟨y0, y1, m, _, _, h0, h1⟩ := trod_struct2 Tryz.underlying31 h
  simp only [Tryz.cellsI64, List.drop, List.take] at h0 h1
  obtain ⟨a, rfl, ha, ha'⟩ := cellI64 h0
  obtain ⟨b, rfl, hb, hb'⟩ := cellI64 h1
  exact ⟨a, b, rfl, rfl, ha, ha', hb, hb'⟩

set_option maxRecDepth 100000 in
theorem open_vec (hv : Value.okWide Tryz.prog w r b0 33 v) (h : DataW.Trod enc Tryz.prog w base spare held 33 v d p) :
    ∃ a0 a1 a2 a3 a4 a5 : Int, v = .agg #[.int .i64 a0, .int .i64 a1, .int .i64 a2, .int .i64 a3, .int .i64 a4, .int .i64 a5] := by
  have hu : Tryz.prog.underlying 33 = some (.array 3 31) := Tryz.underlying33
  simp only [Value.okWide, hu] at hv
  obtain ⟨cs, rfl, hsz, _⟩ := hv
  obtain ⟨c0, c1, c2, c3, c4, c5, rfl⟩ := array6 (hsz.trans Tryz.cellsVec)
  obtain ⟨fuel, hf⟩ := h
  obtain ⟨xs, m, _, _, _, hlen, hg⟩ := DataW.trod_array hu hf
  have g0 := hg 0 (by omega)
  have g1 := hg 1 (by omega)
  have g2 := hg 2 (by omega)
  match xs, hlen with
  | [x0, x1, x2], _ =>
    simp [Value.cells, Tryz.cellsIv] at g0 g1 g2
    obtain ⟨a0, a1, rfl, rfl, _⟩ := cellsTwo g0
    obtain ⟨a2, a3, rfl, rfl, _⟩ := cellsTwo g1
    obtain ⟨a4, a5, rfl, rfl, _⟩ := cellsTwo g2
    exact ⟨_, _, _, _, _, _, rfl⟩
end
end Go.Proofs.YtilaheplclaokaaGreat

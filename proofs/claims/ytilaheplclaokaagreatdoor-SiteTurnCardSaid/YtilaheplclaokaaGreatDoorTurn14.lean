/-
Walks of package site: look, the vector that turns with the Earth, Arm.
Walks of site.Arm; of planisphereref15.Norm and Diff; of planisphereref24.Check (what it says when it is 0).
Walks of planisphereref15.Diff, planisphereref24.Check (what it says when it is 0).
Plain laws: the sine depends on the angle within a turn; the Earth's turn in a sidereal day.
Two intervals, and two vectors, are compared.
Walks of the law SiteTurn's helpers and of the law: it returns true.
Arguments of a law, opened: stars, vectors.
-/
import Derived.ChangeKeysEq
import Derived.Laws.StructEq
import Derived.ProofKit
import Derived.OpenShut
import Derived.Lib.SmallJoins
import Derived.Test.YtilaheplclaokaaGreatDoorTurn01
import Derived.Test.YtilaheplclaokaaGreatDoorTurn13
set_option linter.unusedVariables false
set_option linter.unusedSimpArgs false
namespace Go.Proofs.YtilaheplclaokaaGreatDoor
open Go.RowKit Go.Shelf
attribute [local go_sem] Oper.semAt_some

/-- The error of a site and a time. -/
def lookE (s : ByteArray) (lg c z t : Int) : Int := if siteE s lg c z = 0 then (if t < -5000000000000000 ∨ 5000000000000000 < t then 16 else 0) else siteE s lg c z
theorem siteE_cases (s : ByteArray) (lg c z : Int) : siteE s lg c z = 0 ∨ siteE s lg c z = 8 := by
  unfold siteE
  split <;> simp

set_option maxRecDepth 100000 in
set_option maxHeartbeats 1000000 in
theorem slook_calls (w : World) (s : ByteArray) (lg c z t : Int) (hs : s.size ≤ 9223372036854775807) (hz0 : -9223372036854775808 ≤ z) (hz1 : z < 9223372036854775808) :
    Calls Tryz.prog 53 #[.agg #[.string s, .int .i64 lg, .int .i64 c, .int .i64 z], .int .i64 t] w (OkPost (.int .i64 (lookE s lg c z t)) w) := by
  have CC := Lib.hid fun w' => siteCheck_calls w' s lg c z hs hz0 hz1
  have CE := Lib.hid fun w' => early_calls w' t
  have HE := Lib.hid ((Env.start w).alloc #[.string s, .int .i64 lg, .int .i64 c, .int .i64 z] 23)
  have HC := siteE_cases s lg c z
  obtain ⟨cd, hcd⟩ : ∃ cd, cd = lookE s lg c z t := ⟨_, rfl⟩
  rw [← hcd]
  unfold lookE at hcd
  generalize siteE s lg c z = sc at *
  have HD := Lib.hid hcd
  clear hcd hs hz0 hz1
  go_enter Tryz.func53, Tryz.ntmps53
  go_wp2_with fail
  go_at_call 105
  refine (CC.out _).mono ?_
  rintro e W1 ⟨rfl, hb⟩
  replace HE := Lib.hid (HE.out.below hb)
  clear hb CC
  rcases HC with h | h
  · subst h
    go_wp2_with fail
    go_at_call 46
    refine (CE.out _).mono ?_
    rintro e w' ⟨rfl, rfl⟩
    by_cases h : t < -5000000000000000 ∨ 5000000000000000 < t
    · have HQ : Hid (cd = 16) := Lib.hid (by rw [HD.out]; simp [h])
      rw [decide_eq_true h]
      go_wp2
      go_ret
      exact ⟨by rw [HQ.out]; rfl, HE.out.bel⟩
    · have HQ : Hid (cd = 0) := Lib.hid (by rw [HD.out]; simp [h])
      rw [decide_eq_false h]
      go_wp2
      go_ret
      exact ⟨by rw [HQ.out]; rfl, HE.out.bel⟩
  · subst h
    have HQ : Hid (cd = 8) := Lib.hid (by rw [HD.out]; rfl)
    go_wp2
    go_ret
    exact ⟨by rw [HQ.out]; rfl, HE.out.bel⟩

/-- An interval's product, as Mul gives it. -/
def mL (a0 a1 c0 c1 : Int) : Int := madL (mulLo a0 a1 c0 c1) (mulHi a0 a1 c0 c1)
def mH (a0 a1 c0 c1 : Int) : Int := madH (mulLo a0 a1 c0 c1) (mulHi a0 a1 c0 c1)
def mE (a0 a1 c0 c1 : Int) : Int := madE (mulLo a0 a1 c0 c1) (mulHi a0 a1 c0 c1)



set_option maxRecDepth 100000 in
set_option maxHeartbeats 2000000 in
theorem vecScaled_calls (w : World) (s : ByteArray) (lg c z t : Int) (hs : SiteOk s lg c z) (ht : -5000000000000000 ≤ t ∧ t ≤ 5000000000000000) :
    Calls Tryz.prog 55 #[.agg #[.func (.func 54) #[] #[]], .agg #[.string s, .int .i64 lg, .int .i64 c, .int .i64 z], .int .i64 t] w
      (OkPost (.agg #[.int .i64 (mL (scaLo c) (scaHi c) (sinLo (cosA (turnedV t + lg))) (sinHi (cosA (turnedV t + lg)))), .int .i64 (mH (scaLo c) (scaHi c) (sinLo (cosA (turnedV t + lg))) (sinHi (cosA (turnedV t + lg)))), .int .i64 (mL (scaLo c) (scaHi c) (sinLo (turnedV t + lg)) (sinHi (turnedV t + lg))), .int .i64 (mH (scaLo c) (scaHi c) (sinLo (turnedV t + lg)) (sinHi (turnedV t + lg))), .int .i64 (scaLo z), .int .i64 (scaHi z)]) w) := by
  have hr : 0 ≤ turnedV t ∧ turnedV t < 1296000000000 := by unfold turnedV; omega
  have h0 := hs.l0
  have h1 := hs.l1
  have hc0 := hs.c0
  have hc1 := hs.c1
  have hz0 := hs.z0
  have hz1 := hs.z1
  have CT := Lib.hid fun w' => Turned_calls w' t ht
  have CC := Lib.hid fun w' => scaled_calls w' c (by omega)
  have CZ := Lib.hid fun w' => scaled_calls w' z (by omega)
  have hw : IntKind.i64.wrap (turnedV t + lg) = turnedV t + lg := wrap_i64 _ (by omega) (by omega)
  have CO := Lib.hid fun w' => Cos_calls w' (turnedV t + lg) (by omega) (by omega)
  have CI := Lib.hid fun w' => Sin_calls w' (turnedV t + lg) (by omega) (by omega)
  have sc := scaled_ok (n := c) (by omega)
  have hrB : ivB (scaLo c) (scaHi c) = true := decide_eq_true (by omega)
  have CM := Lib.hid fun w' => ivMul_calls w' (scaLo c) (scaHi c) _ _ hrB (sinB (cosA (turnedV t + lg)))
  have CN := Lib.hid fun w' => ivMul_calls w' (scaLo c) (scaHi c) _ _ hrB (sinB (turnedV t + lg))
  unfold ivV at CM CN
  have eM0 : madL (mulLo (scaLo c) (scaHi c) (sinLo (cosA (turnedV t + lg))) (sinHi (cosA (turnedV t + lg)))) (mulHi (scaLo c) (scaHi c) (sinLo (cosA (turnedV t + lg))) (sinHi (cosA (turnedV t + lg)))) = mL (scaLo c) (scaHi c) (sinLo (cosA (turnedV t + lg))) (sinHi (cosA (turnedV t + lg))) := rfl
  have eM1 : madH (mulLo (scaLo c) (scaHi c) (sinLo (cosA (turnedV t + lg))) (sinHi (cosA (turnedV t + lg)))) (mulHi (scaLo c) (scaHi c) (sinLo (cosA (turnedV t + lg))) (sinHi (cosA (turnedV t + lg)))) = mH (scaLo c) (scaHi c) (sinLo (cosA (turnedV t + lg))) (sinHi (cosA (turnedV t + lg))) := rfl
  have eN0 : madL (mulLo (scaLo c) (scaHi c) (sinLo (turnedV t + lg)) (sinHi (turnedV t + lg))) (mulHi (scaLo c) (scaHi c) (sinLo (turnedV t + lg)) (sinHi (turnedV t + lg))) = mL (scaLo c) (scaHi c) (sinLo (turnedV t + lg)) (sinHi (turnedV t + lg)) := rfl
  have eN1 : madH (mulLo (scaLo c) (scaHi c) (sinLo (turnedV t + lg)) (sinHi (turnedV t + lg))) (mulHi (scaLo c) (scaHi c) (sinLo (turnedV t + lg)) (sinHi (turnedV t + lg))) = mH (scaLo c) (scaHi c) (sinLo (turnedV t + lg)) (sinHi (turnedV t + lg)) := rfl
  rw [eM0, eM1] at CM
  rw [eN0, eN1] at CN
  clear eM0 eM1 eN0 eN1 hrB sc ht hs h0 h1 hc0 hc1 hz0 hz1 hr
  generalize mL (scaLo c) (scaHi c) (sinLo (cosA (turnedV t + lg))) (sinHi (cosA (turnedV t + lg))) = x0 at *
  generalize mH (scaLo c) (scaHi c) (sinLo (cosA (turnedV t + lg))) (sinHi (cosA (turnedV t + lg))) = x1 at *
  generalize madE (mulLo (scaLo c) (scaHi c) (sinLo (cosA (turnedV t + lg))) (sinHi (cosA (turnedV t + lg)))) (mulHi (scaLo c) (scaHi c) (sinLo (cosA (turnedV t + lg))) (sinHi (cosA (turnedV t + lg)))) = ex at *
  generalize mL (scaLo c) (scaHi c) (sinLo (turnedV t + lg)) (sinHi (turnedV t + lg)) = y0 at *
  generalize mH (scaLo c) (scaHi c) (sinLo (turnedV t + lg)) (sinHi (turnedV t + lg)) = y1 at *
  generalize madE (mulLo (scaLo c) (scaHi c) (sinLo (turnedV t + lg)) (sinHi (turnedV t + lg))) (mulHi (scaLo c) (scaHi c) (sinLo (turnedV t + lg)) (sinHi (turnedV t + lg))) = ey at *
  generalize sinLo (cosA (turnedV t + lg)) = cl at *
  generalize sinHi (cosA (turnedV t + lg)) = ch at *
  generalize sinLo (turnedV t + lg) = sl at *
  generalize sinHi (turnedV t + lg) = sh at *
  generalize scaLo c = r0 at *
  generalize scaHi c = r1 at *
  generalize scaLo z = z0 at *
  generalize scaHi z = z1 at *
  generalize turnedV t = tv at *
  have E := (((Env.start w).alloc #[.func (.func 54) #[] #[]] 102).alloc #[.string s, .int .i64 lg, .int .i64 c, .int .i64 z] 23).alloc #[.int .i64 0, .int .i64 0, .int .i64 0, .int .i64 0, .int .i64 0, .int .i64 0] 34
  simp only [World.size_alloc] at E
  have HE := Lib.hid E
  clear E
  go_enter Tryz.func55, Tryz.ntmps55
  go_wp2_with fail
  go_at_call 11
  refine (CT.out _).mono ?_
  rintro e W1 ⟨rfl, hb⟩
  replace HE := Lib.hid (HE.out.below hb)
  clear hb CT
  have k0 : W1.cell? ⟨w.heap.size, 0, none⟩ = some (.func (.func 54) #[] #[]) := HE.out.blks.2.2.1.at 0
  have k1 : W1.cell? ⟨w.heap.size + 1, 1, none⟩ = some (.int .i64 lg) := HE.out.blks.2.1.at 1
  have k2 : W1.cell? ⟨w.heap.size + 1, 2, none⟩ = some (.int .i64 c) := HE.out.blks.2.1.at 2
  go_wp2_with fail
  go_at_call 54
  refine (CC.out _).mono ?_
  rintro e W2 ⟨rfl, hb⟩
  clear k0 k1 k2
  replace HE := Lib.hid ((HE.out.below hb).alloc #[.int .i64 r0, .int .i64 r1] 32)
  clear hb CC
  go_wp2_with fail
  generalize W2.alloc (.cells #[.int .i64 r0, .int .i64 r1] 32) = W3 at *
  generalize W2.heap.size = b9 at *
  have q1 : w.heap.size + 1 + 1 < W3.heap.size := HE.out.blks.2.1.lt
  have q2 := HE.out.blks.2.1.lt
  have hk3 := HE.out.blks.1.lt
  have hw8 := HE.out.size
  refine wp_region_any (by kernel_rfl) ?_
  refine wpAny_of_held (S := Env w [(b9, #[.int .i64 r0, .int .i64 r1], 32)] []) _ _ _ _ ?_
  refine Pend.start (A := [⟨7, 10, #[.int .i64 0, .int .i64 0], 32, ptrTo⟩]) (B := W3.heap.size) (S := Env w [(b9, #[.int .i64 r0, .int .i64 r1], 32), (w.heap.size + 1 + 1, #[.int .i64 0, .int .i64 0, .int .i64 0, .int .i64 0, .int .i64 0, .int .i64 0], 34), (w.heap.size + 1, #[.string s, .int .i64 lg, .int .i64 c, .int .i64 z], 23), (w.heap.size, #[.func (.func 54) #[] #[]], 102)] []) ?_ (float1 ⟨_, rfl, rfl, rfl, by kernel_rfl, fun w => by simp only [ptrTo]; go_simp⟩) ⟨⟨HE.out.drew.blks.1, trivial⟩, trivial, HE.out.drew.bel⟩ HE.out.drew (by simp)
  refine Pend.take (i := 0) (v := .agg #[.int .i64 r0, .int .i64 r1]) (by kernel_rfl) (by kernel_rfl) rfl (by kernel_rfl) (by kernel_rfl) (by kernel_rfl) (fun _ _ _ h => h) (.inl ⟨rfl, fun w0 hw0 => ?a0⟩) ?_
  case a0 =>
    have e0 : w0.cell? ⟨b9, 0, none⟩ = some (.int .i64 r0) := hw0.blks.1.at 0; have e1 : w0.cell? ⟨b9, 1, none⟩ = some (.int .i64 r1) := hw0.blks.1.at 1
    go_simp
  refine Pend.take (i := 1) (v := .int .i64 (tv + lg)) (by kernel_rfl) (by kernel_rfl) rfl (by kernel_rfl) (by kernel_rfl) (by kernel_rfl) (fun _ _ _ h => h) (.inl ⟨rfl, fun w0 hw0 => ?a1⟩) ?_
  case a1 =>
    have e0 : w0.cell? ⟨b9, 0, none⟩ = some (.int .i64 r0) := hw0.blks.1.at 0; have e1 : w0.cell? ⟨b9, 1, none⟩ = some (.int .i64 r1) := hw0.blks.1.at 1
    go_simp
  refine Pend.step (i := 2) (by kernel_rfl) (by kernel_rfl) rfl (by kernel_rfl) (by kernel_rfl) (by kernel_rfl) (fun _ _ d _ _ h => by cases d <;> exact h) Env.mono Env.mono ?_
  intro Wa h0 h1 hB
  refine wpOp_plain rfl rfl fun K' hK' => ?_
  go_simp
  refine (CO.out _).mono ?_
  rintro e Wb ⟨rfl, hb⟩
  refine hK' _ _ ⟨hb, _, h1.below hb, Env.mono, ?_⟩
  clear hK' K' h0 h1 hB
  clear hb
  refine Pend.step (i := 3) (by kernel_rfl) (by kernel_rfl) rfl (by kernel_rfl) (by kernel_rfl) (by kernel_rfl) (fun _ _ d _ _ h => by cases d <;> exact h) Env.mono Env.mono ?_
  intro Wa h0 h1 hB
  refine wpOp_plain rfl rfl fun K' hK' => ?_
  go_simp
  refine (CM.out _).mono ?_
  rintro e Wb ⟨rfl, hb⟩
  refine hK' _ _ ⟨hb, _, h1.below hb, Env.mono, ?_⟩
  clear hK' K' h0 h1 hB
  clear hb
  refine Pend.take (i := 4) (v := .tuple #[.agg #[.int .i64 x0, .int .i64 x1], .int .i64 ex]) (by kernel_rfl) (by kernel_rfl) rfl (by kernel_rfl) (by kernel_rfl) (by kernel_rfl) (fun _ _ _ h => h) (.inl ⟨rfl, fun w0 hw0 => ?a4⟩) ?_
  case a4 =>
    have e0 : w0.cell? ⟨b9, 0, none⟩ = some (.int .i64 r0) := hw0.blks.1.at 0; have e1 : w0.cell? ⟨b9, 1, none⟩ = some (.int .i64 r1) := hw0.blks.1.at 1
    go_simp
  refine Pend.take (i := 5) (v := .agg #[.int .i64 x0, .int .i64 x1]) (by kernel_rfl) (by kernel_rfl) rfl (by kernel_rfl) (by kernel_rfl) (by kernel_rfl) (fun _ _ _ h => h) (.inl ⟨rfl, fun w0 hw0 => ?a5⟩) ?_
  case a5 =>
    have e0 : w0.cell? ⟨b9, 0, none⟩ = some (.int .i64 r0) := hw0.blks.1.at 0; have e1 : w0.cell? ⟨b9, 1, none⟩ = some (.int .i64 r1) := hw0.blks.1.at 1
    go_simp
  refine Pend.take (i := 6) (v := .int .i64 ex) (by kernel_rfl) (by kernel_rfl) rfl (by kernel_rfl) (by kernel_rfl) (by kernel_rfl) (fun _ _ _ h => h) (.inl ⟨rfl, fun w0 hw0 => ?a6⟩) ?_
  case a6 =>
    have e0 : w0.cell? ⟨b9, 0, none⟩ = some (.int .i64 r0) := hw0.blks.1.at 0; have e1 : w0.cell? ⟨b9, 1, none⟩ = some (.int .i64 r1) := hw0.blks.1.at 1
    go_simp
  refine Pend.done 2 (by kernel_rfl) (by kernel_rfl) (by kernel_rfl) Env.mono Env.mono ?_
  intro bs Wa hl hc h0 h1 hok
  obtain ⟨b10, rfl, hd, hBd⟩ := one_al hl hc hok
  have E := h1.blk hd
  clear hl hc hok h0 h1 hd
  simp only [puts, ptrTo]
  have f0 : Wa.cell? ⟨b10, 0, none⟩ = some (.int .i64 0) := E.blks.1.at 0
  have f1 : Wa.cell? ⟨b10, 1, none⟩ = some (.int .i64 0) := E.blks.1.at 1
  have g0 := E.blks.1.fr 0
  have g1 := E.blks.1.fr 1
  refine wpAnyH_all (rs := [8]) (by kernel_rfl) (by simp) ?_
  intro i0 hi0
  obtain rfl : i0 = 8 := by simpa using hi0
  refine wpOp_plain rfl rfl fun K' hK' => ?_
  go_simp
  replace HE := Lib.hid ((E.setY (by omega) (by simp [Free] <;> omega) rfl 0 (.int .i64 x0)).setY (by omega) (by simp [Free] <;> omega) rfl 1 (.int .i64 x1))
  clear f0 f1 g0 g1 E
  generalize (Wa.setCell ⟨b10, 0, none⟩ (.int .i64 x0)).setCell ⟨b10, 1, none⟩ (.int .i64 x1) = V4 at *
  have hS : Env w [(b9, #[.int .i64 r0, .int .i64 r1], 32)] [] V4 := ⟨⟨HE.out.blks.2.1, trivial⟩, trivial, HE.out.bel⟩
  refine hK' _ _ ⟨hS, ?_⟩
  clear hK' K'
  refine wpAnyH_take (i := 9) (v := .int .i64 ex) rfl (by kernel_rfl) (by kernel_rfl) (by kernel_rfl) (fun _ _ _ h => h) (.inl ⟨rfl, fun w0 hw0 => ?a9⟩) hS ?_
  case a9 =>
    have e0 : w0.cell? ⟨b9, 0, none⟩ = some (.int .i64 r0) := hw0.blks.1.at 0; have e1 : w0.cell? ⟨b9, 1, none⟩ = some (.int .i64 r1) := hw0.blks.1.at 1
    go_simp
  refine wpAnyH_done (by kernel_rfl) ?_ _
  clear hS hk3 hw8
  have QA := Lib.hid (And.intro q1 hBd)
  clear q1 q2 hBd
  replace HE := Lib.hid HE.out.swap
  go_wp2_with fail
  have q1 : w.heap.size + 1 + 1 < V4.heap.size := HE.out.blks.2.2.1.lt
  have q2 := HE.out.blks.2.1.lt
  have hk3 := HE.out.blks.1.lt
  have hw8 := HE.out.size
  refine wp_region_any (by kernel_rfl) ?_
  refine wpAny_of_held (S := Env w [(b9, #[.int .i64 r0, .int .i64 r1], 32)] []) _ _ _ _ ?_
  refine Pend.start (A := [⟨7, 12, #[.int .i64 0, .int .i64 0], 32, ptrTo⟩]) (B := V4.heap.size) (S := Env w [(b9, #[.int .i64 r0, .int .i64 r1], 32), (b10, #[.int .i64 x0, .int .i64 x1], 32), (w.heap.size + 1 + 1, #[.int .i64 0, .int .i64 0, .int .i64 0, .int .i64 0, .int .i64 0, .int .i64 0], 34), (w.heap.size + 1, #[.string s, .int .i64 lg, .int .i64 c, .int .i64 z], 23), (w.heap.size, #[.func (.func 54) #[] #[]], 102)] []) ?_ (float1 ⟨_, rfl, rfl, rfl, by kernel_rfl, fun w => by simp only [ptrTo]; go_simp⟩) ⟨⟨HE.out.drew.blks.1, trivial⟩, trivial, HE.out.drew.bel⟩ HE.out.drew (by simp)
  refine Pend.take (i := 0) (v := .agg #[.int .i64 r0, .int .i64 r1]) (by kernel_rfl) (by kernel_rfl) rfl (by kernel_rfl) (by kernel_rfl) (by kernel_rfl) (fun _ _ _ h => h) (.inl ⟨rfl, fun w0 hw0 => ?a0⟩) ?_
  case a0 =>
    have e0 : w0.cell? ⟨b9, 0, none⟩ = some (.int .i64 r0) := hw0.blks.1.at 0; have e1 : w0.cell? ⟨b9, 1, none⟩ = some (.int .i64 r1) := hw0.blks.1.at 1
    go_simp
  refine Pend.take (i := 1) (v := .int .i64 (tv + lg)) (by kernel_rfl) (by kernel_rfl) rfl (by kernel_rfl) (by kernel_rfl) (by kernel_rfl) (fun _ _ _ h => h) (.inl ⟨rfl, fun w0 hw0 => ?a1⟩) ?_
  case a1 =>
    have e0 : w0.cell? ⟨b9, 0, none⟩ = some (.int .i64 r0) := hw0.blks.1.at 0; have e1 : w0.cell? ⟨b9, 1, none⟩ = some (.int .i64 r1) := hw0.blks.1.at 1
    go_simp
  refine Pend.step (i := 2) (by kernel_rfl) (by kernel_rfl) rfl (by kernel_rfl) (by kernel_rfl) (by kernel_rfl) (fun _ _ d _ _ h => by cases d <;> exact h) Env.mono Env.mono ?_
  intro Wa h0 h1 hB
  refine wpOp_plain rfl rfl fun K' hK' => ?_
  go_simp
  refine (CI.out _).mono ?_
  rintro e Wb ⟨rfl, hb⟩
  refine hK' _ _ ⟨hb, _, h1.below hb, Env.mono, ?_⟩
  clear hK' K' h0 h1 hB
  clear hb
  refine Pend.step (i := 3) (by kernel_rfl) (by kernel_rfl) rfl (by kernel_rfl) (by kernel_rfl) (by kernel_rfl) (fun _ _ d _ _ h => by cases d <;> exact h) Env.mono Env.mono ?_
  intro Wa h0 h1 hB
  refine wpOp_plain rfl rfl fun K' hK' => ?_
  go_simp
  refine (CN.out _).mono ?_
  rintro e Wb ⟨rfl, hb⟩
  refine hK' _ _ ⟨hb, _, h1.below hb, Env.mono, ?_⟩
  clear hK' K' h0 h1 hB
  clear hb
  refine Pend.take (i := 4) (v := .tuple #[.agg #[.int .i64 y0, .int .i64 y1], .int .i64 ey]) (by kernel_rfl) (by kernel_rfl) rfl (by kernel_rfl) (by kernel_rfl) (by kernel_rfl) (fun _ _ _ h => h) (.inl ⟨rfl, fun w0 hw0 => ?a4⟩) ?_
  case a4 =>
    have e0 : w0.cell? ⟨b9, 0, none⟩ = some (.int .i64 r0) := hw0.blks.1.at 0; have e1 : w0.cell? ⟨b9, 1, none⟩ = some (.int .i64 r1) := hw0.blks.1.at 1
    go_simp
  refine Pend.take (i := 5) (v := .agg #[.int .i64 y0, .int .i64 y1]) (by kernel_rfl) (by kernel_rfl) rfl (by kernel_rfl) (by kernel_rfl) (by kernel_rfl) (fun _ _ _ h => h) (.inl ⟨rfl, fun w0 hw0 => ?a5⟩) ?_
  case a5 =>
    have e0 : w0.cell? ⟨b9, 0, none⟩ = some (.int .i64 r0) := hw0.blks.1.at 0; have e1 : w0.cell? ⟨b9, 1, none⟩ = some (.int .i64 r1) := hw0.blks.1.at 1
    go_simp
  refine Pend.take (i := 6) (v := .int .i64 ey) (by kernel_rfl) (by kernel_rfl) rfl (by kernel_rfl) (by kernel_rfl) (by kernel_rfl) (fun _ _ _ h => h) (.inl ⟨rfl, fun w0 hw0 => ?a6⟩) ?_
  case a6 =>
    have e0 : w0.cell? ⟨b9, 0, none⟩ = some (.int .i64 r0) := hw0.blks.1.at 0; have e1 : w0.cell? ⟨b9, 1, none⟩ = some (.int .i64 r1) := hw0.blks.1.at 1
    go_simp
  refine Pend.done 2 (by kernel_rfl) (by kernel_rfl) (by kernel_rfl) Env.mono Env.mono ?_
  intro bs Wa hl hc h0 h1 hok
  obtain ⟨b12, rfl, hd, hBd⟩ := one_al hl hc hok
  have E := h1.blk hd
  clear hl hc hok h0 h1 hd
  simp only [puts, ptrTo]
  have f0 : Wa.cell? ⟨b12, 0, none⟩ = some (.int .i64 0) := E.blks.1.at 0
  have f1 : Wa.cell? ⟨b12, 1, none⟩ = some (.int .i64 0) := E.blks.1.at 1
  have g0 := E.blks.1.fr 0
  have g1 := E.blks.1.fr 1
  refine wpAnyH_all (rs := [8]) (by kernel_rfl) (by simp) ?_
  intro i0 hi0
  obtain rfl : i0 = 8 := by simpa using hi0
  refine wpOp_plain rfl rfl fun K' hK' => ?_
  go_simp
  replace HE := Lib.hid ((E.setY (by omega) (by simp [Free] <;> omega) rfl 0 (.int .i64 y0)).setY (by omega) (by simp [Free] <;> omega) rfl 1 (.int .i64 y1))
  clear f0 f1 g0 g1 E
  generalize (Wa.setCell ⟨b12, 0, none⟩ (.int .i64 y0)).setCell ⟨b12, 1, none⟩ (.int .i64 y1) = V5 at *
  have hS : Env w [(b9, #[.int .i64 r0, .int .i64 r1], 32)] [] V5 := ⟨⟨HE.out.blks.2.1, trivial⟩, trivial, HE.out.bel⟩
  refine hK' _ _ ⟨hS, ?_⟩
  clear hK' K'
  refine wpAnyH_take (i := 9) (v := .int .i64 ey) rfl (by kernel_rfl) (by kernel_rfl) (by kernel_rfl) (fun _ _ _ h => h) (.inl ⟨rfl, fun w0 hw0 => ?a9⟩) hS ?_
  case a9 =>
    have e0 : w0.cell? ⟨b9, 0, none⟩ = some (.int .i64 r0) := hw0.blks.1.at 0; have e1 : w0.cell? ⟨b9, 1, none⟩ = some (.int .i64 r1) := hw0.blks.1.at 1
    go_simp
  refine wpAnyH_done (by kernel_rfl) ?_ _
  clear hS hk3 hw8
  have QB := Lib.hid (And.intro q1 hBd)
  clear q1 q2 hBd
  go_wp2_with fail
  have q1 : w.heap.size + 1 + 1 < V5.heap.size := HE.out.blks.2.2.2.1.lt
  refine wp_region_any (by kernel_rfl) ?_
  refine wpAny_of_held (S := fun W' => Env w [(b12, #[.int .i64 y0, .int .i64 y1], 32), (b10, #[.int .i64 x0, .int .i64 x1], 32), (w.heap.size + 1, #[.string s, .int .i64 lg, .int .i64 c, .int .i64 z], 23), (w.heap.size, #[.func (.func 54) #[] #[]], 102)] [] W') _ _ _ _ ?_
  replace HE := Lib.hid HE.out.drew
  have hS : Env w [(b12, #[.int .i64 y0, .int .i64 y1], 32), (b10, #[.int .i64 x0, .int .i64 x1], 32), (w.heap.size + 1, #[.string s, .int .i64 lg, .int .i64 c, .int .i64 z], 23), (w.heap.size, #[.func (.func 54) #[] #[]], 102)] [] V5.drew := ⟨⟨HE.out.blks.1, HE.out.blks.2.2.1, HE.out.blks.2.2.2.2.1, HE.out.blks.2.2.2.2.2.1, trivial⟩, trivial, HE.out.bel⟩
  refine wpAnyH_take (i := 0) (v := .agg #[.int .i64 x0, .int .i64 x1]) rfl (by kernel_rfl) (by kernel_rfl) (by kernel_rfl) (fun _ _ _ h => h) (.inl ⟨rfl, fun w0 hw0 => ?a0⟩) hS ?_
  case a0 =>
    have e0 : w0.cell? ⟨b12, 0, none⟩ = some (.int .i64 y0) := hw0.blks.1.at 0; have e1 : w0.cell? ⟨b12, 1, none⟩ = some (.int .i64 y1) := hw0.blks.1.at 1; have e2 : w0.cell? ⟨b10, 0, none⟩ = some (.int .i64 x0) := hw0.blks.2.1.at 0; have e3 : w0.cell? ⟨b10, 1, none⟩ = some (.int .i64 x1) := hw0.blks.2.1.at 1; have e4 : w0.cell? ⟨w.heap.size + 1, 3, none⟩ = some (.int .i64 z) := hw0.blks.2.2.1.at 3; have e5 : w0.cell? ⟨w.heap.size, 0, none⟩ = some (.func (.func 54) #[] #[]) := hw0.blks.2.2.2.1.at 0
    go_simp
  refine wpAnyH_take (i := 1) (v := .agg #[.int .i64 y0, .int .i64 y1]) rfl (by kernel_rfl) (by kernel_rfl) (by kernel_rfl) (fun _ _ _ h => h) (.inl ⟨rfl, fun w0 hw0 => ?a1⟩) hS ?_
  case a1 =>
    have e0 : w0.cell? ⟨b12, 0, none⟩ = some (.int .i64 y0) := hw0.blks.1.at 0; have e1 : w0.cell? ⟨b12, 1, none⟩ = some (.int .i64 y1) := hw0.blks.1.at 1; have e2 : w0.cell? ⟨b10, 0, none⟩ = some (.int .i64 x0) := hw0.blks.2.1.at 0; have e3 : w0.cell? ⟨b10, 1, none⟩ = some (.int .i64 x1) := hw0.blks.2.1.at 1; have e4 : w0.cell? ⟨w.heap.size + 1, 3, none⟩ = some (.int .i64 z) := hw0.blks.2.2.1.at 3; have e5 : w0.cell? ⟨w.heap.size, 0, none⟩ = some (.func (.func 54) #[] #[]) := hw0.blks.2.2.2.1.at 0
    go_simp
  refine wpAnyH_take (i := 2) (v := .pointer (some ⟨w.heap.size, 0, none⟩)) rfl (by kernel_rfl) (by kernel_rfl) (by kernel_rfl) (fun _ _ _ h => h) (.inl ⟨rfl, fun w0 hw0 => ?a2⟩) hS ?_
  case a2 =>
    have e0 : w0.cell? ⟨b12, 0, none⟩ = some (.int .i64 y0) := hw0.blks.1.at 0; have e1 : w0.cell? ⟨b12, 1, none⟩ = some (.int .i64 y1) := hw0.blks.1.at 1; have e2 : w0.cell? ⟨b10, 0, none⟩ = some (.int .i64 x0) := hw0.blks.2.1.at 0; have e3 : w0.cell? ⟨b10, 1, none⟩ = some (.int .i64 x1) := hw0.blks.2.1.at 1; have e4 : w0.cell? ⟨w.heap.size + 1, 3, none⟩ = some (.int .i64 z) := hw0.blks.2.2.1.at 3; have e5 : w0.cell? ⟨w.heap.size, 0, none⟩ = some (.func (.func 54) #[] #[]) := hw0.blks.2.2.2.1.at 0
    go_simp
  refine wpAnyH_take (i := 3) (v := .func (.func 54) #[] #[]) rfl (by kernel_rfl) (by kernel_rfl) (by kernel_rfl) (fun _ _ _ h => h) (.inl ⟨rfl, fun w0 hw0 => ?a3⟩) hS ?_
  case a3 =>
    have e0 : w0.cell? ⟨b12, 0, none⟩ = some (.int .i64 y0) := hw0.blks.1.at 0; have e1 : w0.cell? ⟨b12, 1, none⟩ = some (.int .i64 y1) := hw0.blks.1.at 1; have e2 : w0.cell? ⟨b10, 0, none⟩ = some (.int .i64 x0) := hw0.blks.2.1.at 0; have e3 : w0.cell? ⟨b10, 1, none⟩ = some (.int .i64 x1) := hw0.blks.2.1.at 1; have e4 : w0.cell? ⟨w.heap.size + 1, 3, none⟩ = some (.int .i64 z) := hw0.blks.2.2.1.at 3; have e5 : w0.cell? ⟨w.heap.size, 0, none⟩ = some (.func (.func 54) #[] #[]) := hw0.blks.2.2.2.1.at 0
    go_simp
  refine wpAnyH_take (i := 4) (v := .pointer (some ⟨w.heap.size + 1, 3, none⟩)) rfl (by kernel_rfl) (by kernel_rfl) (by kernel_rfl) (fun _ _ _ h => h) (.inl ⟨rfl, fun w0 hw0 => ?a4⟩) hS ?_
  case a4 =>
    have e0 : w0.cell? ⟨b12, 0, none⟩ = some (.int .i64 y0) := hw0.blks.1.at 0; have e1 : w0.cell? ⟨b12, 1, none⟩ = some (.int .i64 y1) := hw0.blks.1.at 1; have e2 : w0.cell? ⟨b10, 0, none⟩ = some (.int .i64 x0) := hw0.blks.2.1.at 0; have e3 : w0.cell? ⟨b10, 1, none⟩ = some (.int .i64 x1) := hw0.blks.2.1.at 1; have e4 : w0.cell? ⟨w.heap.size + 1, 3, none⟩ = some (.int .i64 z) := hw0.blks.2.2.1.at 3; have e5 : w0.cell? ⟨w.heap.size, 0, none⟩ = some (.func (.func 54) #[] #[]) := hw0.blks.2.2.2.1.at 0
    go_simp
  refine wpAnyH_take (i := 5) (v := .int .i64 z) rfl (by kernel_rfl) (by kernel_rfl) (by kernel_rfl) (fun _ _ _ h => h) (.inl ⟨rfl, fun w0 hw0 => ?a5⟩) hS ?_
  case a5 =>
    have e0 : w0.cell? ⟨b12, 0, none⟩ = some (.int .i64 y0) := hw0.blks.1.at 0; have e1 : w0.cell? ⟨b12, 1, none⟩ = some (.int .i64 y1) := hw0.blks.1.at 1; have e2 : w0.cell? ⟨b10, 0, none⟩ = some (.int .i64 x0) := hw0.blks.2.1.at 0; have e3 : w0.cell? ⟨b10, 1, none⟩ = some (.int .i64 x1) := hw0.blks.2.1.at 1; have e4 : w0.cell? ⟨w.heap.size + 1, 3, none⟩ = some (.int .i64 z) := hw0.blks.2.2.1.at 3; have e5 : w0.cell? ⟨w.heap.size, 0, none⟩ = some (.func (.func 54) #[] #[]) := hw0.blks.2.2.2.1.at 0
    go_simp
  clear hS
  refine wpAnyH_all (rs := [6]) (by kernel_rfl) (by simp) ?_
  intro i0 hi0
  obtain rfl : i0 = 6 := by simpa using hi0
  refine wpOp_plain rfl rfl fun K' hK' => ?_
  go_simp
  refine (CZ.out _).mono ?_
  rintro e V6 ⟨rfl, hb⟩
  replace HE := Lib.hid (HE.out.below hb)
  clear hb
  have hS : Env w [(b12, #[.int .i64 y0, .int .i64 y1], 32), (b10, #[.int .i64 x0, .int .i64 x1], 32), (w.heap.size + 1, #[.string s, .int .i64 lg, .int .i64 c, .int .i64 z], 23), (w.heap.size, #[.func (.func 54) #[] #[]], 102)] [] V6 := ⟨⟨HE.out.blks.1, HE.out.blks.2.2.1, HE.out.blks.2.2.2.2.1, HE.out.blks.2.2.2.2.2.1, trivial⟩, trivial, HE.out.bel⟩
  refine hK' _ _ ⟨hS, ?_⟩
  clear hK' K'
  refine wpAnyH_take (i := 7) (v := .agg #[.int .i64 x0, .int .i64 x1, .int .i64 y0, .int .i64 y1, .int .i64 z0, .int .i64 z1]) rfl (by kernel_rfl) (by kernel_rfl) (by kernel_rfl) (fun _ _ _ h => h) (.inl ⟨rfl, fun w0 hw0 => ?a7⟩) hS ?_
  case a7 =>
    have e0 : w0.cell? ⟨b12, 0, none⟩ = some (.int .i64 y0) := hw0.blks.1.at 0; have e1 : w0.cell? ⟨b12, 1, none⟩ = some (.int .i64 y1) := hw0.blks.1.at 1; have e2 : w0.cell? ⟨b10, 0, none⟩ = some (.int .i64 x0) := hw0.blks.2.1.at 0; have e3 : w0.cell? ⟨b10, 1, none⟩ = some (.int .i64 x1) := hw0.blks.2.1.at 1; have e4 : w0.cell? ⟨w.heap.size + 1, 3, none⟩ = some (.int .i64 z) := hw0.blks.2.2.1.at 3; have e5 : w0.cell? ⟨w.heap.size, 0, none⟩ = some (.func (.func 54) #[] #[]) := hw0.blks.2.2.2.1.at 0
    go_simp
  clear hS
  have E : Env w [(w.heap.size + 1 + 1, #[.int .i64 0, .int .i64 0, .int .i64 0, .int .i64 0, .int .i64 0, .int .i64 0], 34), (b12, #[.int .i64 y0, .int .i64 y1], 32), (b10, #[.int .i64 x0, .int .i64 x1], 32), (w.heap.size + 1, #[.string s, .int .i64 lg, .int .i64 c, .int .i64 z], 23), (w.heap.size, #[.func (.func 54) #[] #[]], 102)] [] V6 := ⟨⟨HE.out.blks.2.2.2.1, HE.out.blks.1, HE.out.blks.2.2.1, HE.out.blks.2.2.2.2.1, HE.out.blks.2.2.2.2.2.1, trivial⟩, trivial, HE.out.bel⟩
  have QA := QA.out
  have QB := QB.out
  have n12 : b12 ≠ w.heap.size + 1 + 1 := by omega
  have n10 : b10 ≠ w.heap.size + 1 + 1 := by omega
  clear HE
  have f0 : V6.cell? ⟨w.heap.size + 1 + 1, 0, none⟩ = some (.int .i64 0) := E.blks.1.at 0
  have f1 : V6.cell? ⟨w.heap.size + 1 + 1, 1, none⟩ = some (.int .i64 0) := E.blks.1.at 1
  have f2 : V6.cell? ⟨w.heap.size + 1 + 1, 2, none⟩ = some (.int .i64 0) := E.blks.1.at 2
  have f3 : V6.cell? ⟨w.heap.size + 1 + 1, 3, none⟩ = some (.int .i64 0) := E.blks.1.at 3
  have f4 : V6.cell? ⟨w.heap.size + 1 + 1, 4, none⟩ = some (.int .i64 0) := E.blks.1.at 4
  have f5 : V6.cell? ⟨w.heap.size + 1 + 1, 5, none⟩ = some (.int .i64 0) := E.blks.1.at 5
  have g0 := E.blks.1.fr 0
  have g1 := E.blks.1.fr 1
  have g2 := E.blks.1.fr 2
  have g3 := E.blks.1.fr 3
  have g4 := E.blks.1.fr 4
  have g5 := E.blks.1.fr 5
  refine wpAnyH_all (rs := [8]) (by kernel_rfl) (by simp) ?_
  intro i0 hi0
  obtain rfl : i0 = 8 := by simpa using hi0
  refine wpOp_plain rfl rfl fun K' hK' => ?_
  go_simp
  replace E := ((((((E.setY (by omega) (by simp [Free] <;> omega) rfl 0 (.int .i64 x0)).setY (by omega) (by simp [Free] <;> omega) rfl 1 (.int .i64 x1)).setY (by omega) (by simp [Free] <;> omega) rfl 2 (.int .i64 y0)).setY (by omega) (by simp [Free] <;> omega) rfl 3 (.int .i64 y1)).setY (by omega) (by simp [Free] <;> omega) rfl 4 (.int .i64 z0)).setY (by omega) (by simp [Free] <;> omega) rfl 5 (.int .i64 z1))
  clear f0 f1 f2 f3 f4 f5 g0 g1 g2 g3 g4 g5
  generalize ((((((V6.setCell ⟨w.heap.size + 1 + 1, 0, none⟩ (.int .i64 x0)).setCell ⟨w.heap.size + 1 + 1, 1, none⟩ (.int .i64 x1)).setCell ⟨w.heap.size + 1 + 1, 2, none⟩ (.int .i64 y0)).setCell ⟨w.heap.size + 1 + 1, 3, none⟩ (.int .i64 y1)).setCell ⟨w.heap.size + 1 + 1, 4, none⟩ (.int .i64 z0)).setCell ⟨w.heap.size + 1 + 1, 5, none⟩ (.int .i64 z1)) = V7 at *
  refine hK' _ _ ⟨E.drop, wpAnyH_done (by kernel_rfl) ?_ _⟩
  clear hK' K'
  have r0 : V7.cell? ⟨w.heap.size + 1 + 1, 0, none⟩ = some (Value.int .i64 x0) := E.blks.1.at 0
  have r1 : V7.cell? ⟨w.heap.size + 1 + 1, 1, none⟩ = some (Value.int .i64 x1) := E.blks.1.at 1
  have r2 : V7.cell? ⟨w.heap.size + 1 + 1, 2, none⟩ = some (Value.int .i64 y0) := E.blks.1.at 2
  have r3 : V7.cell? ⟨w.heap.size + 1 + 1, 3, none⟩ = some (Value.int .i64 y1) := E.blks.1.at 3
  have r4 : V7.cell? ⟨w.heap.size + 1 + 1, 4, none⟩ = some (Value.int .i64 z0) := E.blks.1.at 4
  have r5 : V7.cell? ⟨w.heap.size + 1 + 1, 5, none⟩ = some (Value.int .i64 z1) := E.blks.1.at 5
  have HE := Lib.hid E
  clear E
  go_wp2
  refine bodyPost_ret (v := .agg #[.int .i64 x0, .int .i64 x1, .int .i64 y0, .int .i64 y1, .int .i64 z0, .int .i64 z1]) (by simp [results, Tryz.results55, go_sem, r0, r1, r2, r3, r4, r5]) rfl ?_
  exact ⟨rfl, HE.out.bel⟩
end Go.Proofs.YtilaheplclaokaaGreatDoor
namespace Go.Proofs.YtilaheplclaokaaGreatDoor
open Go.RowKit Go.Shelf
attribute [local go_sem] Oper.semAt_some

/-- The arm's parts. -/
def ax0 (lg c t : Int) : Int := mL (scaLo c) (scaHi c) (sinLo (cosA (turnedV t + lg))) (sinHi (cosA (turnedV t + lg)))
def ax1 (lg c t : Int) : Int := mH (scaLo c) (scaHi c) (sinLo (cosA (turnedV t + lg))) (sinHi (cosA (turnedV t + lg)))
def ay0 (lg c t : Int) : Int := mL (scaLo c) (scaHi c) (sinLo (turnedV t + lg)) (sinHi (turnedV t + lg))
def ay1 (lg c t : Int) : Int := mH (scaLo c) (scaHi c) (sinLo (turnedV t + lg)) (sinHi (turnedV t + lg))

set_option maxRecDepth 100000 in
set_option maxHeartbeats 1000000 in
theorem Arm_calls (w : World) (s : ByteArray) (lg c z t : Int) (hs : SiteOk s lg c z) (ht : -5000000000000000 ≤ t ∧ t ≤ 5000000000000000) :
    Calls Tryz.prog 14 #[.agg #[.string s, .int .i64 lg, .int .i64 c, .int .i64 z], .int .i64 t] w (OkPost (.tuple #[.agg #[.int .i64 (ax0 lg c t), .int .i64 (ax1 lg c t), .int .i64 (ay0 lg c t), .int .i64 (ay1 lg c t), .int .i64 (scaLo z), .int .i64 (scaHi z)], .int .i64 0]) w) := by
  have h3 := hs.code.sz
  have hz0 := hs.z0
  have hz1 := hs.z1
  have CL := Lib.hid fun w' => slook_calls w' s lg c z t (by omega) (by omega) (by omega)
  have hl : lookE s lg c z t = 0 := by
    unfold lookE
    rw [if_pos hs.zero, if_neg (by omega)]
  rw [hl] at CL
  have CV : Hid (∀ w', _) := Lib.hid fun w' => vecScaled_calls w' s lg c z t hs ht
  have e0 : mL (scaLo c) (scaHi c) (sinLo (cosA (turnedV t + lg))) (sinHi (cosA (turnedV t + lg))) = ax0 lg c t := rfl
  have e1 : mH (scaLo c) (scaHi c) (sinLo (cosA (turnedV t + lg))) (sinHi (cosA (turnedV t + lg))) = ax1 lg c t := rfl
  have e2 : mL (scaLo c) (scaHi c) (sinLo (turnedV t + lg)) (sinHi (turnedV t + lg)) = ay0 lg c t := rfl
  have e3 : mH (scaLo c) (scaHi c) (sinLo (turnedV t + lg)) (sinHi (turnedV t + lg)) = ay1 lg c t := rfl
  rw [e0, e1, e2, e3] at CV
  clear e0 e1 e2 e3 hl hs ht h3 hz0 hz1
  generalize ax0 lg c t = x0 at *
  generalize ax1 lg c t = x1 at *
  generalize ay0 lg c t = y0 at *
  generalize ay1 lg c t = y1 at *
  generalize scaLo z = z0 at *
  generalize scaHi z = z1 at *
  have E := ((Env.start w).alloc #[.string s, .int .i64 lg, .int .i64 c, .int .i64 z] 23).alloc #[.int .i64 0, .int .i64 0, .int .i64 0, .int .i64 0, .int .i64 0, .int .i64 0] 34
  simp only [World.size_alloc] at E
  have HE := Lib.hid E
  clear E
  go_enter Tryz.func14, Tryz.ntmps14
  go_wp2_with fail
  go_at_call 53
  refine (CL.out _).mono ?_
  rintro e W1 ⟨rfl, hb⟩
  replace HE := Lib.hid (HE.out.below hb)
  clear hb
  have k0 : W1.cell? ⟨w.heap.size, 0, none⟩ = some (.string s) := HE.out.blks.2.1.at 0
  have k1 : W1.cell? ⟨w.heap.size, 1, none⟩ = some (.int .i64 lg) := HE.out.blks.2.1.at 1
  have k2 : W1.cell? ⟨w.heap.size, 2, none⟩ = some (.int .i64 c) := HE.out.blks.2.1.at 2
  have k3 : W1.cell? ⟨w.heap.size, 3, none⟩ = some (.int .i64 z) := HE.out.blks.2.1.at 3
  go_wp2_with fail
  go_at_call 55
  refine (CV.out _).mono ?_
  rintro e W2 ⟨rfl, hb⟩
  replace HE := Lib.hid (HE.out.below hb)
  clear hb k0 k1 k2 k3
  have f0 : W2.cell? ⟨w.heap.size + 1, 0, none⟩ = some (.int .i64 0) := HE.out.blks.1.at 0
  have f1 : W2.cell? ⟨w.heap.size + 1, 1, none⟩ = some (.int .i64 0) := HE.out.blks.1.at 1
  have f2 : W2.cell? ⟨w.heap.size + 1, 2, none⟩ = some (.int .i64 0) := HE.out.blks.1.at 2
  have f3 : W2.cell? ⟨w.heap.size + 1, 3, none⟩ = some (.int .i64 0) := HE.out.blks.1.at 3
  have f4 : W2.cell? ⟨w.heap.size + 1, 4, none⟩ = some (.int .i64 0) := HE.out.blks.1.at 4
  have f5 : W2.cell? ⟨w.heap.size + 1, 5, none⟩ = some (.int .i64 0) := HE.out.blks.1.at 5
  have g0 := HE.out.blks.1.fr 0
  have g1 := HE.out.blks.1.fr 1
  have g2 := HE.out.blks.1.fr 2
  have g3 := HE.out.blks.1.fr 3
  have g4 := HE.out.blks.1.fr 4
  have g5 := HE.out.blks.1.fr 5
  go_wp2
  have E := ((((((HE.out.setY (by omega) (by simp [Free] <;> omega) rfl 0 (.int .i64 x0)).setY (by omega) (by simp [Free] <;> omega) rfl 1 (.int .i64 x1)).setY (by omega) (by simp [Free] <;> omega) rfl 2 (.int .i64 y0)).setY (by omega) (by simp [Free] <;> omega) rfl 3 (.int .i64 y1)).setY (by omega) (by simp [Free] <;> omega) rfl 4 (.int .i64 z0)).setY (by omega) (by simp [Free] <;> omega) rfl 5 (.int .i64 z1))
  have r0 : _ = some (Value.int .i64 x0) := E.blks.1.at 0
  have r1 : _ = some (Value.int .i64 x1) := E.blks.1.at 1
  have r2 : _ = some (Value.int .i64 y0) := E.blks.1.at 2
  have r3 : _ = some (Value.int .i64 y1) := E.blks.1.at 3
  have r4 : _ = some (Value.int .i64 z0) := E.blks.1.at 4
  have r5 : _ = some (Value.int .i64 z1) := E.blks.1.at 5
  refine bodyPost_ret (v := .tuple #[.agg #[.int .i64 x0, .int .i64 x1, .int .i64 y0, .int .i64 y1, .int .i64 z0, .int .i64 z1], .int .i64 0]) (by simp [results, Tryz.results14, go_sem, r0, r1, r2, r3, r4, r5]) rfl ?_
  exact ⟨rfl, E.bel⟩

/-- An angle within a turn. -/
def nrm (a : Int) : Int := a % 1296000000000
theorem rnorm_calls (w : World) (a : Int) (h0 : -9223372036854775808 ≤ a) (h1 : a < 9223372036854775808) :
    Calls Tryz.prog 13 #[.int .i64 a] w (RetPost (.int .i64 (nrm a)) w) := by
  have k1 := Int.lt_tmod_of_pos a (show (0 : Int) < 1296000000000 by omega)
  have k2 := Int.tmod_lt_of_pos a (show (0 : Int) < 1296000000000 by omega)
  obtain ⟨r, hr⟩ : ∃ r, r = Int.tmod a 1296000000000 := ⟨_, rfl⟩
  rw [← hr] at k1 k2
  have HN : Hid (nrm a = if r < 0 then r + 1296000000000 else r) := Lib.hid (by
    unfold nrm
    have := Int.tmod_eq_emod (a := a) (b := 1296000000000)
    split at this <;> split <;> omega)
  have hr' : Int.tmod a 1296000000000 = r := hr.symm
  have hw : IntKind.i64.wrap r = r := wrap_i64 _ (by omega) (by omega)
  clear hr
  by_cases hc : r < 0
  · have hw2 : IntKind.i64.wrap (r + 1296000000000) = r + 1296000000000 := wrap_i64 _ (by omega) (by omega)
    have HQ : Hid (nrm a = r + 1296000000000) := Lib.hid (by rw [HN.out, if_pos hc])
    go_enter Tryz.func13, Tryz.ntmps13
    go_wp2
    go_ret
    exact ⟨by rw [HQ.out]; rfl, rfl⟩
  · have HQ : Hid (nrm a = r) := Lib.hid (by rw [HN.out, if_neg hc])
    go_enter Tryz.func13, Tryz.ntmps13
    go_wp2
    go_ret
    exact ⟨by rw [HQ.out]; rfl, rfl⟩

end Go.Proofs.YtilaheplclaokaaGreatDoor
namespace Go.Proofs.YtilaheplclaokaaGreatDoor
open Go.RowKit Go.Shelf
attribute [local go_sem] Oper.semAt_some

/-- The difference of two angles. -/
def diffV (a b : Int) : Int := if 648000000000 < nrm (nrm a - nrm b) then nrm (nrm a - nrm b) - 1296000000000 else nrm (nrm a - nrm b)
theorem nrm_range (a : Int) : 0 ≤ nrm a ∧ nrm a < 1296000000000 := by unfold nrm; omega
theorem rdiff_calls (w : World) (a b : Int) (ha0 : -9223372036854775808 ≤ a) (ha1 : a < 9223372036854775808) (hb0 : -9223372036854775808 ≤ b) (hb1 : b < 9223372036854775808) :
    Calls Tryz.prog 12 #[.int .i64 a, .int .i64 b] w (RetPost (.int .i64 (diffV a b)) w) := by
  have ra := nrm_range a
  have rb := nrm_range b
  have rd := nrm_range (nrm a - nrm b)
  have CA := Lib.hid fun w' => rnorm_calls w' a ha0 ha1
  have CB := Lib.hid fun w' => rnorm_calls w' b hb0 hb1
  have CD := Lib.hid fun w' => rnorm_calls w' (nrm a - nrm b) (by omega) (by omega)
  have hw : IntKind.i64.wrap (nrm a - nrm b) = nrm a - nrm b := wrap_i64 _ (by omega) (by omega)
  obtain ⟨r, hr⟩ : ∃ r, r = diffV a b := ⟨_, rfl⟩
  rw [← hr]
  unfold diffV at hr
  have HR := Lib.hid hr
  clear hr ha0 ha1 hb0 hb1
  have hw2 : IntKind.i64.wrap (nrm (nrm a - nrm b) - 1296000000000) = nrm (nrm a - nrm b) - 1296000000000 := wrap_i64 _ (by omega) (by omega)
  generalize nrm (nrm a - nrm b) = d at *
  generalize nrm a = na at *
  generalize nrm b = nb at *
  by_cases hc : 648000000000 < d
  · have HQ : Hid (r = d - 1296000000000) := Lib.hid (by rw [HR.out, if_pos hc])
    go_enter Tryz.func12, Tryz.ntmps12
    go_wp2_with fail
    go_at_call 13
    refine (CA.out _).mono ?_
    rintro e w' ⟨rfl, rfl⟩
    go_wp2_with fail
    go_at_call 13
    refine (CB.out _).mono ?_
    rintro e w' ⟨rfl, rfl⟩
    go_wp2_with fail
    go_at_call 13
    refine (CD.out _).mono ?_
    rintro e w' ⟨rfl, rfl⟩
    go_wp2
    go_ret
    exact ⟨by rw [HQ.out]; rfl, rfl⟩
  · have HQ : Hid (r = d) := Lib.hid (by rw [HR.out, if_neg hc])
    go_enter Tryz.func12, Tryz.ntmps12
    go_wp2_with fail
    go_at_call 13
    refine (CA.out _).mono ?_
    rintro e w' ⟨rfl, rfl⟩
    go_wp2_with fail
    go_at_call 13
    refine (CB.out _).mono ?_
    rintro e w' ⟨rfl, rfl⟩
    go_wp2_with fail
    go_at_call 13
    refine (CD.out _).mono ?_
    rintro e w' ⟨rfl, rfl⟩
    go_wp2
    go_ret
    exact ⟨by rw [HQ.out]; rfl, rfl⟩

/-- A code: what it says when it is 0. -/
def ZeroPost (p : Prop) (w : World) (e : Ending) (w' : World) : Prop :=
  ∃ r : Int, e = .returned (.int .i64 r) ∧ (r = 0 → p) ∧ Below w.heap.size w w'

set_option maxRecDepth 100000 in
set_option maxHeartbeats 2000000 in
theorem rsite_calls (w : World) (s : ByteArray) (lg c z : Int) :
    Calls Tryz.prog 10 #[.agg #[.string s, .int .i64 lg, .int .i64 c, .int .i64 z]] w (ZeroPost (SiteOk s lg c z) w) := by
  have HE0 := Lib.hid ((Env.start w).alloc #[.string s, .int .i64 lg, .int .i64 c, .int .i64 z] 23)
  by_cases h3 : (s.size : Int) = 3
  case neg =>
    go_enter Tryz.func10, Tryz.ntmps10
    go_wp2
    go_ret
    exact ⟨8, rfl, (fun h => absurd h (by omega)), HE0.out.bel⟩
  go_enter Tryz.func10, Tryz.ntmps10
  go_wp2
  go_loopw [3] (fun i w' => ∃ k : Nat, k ≤ 3 ∧ i = .int .i64 k ∧ Env w [(w.heap.size, #[.string s, .int .i64 lg, .int .i64 c, .int .i64 z], 23)] [] w' ∧ Hid (∀ j (h : j < s.size), j < k → codeByte (s[j]'h).toNat)) (fun i _ => 3 - (intOf i).toNat)
  case atStart => exact ⟨0, Nat.zero_le _, rfl, HE0.out, Lib.hid fun j _ h => absurd h (by omega)⟩
  case round =>
    clear HE0
    obtain ⟨k, hk, rfl, E, HA⟩ := hrel
    have HE := Lib.hid E
    clear E
    have k0 : wr.cell? ⟨w.heap.size, 0, none⟩ = some (.string s) := HE.out.blks.1.at 0
    have k1 : wr.cell? ⟨w.heap.size, 1, none⟩ = some (.int .i64 lg) := HE.out.blks.1.at 1
    have k2 : wr.cell? ⟨w.heap.size, 2, none⟩ = some (.int .i64 c) := HE.out.blks.1.at 2
    have k3 : wr.cell? ⟨w.heap.size, 3, none⟩ = some (.int .i64 z) := HE.out.blks.1.at 3
    by_cases hlt : k < 3
    · have hlt2 : k < s.size := by omega
      obtain ⟨x, hx⟩ : ∃ x : Int, x = ((s[k]'hlt2).toNat : Int) := ⟨_, rfl⟩
      have hcase : x < 48 ∨ (48 ≤ x ∧ x ≤ 57) ∨ (57 < x ∧ x < 65) ∨ (65 ≤ x ∧ x ≤ 90) ∨ 90 < x := by omega
      rcases hcase with h | h | h | h | h
      · have b1 : ((s[k]'hlt2).toNat : Int) < 48 := by omega
        have b2 : ((s[k]'hlt2).toNat : Int) < 65 := by omega
        clear hx h
        go_wp2
        all_goals (try (exfalso; omega))
        go_ret
        exact ⟨8, rfl, (fun h => absurd h (by omega)), HE.out.bel⟩
      · have b1 : ¬ ((s[k]'hlt2).toNat : Int) < 48 := by omega
        have b2 : ¬ 57 < ((s[k]'hlt2).toNat : Int) := by omega
        have hb : codeByte (s[k]'hlt2).toNat := .inl (by omega)
        clear hx h
        go_wp2
        all_goals (try (exfalso; omega))
        refine ⟨⟨k + 1, by omega, by go_num, HE.out, Lib.hid fun j h hj => ?_⟩, by simp [intOf]; omega⟩
        rcases Nat.lt_or_ge j k with h1 | h1
        · exact HA.out j h h1
        · obtain rfl : k = j := by omega
          exact hb
      · have b1 : ¬ ((s[k]'hlt2).toNat : Int) < 48 := by omega
        have b2 : 57 < ((s[k]'hlt2).toNat : Int) := by omega
        have b3 : ((s[k]'hlt2).toNat : Int) < 65 := by omega
        clear hx h
        go_wp2
        all_goals (try (exfalso; omega))
        go_ret
        exact ⟨8, rfl, (fun h => absurd h (by omega)), HE.out.bel⟩
      · have b1 : ¬ ((s[k]'hlt2).toNat : Int) < 48 := by omega
        have b2 : 57 < ((s[k]'hlt2).toNat : Int) := by omega
        have b3 : ¬ ((s[k]'hlt2).toNat : Int) < 65 := by omega
        have b4 : ¬ 90 < ((s[k]'hlt2).toNat : Int) := by omega
        have hb : codeByte (s[k]'hlt2).toNat := .inr (by omega)
        clear hx h
        go_wp2
        all_goals (try (exfalso; omega))
        refine ⟨⟨k + 1, by omega, by go_num, HE.out, Lib.hid fun j h hj => ?_⟩, by simp [intOf]; omega⟩
        rcases Nat.lt_or_ge j k with h1 | h1
        · exact HA.out j h h1
        · obtain rfl : k = j := by omega
          exact hb
      · have b1 : ¬ ((s[k]'hlt2).toNat : Int) < 48 := by omega
        have b2 : 57 < ((s[k]'hlt2).toNat : Int) := by omega
        have b3 : ¬ ((s[k]'hlt2).toNat : Int) < 65 := by omega
        have b4 : 90 < ((s[k]'hlt2).toNat : Int) := by omega
        clear hx h
        go_wp2
        all_goals (try (exfalso; omega))
        go_ret
        exact ⟨8, rfl, (fun h => absurd h (by omega)), HE.out.bel⟩
    · obtain rfl : k = 3 := by omega
      by_cases h4 : lg < 0
      · skip
        go_wp2
        all_goals (try (exfalso; omega))
        go_ret
        exact ⟨8, rfl, (fun h => absurd h (by omega)), HE.out.bel⟩
      by_cases h5 : 1296000000000 ≤ lg
      · skip
        go_wp2
        all_goals (try (exfalso; omega))
        go_ret
        exact ⟨8, rfl, (fun h => absurd h (by omega)), HE.out.bel⟩
      by_cases h6 : c < 0
      · skip
        go_wp2
        all_goals (try (exfalso; omega))
        go_ret
        exact ⟨8, rfl, (fun h => absurd h (by omega)), HE.out.bel⟩
      by_cases h7 : 1116691496960 < c
      · skip
        go_wp2
        all_goals (try (exfalso; omega))
        go_ret
        exact ⟨8, rfl, (fun h => absurd h (by omega)), HE.out.bel⟩
      by_cases h8 : z < -1116691496960
      · skip
        go_wp2
        all_goals (try (exfalso; omega))
        go_ret
        exact ⟨8, rfl, (fun h => absurd h (by omega)), HE.out.bel⟩
      by_cases h9 : 1116691496960 < z
      · skip
        go_wp2
        all_goals (try (exfalso; omega))
        go_ret
        exact ⟨8, rfl, (fun h => absurd h (by omega)), HE.out.bel⟩
      by_cases h10 : c = 0
      · by_cases h11 : z = 0
        · have b1 : (c == 0) = true := by simp [h10]
          have b2 : (z == 0) = true := by simp [h11]
          clear h10 h11
          go_wp2
          all_goals (try (exfalso; omega))
          go_ret
          exact ⟨8, rfl, (fun h => absurd h (by omega)), HE.out.bel⟩
        · have b1 : (c == 0) = true := by simp [h10]
          have b2 : (z == 0) = false := by simp [h11]
          have hok : SiteOk s lg c z := ⟨⟨by omega, fun j h => HA.out j h (by omega)⟩, by omega, by omega, by omega, by omega, by omega, by omega, fun h => h11 h.2⟩
          have HO := Lib.hid hok
          clear h10 h11 hok
          go_wp2
          all_goals (try (exfalso; omega))
          go_ret
          exact ⟨0, rfl, (fun _ => HO.out), HE.out.bel⟩
      · have b1 : (c == 0) = false := by simp [h10]
        have hok : SiteOk s lg c z := ⟨⟨by omega, fun j h => HA.out j h (by omega)⟩, by omega, by omega, by omega, by omega, by omega, by omega, fun h => h10 h.1⟩
        have HO := Lib.hid hok
        clear h10 hok
        go_wp2
        all_goals (try (exfalso; omega))
        go_ret
        exact ⟨0, rfl, (fun _ => HO.out), HE.out.bel⟩

end Go.Proofs.YtilaheplclaokaaGreatDoor
namespace Go.Proofs.YtilaheplclaokaaGreatDoor
open Go.RowKit

def plainK (k : Int) : Int × Bool :=
  if k = 0 ∨ k = 6 then (0, true) else if k = 1 ∨ k = 5 then (549755813888, true) else if k = 3 then (1099511627776, true) else if k = 7 ∨ k = 11 then (-549755813888, true) else if k = 9 then (-1099511627776, true) else (0, false)
theorem tmod12 (q : Int) : Int.tmod (Int.tmod q 12 + 12) 12 = q % 12 := by
  have h1 := Int.tmod_eq_emod (a := q) (b := 12)
  have h2 := Int.tmod_eq_emod (a := Int.tmod q 12 + 12) (b := 12)
  generalize Int.tmod q 12 = r at *
  generalize Int.tmod (r + 12) 12 = u at *
  split at h1 <;> split at h2 <;> omega
theorem plain_key (a : Int) : plainV a = if a % 1296000000000 % 108000000000 = 0 then plainK (a % 1296000000000 / 108000000000) else (0, false) := by
  unfold plainV
  by_cases h : Int.tmod a 108000000000 = 0
  · obtain ⟨q, rfl⟩ := Int.dvd_of_tmod_eq_zero h
    rw [if_pos h, Int.mul_tdiv_cancel_left q (by omega), tmod12]
    have e : 108000000000 * q % 1296000000000 = 108000000000 * (q % 12) := by
      rw [show (1296000000000 : Int) = 108000000000 * 12 from rfl, Int.mul_emod_mul_of_pos _ _ (by omega)]
    rw [e, if_pos (Int.mul_emod_right _ _), Int.mul_ediv_cancel_left _ (by omega)]
    rfl
  · have h2 : ¬ a % 1296000000000 % 108000000000 = 0 := by
      intro e
      refine h (Int.tmod_eq_zero_of_dvd ?_)
      omega
    rw [if_neg h, if_neg h2]
theorem ziv_mod {a b : Int} (h : a % 1296000000000 = b % 1296000000000) : ∀ (k : Nat) (p : Int), ziv a p k = ziv b p k := by
  have h1 : ∀ p, sineV a p = sineV b p := fun p => by unfold sineV restV normA; rw [h]
  have h2 : ∀ p, sineR a p = sineR b p := fun p => by unfold sineR restV normA; rw [h]
  intro k
  induction k with
  | zero => intro p; rfl
  | succ k ih =>
    intro p
    unfold ziv
    rw [h1, h2, ih]
theorem sin_mod {a b : Int} (h : a % 1296000000000 = b % 1296000000000) : sinLo a = sinLo b ∧ sinHi a = sinHi b := by
  have hp : plainV a = plainV b := by rw [plain_key, plain_key, h]
  unfold sinLo sinHi
  rw [hp, ziv_mod h]
  exact ⟨rfl, rfl⟩
theorem cosA_mod {a b : Int} (h : a % 1296000000000 = b % 1296000000000) : cosA a % 1296000000000 = cosA b % 1296000000000 := by
  unfold cosA
  have h1 := Int.tmod_eq_emod (a := a) (b := 1296000000000)
  have h2 := Int.tmod_eq_emod (a := b) (b := 1296000000000)
  generalize Int.tmod a 1296000000000 = r at *
  generalize Int.tmod b 1296000000000 = u at *
  split at h1 <;> split at h2 <;> omega

/-- In a sidereal day the Earth turns by 4 or 5 micro-arcseconds more than a turn. -/
theorem turn_day (t : Int) : 4 ≤ diffV (turnedV (t + 86164098904)) (turnedV t) ∧ diffV (turnedV (t + 86164098904)) (turnedV t) ≤ 5 ∧ (turnedV (t + 86164098904) - diffV (turnedV (t + 86164098904)) (turnedV t)) % 1296000000000 = turnedV t % 1296000000000 := by
  have e : turnS (t + 86164098904) = turnS t + 129600000000465745042985234880 := by unfold turnS; omega
  have hq : turnS (t + 86164098904) / 100000000000000000 = turnS t / 100000000000000000 + 1296000000004 ∨ turnS (t + 86164098904) / 100000000000000000 = turnS t / 100000000000000000 + 1296000000005 := by
    rw [e]
    generalize turnS t = N
    omega
  unfold diffV nrm turnedV
  generalize turnS (t + 86164098904) / 100000000000000000 = q' at *
  generalize turnS t / 100000000000000000 = q at *
  clear e
  rcases hq with rfl | rfl <;> split <;> omega
theorem turnedV_range (t : Int) : 0 ≤ turnedV t ∧ turnedV t < 1296000000000 := by unfold turnedV; omega

theorem arm_day (lg c t d : Int) (hd : (turnedV (t + 86164098904) - d) % 1296000000000 = turnedV t % 1296000000000) :
    ax0 (nrm (lg - d)) c (t + 86164098904) = ax0 lg c t ∧ ax1 (nrm (lg - d)) c (t + 86164098904) = ax1 lg c t ∧ ay0 (nrm (lg - d)) c (t + 86164098904) = ay0 lg c t ∧ ay1 (nrm (lg - d)) c (t + 86164098904) = ay1 lg c t := by
  have h : (turnedV (t + 86164098904) + nrm (lg - d)) % 1296000000000 = (turnedV t + lg) % 1296000000000 := by
    unfold nrm
    omega
  have hs := sin_mod h
  have hc := sin_mod (cosA_mod h)
  unfold ax0 ax1 ay0 ay1
  rw [hs.1, hs.2, hc.1, hc.2]
  exact ⟨rfl, rfl, rfl, rfl⟩

end Go.Proofs.YtilaheplclaokaaGreatDoor
namespace Go.Proofs.YtilaheplclaokaaGreatDoor
open Go.RowKit

theorem Tryz.infoIv : ∃ i, Tryz.prog.info? 32 = some i := Option.isSome_iff_exists.1 (by kernel_rfl)
theorem Tryz.cellsIv : Tryz.prog.cellsOf 32 = 2 := by kernel_rfl

theorem eqIv (w : World) (d : Nat) (a b c e : Int) :
    (Op.equalIn (d + 1 + 1) 32 (.agg #[.int .i64 a, .int .i64 b]) (.agg #[.int .i64 c, .int .i64 e])).run Tryz.prog w = .ok ((a == c) && (b == e)) w := by
  rw [run_equalIn_struct w (d + 1) 32 _ _ (by kernel_rfl) (by kernel_rfl)]
  go_simp
  by_cases h1 : a = c <;> by_cases h2 : b = e <;> simp [h1, h2]

theorem eqVec (w : World) (a0 a1 a2 a3 a4 a5 b0 b1 b2 b3 b4 b5 : Int) :
    (Op.equalIn 10000 34 (.agg #[.int .i64 a0, .int .i64 a1, .int .i64 a2, .int .i64 a3, .int .i64 a4, .int .i64 a5]) (.agg #[.int .i64 b0, .int .i64 b1, .int .i64 b2, .int .i64 b3, .int .i64 b4, .int .i64 b5])).run Tryz.prog w =
      .ok (((a0 == b0) && (a1 == b1)) && (((a2 == b2) && (a3 == b3)) && ((a4 == b4) && (a5 == b5)))) w := by
  obtain ⟨i, hi⟩ := Tryz.infoIv
  have hu : Tryz.prog.underlying 34 = some (.array 3 32) := Tryz.underlying34
  have h0 := fun w => eqIv w 9997 a0 a1 b0 b1
  have h1 := fun w => eqIv w 9997 a2 a3 b2 b3
  have h2 := fun w => eqIv w 9997 a4 a5 b4 b5
  rw [run_equalIn_array w 9999 _ _ hu hi, Tryz.cellsIv]
  simp only [List.range, List.range.loop, Op.eqItems]
  go_simp
  by_cases k0 : (a0 == b0) && (a1 == b1)
  all_goals by_cases k1 : (a2 == b2) && (a3 == b3)
  all_goals by_cases k2 : (a4 == b4) && (a5 == b5)
  all_goals simp_all

theorem eqVec_self (w : World) (a0 a1 a2 a3 a4 a5 : Int) :
    (Op.equalIn 10000 34 (.agg #[.int .i64 a0, .int .i64 a1, .int .i64 a2, .int .i64 a3, .int .i64 a4, .int .i64 a5]) (.agg #[.int .i64 a0, .int .i64 a1, .int .i64 a2, .int .i64 a3, .int .i64 a4, .int .i64 a5])).run Tryz.prog w = .ok true w := by
  rw [eqVec]
  simp

end Go.Proofs.YtilaheplclaokaaGreatDoor
namespace Go.Proofs.YtilaheplclaokaaGreatDoor
open Go.RowKit Go.Shelf
attribute [local go_sem] Oper.semAt_some

def x05 : ByteArray := ⟨#[88, 48, 53]⟩
theorem x05_ok : CodeOk x05 where
  sz := rfl
  all := fun i h => by
    have h4 : i < 3 := h
    have hc : i = 0 ∨ i = 1 ∨ i = 2 := by omega
    rcases hc with rfl | rfl | rfl
    · exact .inr (show 65 ≤ (88 : UInt8).toNat ∧ (88 : UInt8).toNat ≤ 90 by decide)
    · exact .inl (show 48 ≤ (48 : UInt8).toNat ∧ (48 : UInt8).toNat ≤ 57 by decide)
    · exact .inl (show 48 ≤ (53 : UInt8).toNat ∧ (53 : UInt8).toNat ≤ 57 by decide)

set_option maxRecDepth 100000 in
theorem place24_calls (w : World) (lg c z : Int) :
    Calls Tryz.prog 45 #[.int .i64 lg, .int .i64 c, .int .i64 z] w (OkPost (.agg #[.string x05, .int .i64 lg, .int .i64 c, .int .i64 z]) w) := by
  go_enter Tryz.func45, Tryz.ntmps45
  go_wp2
  refine bodyPost_ret (v := .agg #[.string x05, .int .i64 lg, .int .i64 c, .int .i64 z]) (by simp [results, Tryz.results45, go_sem, x05]) rfl ?_
  exact ⟨rfl, (Below.refl _ _).alloc (Nat.le_refl _) _⟩

theorem alive24_arm : ax0 610341773850 1099511627776 64184000 = 0 ∧ ax1 610341773850 1099511627776 64184000 = 0 ∧ ay0 610341773850 1099511627776 64184000 = 46878012 ∧ ay1 610341773850 1099511627776 64184000 = 46878012 ∧ scaLo 0 = 0 ∧ scaHi 0 = 0 := by decide +kernel
theorem alive24_turn : turnedV 64184000 = 1009658226150 := by decide +kernel

set_option maxRecDepth 100000 in
set_option maxHeartbeats 1000000 in
theorem alive24_calls (w : World) :
    Calls Tryz.prog 9 #[] w (OkPost (.bool true) w) := by
  have CT := Lib.hid fun w' => Turned_calls w' 64184000 (by omega)
  rw [alive24_turn] at CT
  have CP := Lib.hid fun w' => place24_calls w' 610341773850 1099511627776 0
  have CA := Lib.hid fun w' => Arm_calls w' x05 610341773850 1099511627776 0 64184000 ⟨x05_ok, by omega, by omega, by omega, by omega, by omega, by omega, by omega⟩ (by omega)
  rw [alive24_arm.1, alive24_arm.2.1, alive24_arm.2.2.1, alive24_arm.2.2.2.1, alive24_arm.2.2.2.2.1, alive24_arm.2.2.2.2.2] at CA
  generalize x05 = s at *
  have HE := Lib.hid (Env.start w)
  have hq := fun W => eqVec_self W 0 0 46878012 46878012 0 0
  go_enter Tryz.func9, Tryz.ntmps9
  go_wp2_with fail
  go_at_call 11
  refine (CT.out _).mono ?_
  rintro e W1 ⟨rfl, hb⟩
  replace HE := Lib.hid (HE.out.below hb)
  clear hb
  go_wp2_with fail
  go_at_call 45
  refine (CP.out _).mono ?_
  rintro e W2 ⟨rfl, hb⟩
  replace HE := Lib.hid (HE.out.below hb)
  clear hb
  go_wp2_with fail
  go_at_call 14
  refine (CA.out _).mono ?_
  rintro e W3 ⟨rfl, hb⟩
  replace HE := Lib.hid (HE.out.below hb)
  clear hb
  go_wp2
  go_ret
  exact ⟨rfl, (HE.out.alloc #[.int .i64 0, .int .i64 0, .int .i64 46878012, .int .i64 46878012, .int .i64 0, .int .i64 0] 34).bel⟩


set_option maxRecDepth 100000 in
set_option maxHeartbeats 2000000 in
theorem siteTurn_calls (w : World) (s : ByteArray) (lg c z t : Int) (ht0 : -9223372036854775808 ≤ t) (ht1 : t < 9223372036854775808) :
    Calls Tryz.prog 3 #[.agg #[.string s, .int .i64 lg, .int .i64 c, .int .i64 z], .int .i64 t] w (OkPost (.bool true) w) := by
  have CA := Lib.hid fun w' => alive24_calls w'
  have CR := Lib.hid fun w' => rsite_calls w' s lg c z
  have HE := Lib.hid ((Env.start w).alloc #[.string s, .int .i64 lg, .int .i64 c, .int .i64 z] 23)
  go_enter Tryz.func3, Tryz.ntmps3
  go_wp2_with fail
  go_at_call 9
  refine (CA.out _).mono ?_
  rintro e W1 ⟨rfl, hb⟩
  replace HE := Lib.hid (HE.out.below hb)
  clear hb CA
  have k0 : (W1).cell? ⟨w.heap.size, 0, none⟩ = some (.string s) := (HE.out.blks.1).at 0
  have k1 : (W1).cell? ⟨w.heap.size, 1, none⟩ = some (.int .i64 lg) := (HE.out.blks.1).at 1
  have k2 : (W1).cell? ⟨w.heap.size, 2, none⟩ = some (.int .i64 c) := (HE.out.blks.1).at 2
  have k3 : (W1).cell? ⟨w.heap.size, 3, none⟩ = some (.int .i64 z) := (HE.out.blks.1).at 3
  by_cases hsz : (100 : Int) < (s.size : Int)
  case pos =>
    go_wp2
    all_goals (try (exfalso; omega))
    go_ret
    exact ⟨rfl, HE.out.bel⟩
  go_wp2_with fail
  go_at_call 10
  refine (CR.out _).mono ?_
  rintro e W2 ⟨r, rfl, hr, hb⟩
  replace HE := Lib.hid (HE.out.below hb)
  clear hb CR k0 k1 k2 k3
  by_cases hr0 : r = 0
  case neg =>
    have hr1 : (r != 0) = true := by rw [bne_iff_ne]; exact hr0
    clear hr
    go_wp2
    all_goals (try (exfalso; omega))
    go_ret
    exact ⟨rfl, HE.out.bel⟩
  subst hr0
  have HS := Lib.hid (hr rfl)
  clear hr
  by_cases h0 : t < -5000000000000000
  case pos =>
    go_wp2
    all_goals (try (exfalso; omega))
    go_ret
    exact ⟨rfl, HE.out.bel⟩
  by_cases h1 : 4999913835901096 < t
  case pos =>
    go_wp2
    all_goals (try (exfalso; omega))
    go_ret
    exact ⟨rfl, HE.out.bel⟩
  have hd := turn_day t
  have ha := arm_day lg c t _ hd.2.2
  have hr := turnedV_range t
  have hr2 := turnedV_range (t + 86164098904)
  have hn := nrm_range (lg - diffV (turnedV (t + 86164098904)) (turnedV t))
  have hl := And.intro HS.out.l0 HS.out.l1
  have C1 := Lib.hid fun w' => Turned_calls w' t (by omega)
  have C2 := Lib.hid fun w' => Turned_calls w' (t + 86164098904) (by omega)
  have C3 := Lib.hid fun w' => rdiff_calls w' (turnedV (t + 86164098904)) (turnedV t) (by omega) (by omega) (by omega) (by omega)
  have C4 := Lib.hid fun w' => rnorm_calls w' (lg - diffV (turnedV (t + 86164098904)) (turnedV t)) (by omega) (by omega)
  have C5 := Lib.hid fun w' => Arm_calls w' s lg c z t HS.out (by omega)
  have C6 := Lib.hid fun w' => Arm_calls w' s (nrm (lg - diffV (turnedV (t + 86164098904)) (turnedV t))) c z (t + 86164098904) ⟨HS.out.code, hn.1, hn.2, HS.out.c0, HS.out.c1, HS.out.z0, HS.out.z1, HS.out.nz⟩ (by omega)
  rw [ha.1, ha.2.1, ha.2.2.1, ha.2.2.2] at C6
  have hw1 : IntKind.i64.wrap (t + 86164098904) = t + 86164098904 := wrap_i64 _ (by omega) (by omega)
  have hw2 : IntKind.i64.wrap (lg - diffV (turnedV (t + 86164098904)) (turnedV t)) = lg - diffV (turnedV (t + 86164098904)) (turnedV t) := wrap_i64 _ (by omega) (by omega)
  have hd4 := hd.1
  have hd5 := hd.2.1
  clear ha hd hl hn hr2 ht0 ht1
  generalize nrm (lg - diffV (turnedV (t + 86164098904)) (turnedV t)) = lg2 at *
  generalize diffV (turnedV (t + 86164098904)) (turnedV t) = d at *
  generalize turnedV (t + 86164098904) = b at *
  generalize turnedV t = a at *
  generalize ax0 lg c t = x0 at *
  generalize ax1 lg c t = x1 at *
  generalize ay0 lg c t = y0 at *
  generalize ay1 lg c t = y1 at *
  generalize scaLo z = z0 at *
  generalize scaHi z = z1 at *
  go_wp2_with fail
  all_goals (try (exfalso; omega))
  go_at_call 11
  refine (C1.out _).mono ?_
  rintro e W3 ⟨rfl, hb⟩
  replace HE := Lib.hid (HE.out.below hb)
  clear hb C1
  go_wp2_with fail
  all_goals (try (exfalso; omega))
  go_at_call 11
  refine (C2.out _).mono ?_
  rintro e W4 ⟨rfl, hb⟩
  replace HE := Lib.hid (HE.out.below hb)
  clear hb C2
  go_wp2_with fail
  all_goals (try (exfalso; omega))
  go_at_call 12
  refine (C3.out _).mono ?_
  rintro e w' ⟨rfl, rfl⟩
  have k0 : (W4).cell? ⟨w.heap.size, 0, none⟩ = some (.string s) := (HE.out.blks.1).at 0
  have k1 : (W4).cell? ⟨w.heap.size, 1, none⟩ = some (.int .i64 lg) := (HE.out.blks.1).at 1
  have k2 : (W4).cell? ⟨w.heap.size, 2, none⟩ = some (.int .i64 c) := (HE.out.blks.1).at 2
  have k3 : (W4).cell? ⟨w.heap.size, 3, none⟩ = some (.int .i64 z) := (HE.out.blks.1).at 3
  have q1 := HE.out.blks.1.lt
  go_wp2_with fail
  go_at_call 13
  refine (C4.out _).mono ?_
  rintro e w' ⟨rfl, rfl⟩
  go_wp2_with fail
  go_at_call 14
  replace HE := Lib.hid (HE.out.alloc #[.string s, .int .i64 lg2, .int .i64 c, .int .i64 z] 23)
  refine (C5.out _).mono ?_
  rintro e W5 ⟨rfl, hb⟩
  replace HE := Lib.hid (HE.out.below hb)
  clear hb C5 k0 k1 k2 k3 q1
  have k0 : (W5).cell? ⟨W4.heap.size, 0, none⟩ = some (.string s) := (HE.out.blks.1).at 0
  have k1 : (W5).cell? ⟨W4.heap.size, 1, none⟩ = some (.int .i64 lg2) := (HE.out.blks.1).at 1
  have k2 : (W5).cell? ⟨W4.heap.size, 2, none⟩ = some (.int .i64 c) := (HE.out.blks.1).at 2
  have k3 : (W5).cell? ⟨W4.heap.size, 3, none⟩ = some (.int .i64 z) := (HE.out.blks.1).at 3
  have q1 : W4.heap.size < W5.heap.size := HE.out.blks.1.lt
  go_wp2_with fail
  go_at_call 14
  replace HE := Lib.hid (HE.out.alloc #[.int .i64 x0, .int .i64 x1, .int .i64 y0, .int .i64 y1, .int .i64 z0, .int .i64 z1] 34)
  refine (C6.out _).mono ?_
  rintro e W6 ⟨rfl, hb⟩
  replace HE := Lib.hid (HE.out.below hb)
  clear hb C6 k0 k1 k2 k3 q1
  have j0 : W6.cell? ⟨W5.heap.size, 0, none⟩ = some (.int .i64 x0) := HE.out.blks.1.at 0
  have j1 : W6.cell? ⟨W5.heap.size, 1, none⟩ = some (.int .i64 x1) := HE.out.blks.1.at 1
  have j2 : W6.cell? ⟨W5.heap.size, 2, none⟩ = some (.int .i64 y0) := HE.out.blks.1.at 2
  have j3 : W6.cell? ⟨W5.heap.size, 3, none⟩ = some (.int .i64 y1) := HE.out.blks.1.at 3
  have j4 : W6.cell? ⟨W5.heap.size, 4, none⟩ = some (.int .i64 z0) := HE.out.blks.1.at 4
  have j5 : W6.cell? ⟨W5.heap.size, 5, none⟩ = some (.int .i64 z1) := HE.out.blks.1.at 5
  have q1 : W5.heap.size < W6.heap.size := HE.out.blks.1.lt
  have hq := fun W => eqVec_self W x0 x1 y0 y1 z0 z1
  go_wp2
  go_ret
  exact ⟨rfl, (HE.out.alloc #[.int .i64 x0, .int .i64 x1, .int .i64 y0, .int .i64 y1, .int .i64 z0, .int .i64 z1] 34).bel⟩

end Go.Proofs.YtilaheplclaokaaGreatDoor
namespace Go.Proofs.YtilaheplclaokaaGreatDoor
open Go.RowKit Go.WideShapes Go.Joins Go.ChangeShapes Go.ChangeAt

section
variable {H : Type} {enc : TypeId × Value → H} {w : World} {base : Nat} {spare : Nat → Bool} {held : Bool} {r : Reach} {b0 : Nat} {v : Value} {d : DataW H} {p : List MemPlace}

theorem array6 {α : Type} {cs : Array α} (h : cs.size = 6) : ∃ c0 c1 c2 c3 c4 c5, cs = #[c0, c1, c2, c3, c4, c5] := by
  obtain ⟨l⟩ := cs
  match l, h with
  | [c0, c1, c2, c3, c4, c5], _ => exact ⟨c0, c1, c2, c3, c4, c5, rfl⟩
theorem array8 {α : Type} {cs : Array α} (h : cs.size = 8) : ∃ c0 c1 c2 c3 c4 c5 c6 c7, cs = #[c0, c1, c2, c3, c4, c5, c6, c7] := by
  obtain ⟨l⟩ := cs
  match l, h with
  | [c0, c1, c2, c3, c4, c5, c6, c7], _ => exact ⟨c0, c1, c2, c3, c4, c5, c6, c7, rfl⟩

/-- An int64 cell. -/
theorem cellI64 {fuel : Nat} {c : Value} {x : DataW H × List MemPlace} (h : DataW.trod enc Tryz.prog w base spare held fuel 2 [c] = some x) : ∃ n : Int, c = .int .i64 n ∧ -9223372036854775808 ≤ n ∧ n < 9223372036854775808 := by
  obtain ⟨n, e, _, hw⟩ := DataW.trod_int Tryz.underlying2 h
  have hb := bounds_i64 hw
  exact ⟨n, by simpa using e, by omega, by omega⟩
/-- An int cell. -/
theorem cellInt {fuel : Nat} {c : Value} {x : DataW H × List MemPlace} (h : DataW.trod enc Tryz.prog w base spare held fuel 3 [c] = some x) : ∃ n : Int, c = .int .i64 n ∧ -9223372036854775808 ≤ n ∧ n < 9223372036854775808 := by
  obtain ⟨n, e, _, hw⟩ := DataW.trod_int Tryz.underlying3 h
  have hb := bounds_i64 hw
  exact ⟨n, by simpa using e, by omega, by omega⟩
/-- A string's cell. -/
theorem cellStr {fuel : Nat} {c : Value} {x : DataW H × List MemPlace} (h : DataW.trod enc Tryz.prog w base spare held fuel 9 [c] = some x) : ∃ s : ByteArray, c = .string s ∧ s.size ≤ maxLen := by
  obtain ⟨n, e, _, hw⟩ := DataW.trod_string Tryz.underlying9 h
  exact ⟨n, by simpa using e, hw⟩

theorem Tryz.cellsI64 : Tryz.prog.cellsOf 2 = 1 := by kernel_rfl
theorem Tryz.cellsInt : Tryz.prog.cellsOf 3 = 1 := by kernel_rfl
theorem Tryz.cellsStr : Tryz.prog.cellsOf 9 = 1 := by kernel_rfl
theorem Tryz.cellsVec : Tryz.prog.cellsOf 34 = 6 := by kernel_rfl

/-- An interval's two cells. -/
theorem cellsTwo {fuel : Nat} {c0 c1 : Value} {x : DataW H × List MemPlace} (h : DataW.trod enc Tryz.prog w base spare held fuel 32 [c0, c1] = some x) : ∃ m n : Int, c0 = .int .i64 m ∧ c1 = .int .i64 n ∧ -9223372036854775808 ≤ m ∧ m < 9223372036854775808 ∧ -9223372036854775808 ≤ n ∧ n < 9223372036854775808 := by
  obtain ⟨y0, y1, m, _, _, h0, h1⟩ := trod_struct2 Tryz.underlying32 h
  simp only [Tryz.cellsI64, List.drop, List.take] at h0 h1
  obtain ⟨a, rfl, ha, ha'⟩ := cellI64 h0
  obtain ⟨b, rfl, hb, hb'⟩ := cellI64 h1
  exact ⟨a, b, rfl, rfl, ha, ha', hb, hb'⟩

set_option maxRecDepth 100000 in
theorem open_vec (hv : Value.okWide Tryz.prog w r b0 34 v) (h : DataW.Trod enc Tryz.prog w base spare held 34 v d p) :
    ∃ a0 a1 a2 a3 a4 a5 : Int, v = .agg #[.int .i64 a0, .int .i64 a1, .int .i64 a2, .int .i64 a3, .int .i64 a4, .int .i64 a5] := by
  have hu : Tryz.prog.underlying 34 = some (.array 3 32) := Tryz.underlying34
  simp only [Value.okWide, hu] at hv
  obtain ⟨cs, rfl, hsz, _⟩ := hv
  obtain ⟨c0, c1, c2, c3, c4, c5, rfl⟩ := array6 (hsz.trans Tryz.cellsVec)
  obtain ⟨fuel, hf⟩ := h
  obtain ⟨xs, m, _, _, _, hlen, hg⟩ := DataW.trod_array hu hf
  have g0 := hg 0 (by omega)
  have g1 := hg 1 (by omega)
  have g2 := hg 2 (by omega)
  match xs, hlen with
  | [x0, x1, x2], _ =>
    simp [Value.cells, Tryz.cellsIv] at g0 g1 g2
    obtain ⟨a0, a1, rfl, rfl, _⟩ := cellsTwo g0
    obtain ⟨a2, a3, rfl, rfl, _⟩ := cellsTwo g1
    obtain ⟨a4, a5, rfl, rfl, _⟩ := cellsTwo g2
    exact ⟨_, _, _, _, _, _, rfl⟩
end
end Go.Proofs.YtilaheplclaokaaGreatDoor

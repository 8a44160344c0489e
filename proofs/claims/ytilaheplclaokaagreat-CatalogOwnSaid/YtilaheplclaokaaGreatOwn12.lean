/-
Walks of trig's Sin and Cos.
Walk of trig's Cos.
Walks of package sphere: unit, Unit.
Walks of package sphere: square, atMost.
Walk of package sphere: Within, of a vector and itself.
-/
import Derived.ScopeJumps
import Derived.WalkMore
import Derived.Test.YtilaheplclaokaaGreatOwn08
import Derived.Test.YtilaheplclaokaaGreatOwn11
set_option linter.unusedVariables false
set_option linter.unusedSimpArgs false
namespace Go.Proofs.YtilaheplclaokaaGreat
open Go.RowKit Go.Shelf

theorem pow_le {k : Nat} (h : k ≤ 11) : 1 ≤ (2 : Int) ^ k ∧ (2 : Int) ^ k ≤ 2048 := by
  have : k = 0 ∨ k = 1 ∨ k = 2 ∨ k = 3 ∨ k = 4 ∨ k = 5 ∨ k = 6 ∨ k = 7 ∨ k = 8 ∨ k = 9 ∨ k = 10 ∨ k = 11 := by omega
  rcases this with rfl | rfl | rfl | rfl | rfl | rfl | rfl | rfl | rfl | rfl | rfl | rfl <;> decide
theorem ziv_clear {a p : Int} {f : Nat} (h : flb (sineV a p) (sineR a p) p = true) : ziv a p (f + 1) = flo (sineV a p) (sineR a p) p := by
  have h1 : endL (sineV a p) (sineR a p) p = endH (sineV a p) (sineR a p) p := by simpa [flb] using h
  show (if _ then _ else _) = (if _ then _ else _)
  rw [if_pos h1, if_pos h1]
theorem ziv_more {a p : Int} {f : Nat} (h : flb (sineV a p) (sineR a p) p = false) : ziv a p (f + 1) = ziv a (2 * p) f := by
  have h1 : ¬ endL (sineV a p) (sineR a p) p = endH (sineV a p) (sineR a p) p := by simpa [flb] using h
  show (if _ then _ else _) = _
  rw [if_neg h1]
theorem flb_last {v r p : Int} (h : 131113 ≤ p) : flb v r p = true := by
  have := far_clear v r p h
  unfold flb
  rw [this.1, this.2]
  rfl


set_option maxRecDepth 100000 in
set_option maxHeartbeats 200000 in
theorem Sin_calls (w : World) (a : Int) (h0 : -9223372036854775808 ≤ a) (h1 : a < 9223372036854775808) :
    Calls Tryz.prog 43 #[.int .i64 a] w (OkPost (.agg #[.int .i64 (sinLo a), .int .i64 (sinHi a)]) w) := by
  have HE := Lib.hid ((Env.start w).alloc #[.int .i64 0, .int .i64 0] 31)
  have HLo : Hid (sinLo a = if (plainV a).2 = true then (plainV a).1 else ziv a 90 12) := Lib.hid rfl
  have HHi : Hid (sinHi a = if (plainV a).2 = true then (plainV a).1 else ziv a 90 12 + 1) := Lib.hid rfl
  obtain ⟨pn, pb, hpv⟩ : ∃ pn pb, plainV a = (pn, pb) := ⟨_, _, rfl⟩
  have HPl : Hid (∀ w' : World, Calls Tryz.prog 86 #[.int .i64 a] w' (fun e w2 => e = .returned (.tuple #[.int .i64 pn, .bool pb]) ∧ w' = w2)) := Lib.hid fun w' => (plain_calls w' a h0 h1).mono (by rintro e w2 ⟨rfl, rfl⟩; rw [hpv]; exact ⟨rfl, rfl⟩)
  simp only [hpv] at HLo HHi
  clear hpv
  generalize sinLo a = lo at *
  generalize sinHi a = hi at *
  go_enter Tryz.func43, Tryz.ntmps43
  go_wp2_with fail
  refine wp_scope_jumps 0 (fun a' w' => ∃ (k : Nat) (p : Int) (v1 v3 v4 v6 v7 v8 v9 v10 v11 v12 v13 v14 v15 v16 v17 v18 v19 v20 v21 v22 v23 v24 v25 v26 v27 v28 v29 : Value), a' = { tmps := #[.int .i64 a, v1, .pointer (some ⟨w.heap.size, 0, none⟩), v3, v4, .int .i64 p, v6, v7, v8, v9, v10, v11, v12, v13, v14, v15, v16, v17, v18, v19, v20, v21, v22, v23, v24, v25, v26, v27, v28, v29], defers := [] } ∧ k ≤ 11 ∧ p = 90 * 2 ^ k ∧ ziv a 90 12 = ziv a p (12 - k) ∧ lo = ziv a 90 12 ∧ hi = ziv a 90 12 + 1 ∧ Env w [(w.heap.size, #[.int .i64 0, .int .i64 0], 31)] [] w') (fun a' _ => (400000 - intOf (a'.tmps.getD 5 undef)).toNat) rfl ?_ ?_
  · go_wp2_with fail
    go_at_call 86
    refine (HPl.out _).mono ?_
    rintro e W1 ⟨rfl, rfl⟩
    clear HPl
    cases pb with
    | true =>
      have Hlo : Hid (lo = pn) := Lib.hid (by rw [HLo.out]; simp)
      have Hhi : Hid (hi = pn) := Lib.hid (by rw [HHi.out]; simp)
      clear HLo HHi
      go_wp2
      try simp only [Exit.jump]
      have E := (Env.start w).alloc #[.int .i64 pn, .int .i64 pn] 31
      have r0 : _ = some (Value.int .i64 pn) := E.blks.1.at 0
      have r1 : _ = some (Value.int .i64 pn) := E.blks.1.at 1
      refine bodyPost_ret (v := .agg #[.int .i64 pn, .int .i64 pn]) (by simp [results, Tryz.results43, go_sem, r0, r1]) rfl ?_
      exact ⟨by rw [Hlo.out, Hhi.out], E.bel⟩
    | false =>
      replace HLo : Hid (lo = ziv a 90 12) := Lib.hid (by have h := HLo.out; simpa using h)
      replace HHi : Hid (hi = ziv a 90 12 + 1) := Lib.hid (by have h := HHi.out; simpa using h)
      go_wp2_with fail
      go_step3
      obtain ⟨k, hk0⟩ : ∃ k : Nat, k = 0 := ⟨_, rfl⟩
      obtain ⟨p, hp0⟩ : ∃ p : Int, p = 90 := ⟨_, rfl⟩
      have hk : k ≤ 11 := by omega
      have hpk2 : p = 90 * 2 ^ k := by rw [hk0, hp0]; rfl
      have hz : ziv a 90 12 = ziv a p (12 - k) := by rw [hk0, hp0]
      rw [← hp0]
      clear hk0 hp0
      have hpk := pow_le hk
      have hp1 : 90 ≤ p ∧ p ≤ 184320 := by omega
      have hsb := sine_bounds a p (by omega)
      have HU := Lib.hid fun w' n A m c h => unit_calls w' n A m c (sineV a p) (sineR a p) p ⟨by omega, by omega⟩ ⟨by omega, hsb.2.2.2⟩ h (ends_bounds (by omega) hsb.1 hsb.2.1 (by omega))
      have HSi := Lib.hid fun w' => sine_calls w' a p h0 h1 ⟨by omega, by omega⟩
      have hw : IntKind.i64.wrap (p * 2) = p * 2 := wrap_i64 _ (by omega) (by omega)
      have HZ := Lib.hid hz
      have HPK := Lib.hid hpk2
      clear hsb hpk hz hpk2
      go_wp2_with fail
      go_at_call 87
      refine (HSi.out _).mono ?_
      rintro e W1 ⟨n1, A1, m1, c1, rfl, h1', hb1⟩
      replace HE := Lib.hid ((HE.out.below hb1).wd h1')
      clear hb1 h1' HSi
      go_wp2_with fail
      go_at_call 62
      refine (HU.out _ n1 A1 m1 c1 HE.out.wds.1).mono ?_
      rintro e W2 ⟨rfl, hb2⟩
      replace HE := Lib.hid (HE.out.below hb2)
      clear hb2 HU
      have HF1 : Hid (flb (sineV a p) (sineR a p) p = true → ziv a 90 12 = flo (sineV a p) (sineR a p) p) := Lib.hid fun h => by rw [HZ.out, show 12 - k = (11 - k) + 1 by omega]; exact ziv_clear h
      have HF2 : Hid (flb (sineV a p) (sineR a p) p = false → k < 11 ∧ ziv a 90 12 = ziv a (p * 2) (12 - (k + 1))) := Lib.hid fun h => by
        have hk2 : k < 11 := by
          rcases Nat.lt_or_ge k 11 with h2 | h2
          · exact h2
          · have h3 : k = 11 := by omega
            subst h3
            have hpq := HPK.out
            rw [flb_last (by omega)] at h
            cases h
        refine ⟨hk2, ?_⟩
        rw [HZ.out, show 12 - k = (11 - k) + 1 by omega, ziv_more h, Int.mul_comm 2 p, show 12 - (k + 1) = 11 - k by omega]
      clear HZ
      generalize flb (sineV a p) (sineR a p) p = b at *
      generalize flo (sineV a p) (sineR a p) p = n at *
      cases b with
      | true =>
        have hz := HF1.out rfl
        have hlo : lo = n := by rw [HLo.out]; exact hz
        have hhi : hi = n + 1 := by rw [HHi.out, hz]
        have Hlo := Lib.hid hlo
        have Hhi := Lib.hid hhi
        have f0 : W2.cell? ⟨w.heap.size, 0, none⟩ = some (.int .i64 0) := HE.out.blks.1.at 0
        have f1 : W2.cell? ⟨w.heap.size, 1, none⟩ = some (.int .i64 0) := HE.out.blks.1.at 1
        have g0 := HE.out.blks.1.fr 0
        have g1 := HE.out.blks.1.fr 1
        have hl : w.heap.size < W2.heap.size := HE.out.blks.1.lt
        clear HF1 HF2 HLo HHi hz hlo hhi
        go_wp2
        try simp only [Exit.jump]
        have E := ((HE.out.setY (Nat.le_refl _) trivial rfl 0 (.int .i64 n)).setY (Nat.le_refl _) trivial rfl 1 (.int .i64 (n + 1))).alloc #[.int .i64 n, .int .i64 (n + 1)] 31
        have r0 : _ = some (Value.int .i64 n) := E.blks.2.1.at 0
        have r1 : _ = some (Value.int .i64 (n + 1)) := E.blks.2.1.at 1
        refine bodyPost_ret (v := .agg #[.int .i64 n, .int .i64 (n + 1)]) (by simp [results, Tryz.results43, go_sem, r0, r1]) rfl ?_
        exact ⟨by rw [Hlo.out, Hhi.out], E.bel⟩
      | false =>
        obtain ⟨hk2, hz⟩ := HF2.out rfl
        have Hz := Lib.hid hz
        clear HF1 HF2 hz
        have HEn := Lib.hid (HE.out.lastN.alloc #[.int .i64 n, .int .i64 (n + 1)] 31).drop
        go_wp2
        try go_step3
        exact ⟨rfl, k + 1, p * 2, _, _, _, _, _, _, _, _, _, _, _, _, _, _, _, _, _, _, _, _, _, _, _, _, _, _, _, rfl, hk2, by rw [HPK.out, Int.pow_succ, Int.mul_assoc], Hz.out, HLo.out, HHi.out, HEn.out⟩
  · rintro a' w' ⟨k, p, v1, v3, v4, v6, v7, v8, v9, v10, v11, v12, v13, v14, v15, v16, v17, v18, v19, v20, v21, v22, v23, v24, v25, v26, v27, v28, v29, rfl, hk, hpk2, hz, hlo0, hhi0, E⟩
    clear HLo HHi
    have HLo := Lib.hid hlo0
    have HHi := Lib.hid hhi0
    clear hlo0 hhi0
    have HE := Lib.hid E
    clear E HPl
    have hpk := pow_le hk
    have hp1 : 90 ≤ p ∧ p ≤ 184320 := by omega
    have hsb := sine_bounds a p (by omega)
    have HU := Lib.hid fun w' n A m c h => unit_calls w' n A m c (sineV a p) (sineR a p) p ⟨by omega, by omega⟩ ⟨by omega, hsb.2.2.2⟩ h (ends_bounds (by omega) hsb.1 hsb.2.1 (by omega))
    have HSi := Lib.hid fun w' => sine_calls w' a p h0 h1 ⟨by omega, by omega⟩
    have hw : IntKind.i64.wrap (p * 2) = p * 2 := wrap_i64 _ (by omega) (by omega)
    have HZ := Lib.hid hz
    have HPK := Lib.hid hpk2
    clear hsb hpk hz hpk2
    go_wp2_with fail
    go_at_call 87
    refine (HSi.out _).mono ?_
    rintro e W1 ⟨n1, A1, m1, c1, rfl, h1', hb1⟩
    replace HE := Lib.hid ((HE.out.below hb1).wd h1')
    clear hb1 h1' HSi
    go_wp2_with fail
    go_at_call 62
    refine (HU.out _ n1 A1 m1 c1 HE.out.wds.1).mono ?_
    rintro e W2 ⟨rfl, hb2⟩
    replace HE := Lib.hid (HE.out.below hb2)
    clear hb2 HU
    have HF1 : Hid (flb (sineV a p) (sineR a p) p = true → ziv a 90 12 = flo (sineV a p) (sineR a p) p) := Lib.hid fun h => by rw [HZ.out, show 12 - k = (11 - k) + 1 by omega]; exact ziv_clear h
    have HF2 : Hid (flb (sineV a p) (sineR a p) p = false → k < 11 ∧ ziv a 90 12 = ziv a (p * 2) (12 - (k + 1))) := Lib.hid fun h => by
      have hk2 : k < 11 := by
        rcases Nat.lt_or_ge k 11 with h2 | h2
        · exact h2
        · have h3 : k = 11 := by omega
          subst h3
          have hpq := HPK.out
          rw [flb_last (by omega)] at h
          cases h
      refine ⟨hk2, ?_⟩
      rw [HZ.out, show 12 - k = (11 - k) + 1 by omega, ziv_more h, Int.mul_comm 2 p, show 12 - (k + 1) = 11 - k by omega]
    clear HZ
    generalize flb (sineV a p) (sineR a p) p = b at *
    generalize flo (sineV a p) (sineR a p) p = n at *
    cases b with
    | true =>
      have hz := HF1.out rfl
      have hlo : lo = n := by rw [HLo.out]; exact hz
      have hhi : hi = n + 1 := by rw [HHi.out, hz]
      have Hlo := Lib.hid hlo
      have Hhi := Lib.hid hhi
      have f0 : W2.cell? ⟨w.heap.size, 0, none⟩ = some (.int .i64 0) := HE.out.blks.1.at 0
      have f1 : W2.cell? ⟨w.heap.size, 1, none⟩ = some (.int .i64 0) := HE.out.blks.1.at 1
      have g0 := HE.out.blks.1.fr 0
      have g1 := HE.out.blks.1.fr 1
      have hl : w.heap.size < W2.heap.size := HE.out.blks.1.lt
      clear HF1 HF2 HLo HHi hz hlo hhi
      go_wp2
      try simp only [Exit.jump]
      have E := ((HE.out.setY (Nat.le_refl _) trivial rfl 0 (.int .i64 n)).setY (Nat.le_refl _) trivial rfl 1 (.int .i64 (n + 1))).alloc #[.int .i64 n, .int .i64 (n + 1)] 31
      have r0 : _ = some (Value.int .i64 n) := E.blks.2.1.at 0
      have r1 : _ = some (Value.int .i64 (n + 1)) := E.blks.2.1.at 1
      refine bodyPost_ret (v := .agg #[.int .i64 n, .int .i64 (n + 1)]) (by simp [results, Tryz.results43, go_sem, r0, r1]) rfl ?_
      exact ⟨by rw [Hlo.out, Hhi.out], E.bel⟩
    | false =>
      obtain ⟨hk2, hz⟩ := HF2.out rfl
      have Hz := Lib.hid hz
      clear HF1 HF2 hz
      have HEn := Lib.hid (HE.out.lastN.alloc #[.int .i64 n, .int .i64 (n + 1)] 31).drop
      go_wp2
      try go_step3
      exact ⟨rfl, ⟨k + 1, p * 2, _, _, _, _, _, _, _, _, _, _, _, _, _, _, _, _, _, _, _, _, _, _, _, _, _, _, _, rfl, hk2, by rw [HPK.out, Int.pow_succ, Int.mul_assoc], Hz.out, HLo.out, HHi.out, HEn.out⟩, by simp [intOf]; omega⟩

end Go.Proofs.YtilaheplclaokaaGreat
namespace Go.Proofs.YtilaheplclaokaaGreat
open Go.RowKit Go.Shelf

/-- The angle whose sine is a cosine. -/
def cosA (a : Int) : Int := Int.tmod a 1296000000000 + 324000000000

set_option maxRecDepth 100000 in
set_option maxHeartbeats 2000000 in
theorem Cos_calls (w : World) (a : Int) (h0 : -9223372036854775808 ≤ a) (h1 : a < 9223372036854775808) :
    Calls Tryz.prog 21 #[.int .i64 a] w (OkPost (.agg #[.int .i64 (sinLo (cosA a)), .int .i64 (sinHi (cosA a))]) w) := by
  have HE := Lib.hid ((Env.start w).alloc #[.int .i64 0, .int .i64 0] 31)
  have k1 := Int.lt_tmod_of_pos a (show (0 : Int) < 1296000000000 by omega)
  have k2 := Int.tmod_lt_of_pos a (show (0 : Int) < 1296000000000 by omega)
  have hc : cosA a = Int.tmod a 1296000000000 + 324000000000 := rfl
  have hw : IntKind.i64.wrap (Int.tmod a 1296000000000 + 324000000000) = cosA a := wrap_i64 _ (by omega) (by omega)
  have HS := Lib.hid fun w' => Sin_calls w' (cosA a) (by omega) (by omega)
  clear hc k1 k2
  generalize cosA a = b at *
  generalize sinLo b = lo at *
  generalize sinHi b = hi at *
  go_enter Tryz.func21, Tryz.ntmps21
  go_wp2_with fail
  go_at_call 43
  refine (HS.out _).mono ?_
  rintro e W1 ⟨rfl, hb1⟩
  replace HE := Lib.hid (HE.out.below hb1)
  have f0 : W1.cell? ⟨w.heap.size, 0, none⟩ = some (.int .i64 0) := HE.out.blks.1.at 0
  have f1 : W1.cell? ⟨w.heap.size, 1, none⟩ = some (.int .i64 0) := HE.out.blks.1.at 1
  have g0 := HE.out.blks.1.fr 0
  have g1 := HE.out.blks.1.fr 1
  clear hb1 HS
  go_wp2
  have E := (HE.out.setX (Nat.le_refl _) trivial (by rw [← Array.all_toList]; rfl) 0 (.int .i64 lo)).setX (Nat.le_refl _) trivial (by rw [← Array.all_toList]; rfl) 1 (.int .i64 hi)
  have r0 : _ = some (Value.int .i64 lo) := E.blks.1.at 0
  have r1 : _ = some (Value.int .i64 hi) := E.blks.1.at 1
  refine bodyPost_ret (v := .agg #[.int .i64 lo, .int .i64 hi]) (by simp [results, Tryz.results21, go_sem, r0, r1]) rfl ?_
  exact ⟨rfl, E.bel⟩

end Go.Proofs.YtilaheplclaokaaGreat
namespace Go.Proofs.YtilaheplclaokaaGreat
open Go.RowKit Go.Shelf
attribute [local go_sem] Oper.semAt_some

theorem ivV_ok {lo hi : Int} (h : madB lo hi = true) : ivV lo hi = .tuple #[.agg #[.int .i64 lo, .int .i64 hi], .int .i64 0] := by
  unfold ivV madL madH madE
  simp [h]
theorem lo2_le (x y : Int) : lo2 x y ≤ x ∧ lo2 x y ≤ y ∧ (lo2 x y = x ∨ lo2 x y = y) := by unfold lo2; split <;> omega
theorem hi2_ge (x y : Int) : x ≤ hi2 x y ∧ y ≤ hi2 x y ∧ (hi2 x y = x ∨ hi2 x y = y) := by unfold hi2; split <;> omega
theorem small_prod {a c : Int} (ha : -1099511627776 ≤ a ∧ a ≤ 1099511627776) (hc : -1099511627776 ≤ c ∧ c ≤ 1099511627776) : -1208925819614629174706176 ≤ a * c ∧ a * c ≤ 1208925819614629174706176 := by
  have h : (a * c).natAbs ≤ 1099511627776 * 1099511627776 := by
    rw [Int.natAbs_mul]
    exact Nat.mul_le_mul (by omega) (by omega)
  omega
/-- Products of numbers of at most 1. -/
theorem mul_small {a0 a1 c0 c1 : Int} (h0 : -1099511627776 ≤ a0 ∧ a0 ≤ 1099511627776) (h1 : -1099511627776 ≤ a1 ∧ a1 ≤ 1099511627776) (h2 : -1099511627776 ≤ c0 ∧ c0 ≤ 1099511627776) (h3 : -1099511627776 ≤ c1 ∧ c1 ≤ 1099511627776) :
    -1099511627776 ≤ mulLo a0 a1 c0 c1 ∧ mulLo a0 a1 c0 c1 ≤ mulHi a0 a1 c0 c1 ∧ mulHi a0 a1 c0 c1 ≤ 1099511627776 ∧ (a0 ≤ a1 → a1 ≤ a0 + 1 → c0 ≤ c1 → c1 ≤ c0 + 1 → mulHi a0 a1 c0 c1 ≤ mulLo a0 a1 c0 c1 + 4) := by
  have p0 := small_prod h0 h2
  have p1 := small_prod h0 h3
  have p2 := small_prod h1 h2
  have p3 := small_prod h1 h3
  have hw : a0 ≤ a1 → a1 ≤ a0 + 1 → c0 ≤ c1 → c1 ≤ c0 + 1 → ∀ x y : Int, (x = a0 * c0 ∨ x = a0 * c1 ∨ x = a1 * c0 ∨ x = a1 * c1) → (y = a0 * c0 ∨ y = a0 * c1 ∨ y = a1 * c0 ∨ y = a1 * c1) → x - y ≤ 2199023255553 := by
    intro k0 k1 k2 k3 x y hx hy
    have ea : a1 = a0 ∨ a1 = a0 + 1 := by omega
    have ec : c1 = c0 ∨ c1 = c0 + 1 := by omega
    rcases ea with rfl | rfl <;> rcases ec with rfl | rfl
    · rcases hx with rfl | rfl | rfl | rfl <;> rcases hy with rfl | rfl | rfl | rfl <;> omega
    · simp only [Int.mul_add, Int.mul_one] at hx hy
      generalize a1 * c0 = P at *
      omega
    · simp only [Int.add_mul, Int.one_mul] at hx hy
      generalize a0 * c1 = P at *
      omega
    · simp only [Int.mul_add, Int.mul_one, Int.add_mul, Int.one_mul] at hx hy
      generalize a0 * c0 = P at *
      omega
  have l1 := lo2_le (a0 * c0) (a0 * c1)
  have l2 := lo2_le (lo2 (a0 * c0) (a0 * c1)) (a1 * c0)
  have l3 := lo2_le (lo2 (lo2 (a0 * c0) (a0 * c1)) (a1 * c0)) (a1 * c1)
  have g1 := hi2_ge (a0 * c0) (a0 * c1)
  have g2 := hi2_ge (hi2 (a0 * c0) (a0 * c1)) (a1 * c0)
  have g3 := hi2_ge (hi2 (hi2 (a0 * c0) (a0 * c1)) (a1 * c0)) (a1 * c1)
  have hw2 : a0 ≤ a1 → a1 ≤ a0 + 1 → c0 ≤ c1 → c1 ≤ c0 + 1 → hi2 (hi2 (hi2 (a0 * c0) (a0 * c1)) (a1 * c0)) (a1 * c1) - lo2 (lo2 (lo2 (a0 * c0) (a0 * c1)) (a1 * c0)) (a1 * c1) ≤ 2199023255553 := by
    intro k0 k1 k2 k3
    exact hw k0 k1 k2 k3 _ _ (by omega) (by omega)
  unfold mulLo mulHi
  generalize lo2 (lo2 (lo2 (a0 * c0) (a0 * c1)) (a1 * c0)) (a1 * c1) = l at *
  generalize hi2 (hi2 (hi2 (a0 * c0) (a0 * c1)) (a1 * c0)) (a1 * c1) = h at *
  have hlb : -1208925819614629174706176 ≤ l ∧ l ≤ h ∧ h ≤ 1208925819614629174706176 := by omega
  clear hw l1 l2 l3 g1 g2 g3 p0 p1 p2 p3
  have e1 : clamp (l / 1099511627776) = l / 1099511627776 := by unfold clamp; rw [if_neg (by omega), if_neg (by omega)]
  have e2 : clamp (-(-h / 1099511627776)) = -(-h / 1099511627776) := by unfold clamp; rw [if_neg (by omega), if_neg (by omega)]
  rw [e1, e2]
  refine ⟨by omega, by omega, by omega, fun k0 k1 k2 k3 => ?_⟩
  have := hw2 k0 k1 k2 k3
  omega

theorem sinB (a : Int) : ivB (sinLo a) (sinHi a) = true := by
  have := sin_bounds a
  exact ivB_of (by omega) (by omega) (by omega)
/-- The parts of the unit vector. -/
def unXl (ra dec : Int) : Int := mulLo (sinLo (cosA dec)) (sinHi (cosA dec)) (sinLo (cosA ra)) (sinHi (cosA ra))
def unXh (ra dec : Int) : Int := mulHi (sinLo (cosA dec)) (sinHi (cosA dec)) (sinLo (cosA ra)) (sinHi (cosA ra))
def unYl (ra dec : Int) : Int := mulLo (sinLo (cosA dec)) (sinHi (cosA dec)) (sinLo ra) (sinHi ra)
def unYh (ra dec : Int) : Int := mulHi (sinLo (cosA dec)) (sinHi (cosA dec)) (sinLo ra) (sinHi ra)
theorem prod_sin (a b : Int) : -1099511627776 ≤ mulLo (sinLo a) (sinHi a) (sinLo b) (sinHi b) ∧ mulLo (sinLo a) (sinHi a) (sinLo b) (sinHi b) ≤ mulHi (sinLo a) (sinHi a) (sinLo b) (sinHi b) ∧ mulHi (sinLo a) (sinHi a) (sinLo b) (sinHi b) ≤ 1099511627776 ∧ mulHi (sinLo a) (sinHi a) (sinLo b) (sinHi b) ≤ mulLo (sinLo a) (sinHi a) (sinLo b) (sinHi b) + 4 := by
  have ha := sin_bounds a
  have hb := sin_bounds b
  have h := mul_small (a0 := sinLo a) (a1 := sinHi a) (c0 := sinLo b) (c1 := sinHi b) (by omega) (by omega) (by omega) (by omega)
  exact ⟨h.1, h.2.1, h.2.2.1, h.2.2.2 (by omega) (by omega) (by omega) (by omega)⟩

set_option maxRecDepth 100000 in
set_option maxHeartbeats 2000000 in
theorem unit0_calls (w : World) (ra dec : Int) (hr0 : -9223372036854775808 ≤ ra) (hr1 : ra < 9223372036854775808) (hd0 : -9223372036854775808 ≤ dec) (hd1 : dec < 9223372036854775808) :
    Calls Tryz.prog 35 #[.int .i64 ra, .int .i64 dec] w (OkPost (.agg #[.int .i64 (unXl ra dec), .int .i64 (unXh ra dec), .int .i64 (unYl ra dec), .int .i64 (unYh ra dec), .int .i64 (sinLo dec), .int .i64 (sinHi dec)]) w) := by
  have C1 := Lib.hid fun w' => Cos_calls w' dec hd0 hd1
  have C2 := Lib.hid fun w' => Cos_calls w' ra hr0 hr1
  have C3 := Lib.hid fun w' => Sin_calls w' ra hr0 hr1
  have C4 := Lib.hid fun w' => Sin_calls w' dec hd0 hd1
  have p1 := prod_sin (cosA dec) (cosA ra)
  have p2 := prod_sin (cosA dec) ra
  have M1 : Hid (∀ w' : World, Calls Tryz.prog 20 #[.agg #[.int .i64 (sinLo (cosA dec)), .int .i64 (sinHi (cosA dec))], .agg #[.int .i64 (sinLo (cosA ra)), .int .i64 (sinHi (cosA ra))]] w' (OkPost (.tuple #[.agg #[.int .i64 (unXl ra dec), .int .i64 (unXh ra dec)], .int .i64 0]) w')) := Lib.hid fun w' => by
    have h := ivMul_calls w' _ _ _ _ (sinB (cosA dec)) (sinB (cosA ra))
    rw [ivV_ok (decide_eq_true (by omega))] at h
    exact h
  have M2 : Hid (∀ w' : World, Calls Tryz.prog 20 #[.agg #[.int .i64 (sinLo (cosA dec)), .int .i64 (sinHi (cosA dec))], .agg #[.int .i64 (sinLo ra), .int .i64 (sinHi ra)]] w' (OkPost (.tuple #[.agg #[.int .i64 (unYl ra dec), .int .i64 (unYh ra dec)], .int .i64 0]) w')) := Lib.hid fun w' => by
    have h := ivMul_calls w' _ _ _ _ (sinB (cosA dec)) (sinB ra)
    rw [ivV_ok (decide_eq_true (by omega))] at h
    exact h
  clear p1 p2
  generalize unXl ra dec = xl at *
  generalize unXh ra dec = xh at *
  generalize unYl ra dec = yl at *
  generalize unYh ra dec = yh at *
  generalize sinLo (cosA dec) = dl at *
  generalize sinHi (cosA dec) = dh at *
  generalize sinLo (cosA ra) = rl at *
  generalize sinHi (cosA ra) = rh at *
  generalize sinLo ra = sl at *
  generalize sinHi ra = sh at *
  generalize sinLo dec = zl at *
  generalize sinHi dec = zh at *
  have HE := Lib.hid ((Env.start w).alloc #[.int .i64 0, .int .i64 0, .int .i64 0, .int .i64 0, .int .i64 0, .int .i64 0] 33)
  go_enter Tryz.func35, Tryz.ntmps35
  go_wp2_with fail
  go_at_call 53
  refine (begin_calls _).mono ?_
  rintro e W1 ⟨bs, rfl, hbs, hsh, hb1⟩
  have hbs2 : w.heap.size < bs := Nat.lt_of_lt_of_le HE.out.blks.1.lt hbs
  replace HE := Lib.hid ((HE.out.below hb1).blk hsh)
  clear hb1 hsh hbs
  go_wp2_with fail
  go_at_call 21
  refine (C1.out _).mono ?_
  rintro e W2 ⟨rfl, hb2⟩
  replace HE := Lib.hid (HE.out.below hb2)
  clear hb2 C1
  go_wp2_with fail
  have E := HE.out.alloc #[.int .i64 dl, .int .i64 dh] 31
  have hb6 : bs < W2.heap.size := HE.out.blks.1.lt
  clear HE
  generalize W2.alloc (.cells #[.int .i64 dl, .int .i64 dh] 31) = V at *
  generalize W2.heap.size = b6 at *
  have HE := Lib.hid E
  clear E
  refine region_start (S := fun W' => Blk W' bs sheetC 100 ∧ Blk W' b6 #[.int .i64 dl, .int .i64 dh] 31) (by kernel_rfl) ?_
  intro W hW
  have E := HE.out.drew.swap
  rw [← hW] at E
  clear hW HE
  have hS := And.intro E.blks.1 E.blks.2.1
  refine wpAnyH_take (i := 0) (v := .pointer (some ⟨bs, 0, none⟩)) rfl (by kernel_rfl) (by kernel_rfl) (by kernel_rfl) (fun _ _ _ h => h) (.inl ⟨rfl, fun w0 hw0 => ?a0⟩) hS ?_
  case a0 =>
    have e0 : w0.cell? ⟨bs, 2, none⟩ = some (.func (.func 20) #[] #[]) := hw0.1.at 2; have e1 : w0.cell? ⟨b6, 0, none⟩ = some (.int .i64 dl) := hw0.2.at 0; have e2 : w0.cell? ⟨b6, 1, none⟩ = some (.int .i64 dh) := hw0.2.at 1
    go_simp
  refine wpAnyH_take (i := 1) (v := .pointer (some ⟨bs, 0, none⟩)) rfl (by kernel_rfl) (by kernel_rfl) (by kernel_rfl) (fun _ _ _ h => h) (.inl ⟨rfl, fun w0 hw0 => ?a1⟩) hS ?_
  case a1 =>
    have e0 : w0.cell? ⟨bs, 2, none⟩ = some (.func (.func 20) #[] #[]) := hw0.1.at 2; have e1 : w0.cell? ⟨b6, 0, none⟩ = some (.int .i64 dl) := hw0.2.at 0; have e2 : w0.cell? ⟨b6, 1, none⟩ = some (.int .i64 dh) := hw0.2.at 1
    go_simp
  refine wpAnyH_take (i := 2) (v := .pointer (some ⟨bs, 0, none⟩)) rfl (by kernel_rfl) (by kernel_rfl) (by kernel_rfl) (fun _ _ _ h => h) (.inl ⟨rfl, fun w0 hw0 => ?a2⟩) hS ?_
  case a2 =>
    have e0 : w0.cell? ⟨bs, 2, none⟩ = some (.func (.func 20) #[] #[]) := hw0.1.at 2; have e1 : w0.cell? ⟨b6, 0, none⟩ = some (.int .i64 dl) := hw0.2.at 0; have e2 : w0.cell? ⟨b6, 1, none⟩ = some (.int .i64 dh) := hw0.2.at 1
    go_simp
  refine wpAnyH_take (i := 3) (v := .pointer (some ⟨bs, 2, none⟩)) rfl (by kernel_rfl) (by kernel_rfl) (by kernel_rfl) (fun _ _ _ h => h) (.inl ⟨rfl, fun w0 hw0 => ?a3⟩) hS ?_
  case a3 =>
    have e0 : w0.cell? ⟨bs, 2, none⟩ = some (.func (.func 20) #[] #[]) := hw0.1.at 2; have e1 : w0.cell? ⟨b6, 0, none⟩ = some (.int .i64 dl) := hw0.2.at 0; have e2 : w0.cell? ⟨b6, 1, none⟩ = some (.int .i64 dh) := hw0.2.at 1
    go_simp
  refine wpAnyH_take (i := 4) (v := .func (.func 20) #[] #[]) rfl (by kernel_rfl) (by kernel_rfl) (by kernel_rfl) (fun _ _ _ h => h) (.inl ⟨rfl, fun w0 hw0 => ?a4⟩) hS ?_
  case a4 =>
    have e0 : w0.cell? ⟨bs, 2, none⟩ = some (.func (.func 20) #[] #[]) := hw0.1.at 2; have e1 : w0.cell? ⟨b6, 0, none⟩ = some (.int .i64 dl) := hw0.2.at 0; have e2 : w0.cell? ⟨b6, 1, none⟩ = some (.int .i64 dh) := hw0.2.at 1
    go_simp
  refine wpAnyH_take (i := 5) (v := .agg #[.int .i64 dl, .int .i64 dh]) rfl (by kernel_rfl) (by kernel_rfl) (by kernel_rfl) (fun _ _ _ h => h) (.inl ⟨rfl, fun w0 hw0 => ?a5⟩) hS ?_
  case a5 =>
    have e0 : w0.cell? ⟨bs, 2, none⟩ = some (.func (.func 20) #[] #[]) := hw0.1.at 2; have e1 : w0.cell? ⟨b6, 0, none⟩ = some (.int .i64 dl) := hw0.2.at 0; have e2 : w0.cell? ⟨b6, 1, none⟩ = some (.int .i64 dh) := hw0.2.at 1
    go_simp
  refine wpAnyH_take (i := 6) (v := .int .i64 ra) rfl (by kernel_rfl) (by kernel_rfl) (by kernel_rfl) (fun _ _ _ h => h) (.inl ⟨rfl, fun w0 hw0 => ?a6⟩) hS ?_
  case a6 =>
    have e0 : w0.cell? ⟨bs, 2, none⟩ = some (.func (.func 20) #[] #[]) := hw0.1.at 2; have e1 : w0.cell? ⟨b6, 0, none⟩ = some (.int .i64 dl) := hw0.2.at 0; have e2 : w0.cell? ⟨b6, 1, none⟩ = some (.int .i64 dh) := hw0.2.at 1
    go_simp
  refine wpAnyH_take (i := 9) (v := .pointer (some ⟨bs, 0, none⟩)) rfl (by kernel_rfl) (by kernel_rfl) (by kernel_rfl) (fun _ _ _ h => h) (.inl ⟨rfl, fun w0 hw0 => ?a9⟩) hS ?_
  case a9 =>
    have e0 : w0.cell? ⟨bs, 2, none⟩ = some (.func (.func 20) #[] #[]) := hw0.1.at 2; have e1 : w0.cell? ⟨b6, 0, none⟩ = some (.int .i64 dl) := hw0.2.at 0; have e2 : w0.cell? ⟨b6, 1, none⟩ = some (.int .i64 dh) := hw0.2.at 1
    go_simp
  refine wpAnyH_take (i := 10) (v := .pointer (some ⟨bs, 0, none⟩)) rfl (by kernel_rfl) (by kernel_rfl) (by kernel_rfl) (fun _ _ _ h => h) (.inl ⟨rfl, fun w0 hw0 => ?a10⟩) hS ?_
  case a10 =>
    have e0 : w0.cell? ⟨bs, 2, none⟩ = some (.func (.func 20) #[] #[]) := hw0.1.at 2; have e1 : w0.cell? ⟨b6, 0, none⟩ = some (.int .i64 dl) := hw0.2.at 0; have e2 : w0.cell? ⟨b6, 1, none⟩ = some (.int .i64 dh) := hw0.2.at 1
    go_simp
  refine wpAnyH_take (i := 11) (v := .pointer (some ⟨bs, 0, none⟩)) rfl (by kernel_rfl) (by kernel_rfl) (by kernel_rfl) (fun _ _ _ h => h) (.inl ⟨rfl, fun w0 hw0 => ?a11⟩) hS ?_
  case a11 =>
    have e0 : w0.cell? ⟨bs, 2, none⟩ = some (.func (.func 20) #[] #[]) := hw0.1.at 2; have e1 : w0.cell? ⟨b6, 0, none⟩ = some (.int .i64 dl) := hw0.2.at 0; have e2 : w0.cell? ⟨b6, 1, none⟩ = some (.int .i64 dh) := hw0.2.at 1
    go_simp
  refine wpAnyH_take (i := 12) (v := .pointer (some ⟨bs, 2, none⟩)) rfl (by kernel_rfl) (by kernel_rfl) (by kernel_rfl) (fun _ _ _ h => h) (.inl ⟨rfl, fun w0 hw0 => ?a12⟩) hS ?_
  case a12 =>
    have e0 : w0.cell? ⟨bs, 2, none⟩ = some (.func (.func 20) #[] #[]) := hw0.1.at 2; have e1 : w0.cell? ⟨b6, 0, none⟩ = some (.int .i64 dl) := hw0.2.at 0; have e2 : w0.cell? ⟨b6, 1, none⟩ = some (.int .i64 dh) := hw0.2.at 1
    go_simp
  refine wpAnyH_take (i := 13) (v := .func (.func 20) #[] #[]) rfl (by kernel_rfl) (by kernel_rfl) (by kernel_rfl) (fun _ _ _ h => h) (.inl ⟨rfl, fun w0 hw0 => ?a13⟩) hS ?_
  case a13 =>
    have e0 : w0.cell? ⟨bs, 2, none⟩ = some (.func (.func 20) #[] #[]) := hw0.1.at 2; have e1 : w0.cell? ⟨b6, 0, none⟩ = some (.int .i64 dl) := hw0.2.at 0; have e2 : w0.cell? ⟨b6, 1, none⟩ = some (.int .i64 dh) := hw0.2.at 1
    go_simp
  refine wpAnyH_take (i := 14) (v := .agg #[.int .i64 dl, .int .i64 dh]) rfl (by kernel_rfl) (by kernel_rfl) (by kernel_rfl) (fun _ _ _ h => h) (.inl ⟨rfl, fun w0 hw0 => ?a14⟩) hS ?_
  case a14 =>
    have e0 : w0.cell? ⟨bs, 2, none⟩ = some (.func (.func 20) #[] #[]) := hw0.1.at 2; have e1 : w0.cell? ⟨b6, 0, none⟩ = some (.int .i64 dl) := hw0.2.at 0; have e2 : w0.cell? ⟨b6, 1, none⟩ = some (.int .i64 dh) := hw0.2.at 1
    go_simp
  refine wpAnyH_take (i := 15) (v := .int .i64 ra) rfl (by kernel_rfl) (by kernel_rfl) (by kernel_rfl) (fun _ _ _ h => h) (.inl ⟨rfl, fun w0 hw0 => ?a15⟩) hS ?_
  case a15 =>
    have e0 : w0.cell? ⟨bs, 2, none⟩ = some (.func (.func 20) #[] #[]) := hw0.1.at 2; have e1 : w0.cell? ⟨b6, 0, none⟩ = some (.int .i64 dl) := hw0.2.at 0; have e2 : w0.cell? ⟨b6, 1, none⟩ = some (.int .i64 dh) := hw0.2.at 1
    go_simp
  refine wpAnyH_take (i := 18) (v := .int .i64 dec) rfl (by kernel_rfl) (by kernel_rfl) (by kernel_rfl) (fun _ _ _ h => h) (.inl ⟨rfl, fun w0 hw0 => ?a18⟩) hS ?_
  case a18 =>
    have e0 : w0.cell? ⟨bs, 2, none⟩ = some (.func (.func 20) #[] #[]) := hw0.1.at 2; have e1 : w0.cell? ⟨b6, 0, none⟩ = some (.int .i64 dl) := hw0.2.at 0; have e2 : w0.cell? ⟨b6, 1, none⟩ = some (.int .i64 dh) := hw0.2.at 1
    go_simp
  clear hS
  refine wpAnyH_all (rs := [7]) (by kernel_rfl) (by simp) ?_
  intro i0 hi0
  obtain rfl : i0 = 7 := by simpa using hi0
  refine wpOp_plain rfl rfl fun K' hK' => ?_
  go_simp
  refine (C2.out _).mono ?_
  rintro e W3 ⟨rfl, hb3⟩
  replace E := E.below hb3
  clear hb3
  refine hK' _ _ ⟨⟨E.blks.1, E.blks.2.1⟩, ?_⟩
  clear hK' K'
  refine wpAnyH_all (rs := [8]) (by kernel_rfl) (by simp) ?_
  intro i0 hi0
  obtain rfl : i0 = 8 := by simpa using hi0
  refine wpOp_plain rfl rfl fun K' hK' => ?_
  go_simp
  refine (doMul_calls _ bs dl dh rl rh xl xh E.blks.1 M1.out).mono ?_
  rintro e W4 ⟨rfl, hs4, hk4⟩
  replace E := E.keeps (by omega) (by simp [Free] <;> omega) hk4 hs4
  clear hs4 hk4
  refine hK' _ _ ⟨⟨E.blks.1, E.blks.2.1⟩, ?_⟩
  clear hK' K'
  refine wpAnyH_all (rs := [16]) (by kernel_rfl) (by simp) ?_
  intro i0 hi0
  obtain rfl : i0 = 16 := by simpa using hi0
  refine wpOp_plain rfl rfl fun K' hK' => ?_
  go_simp
  refine (C3.out _).mono ?_
  rintro e W5 ⟨rfl, hb5⟩
  replace E := E.below hb5
  clear hb5
  refine hK' _ _ ⟨⟨E.blks.1, E.blks.2.1⟩, ?_⟩
  clear hK' K'
  refine wpAnyH_all (rs := [17]) (by kernel_rfl) (by simp) ?_
  intro i0 hi0
  obtain rfl : i0 = 17 := by simpa using hi0
  refine wpOp_plain rfl rfl fun K' hK' => ?_
  go_simp
  refine (doMul_calls _ bs dl dh sl sh yl yh E.blks.1 M2.out).mono ?_
  rintro e W6 ⟨rfl, hs6, hk6⟩
  replace E := E.keeps (by omega) (by simp [Free] <;> omega) hk6 hs6
  clear hs6 hk6
  refine hK' _ _ ⟨⟨E.blks.1, E.blks.2.1⟩, ?_⟩
  clear hK' K'
  refine wpAnyH_all (rs := [19]) (by kernel_rfl) (by simp) ?_
  intro i0 hi0
  obtain rfl : i0 = 19 := by simpa using hi0
  refine wpOp_plain rfl rfl fun K' hK' => ?_
  go_simp
  refine (C4.out _).mono ?_
  rintro e W7 ⟨rfl, hb7⟩
  replace E := E.below hb7
  clear hb7
  refine hK' _ _ ⟨⟨E.blks.1, E.blks.2.1⟩, ?_⟩
  clear hK' K'
  have hS := And.intro E.blks.1 E.blks.2.1
  refine wpAnyH_take (i := 20) (v := .agg #[.int .i64 xl, .int .i64 xh, .int .i64 yl, .int .i64 yh, .int .i64 zl, .int .i64 zh]) rfl (by kernel_rfl) (by kernel_rfl) (by kernel_rfl) (fun _ _ _ h => h) (.inl ⟨rfl, fun w0 hw0 => ?a20⟩) hS ?_
  case a20 =>
    have e0 : w0.cell? ⟨bs, 2, none⟩ = some (.func (.func 20) #[] #[]) := hw0.1.at 2; have e1 : w0.cell? ⟨b6, 0, none⟩ = some (.int .i64 dl) := hw0.2.at 0; have e2 : w0.cell? ⟨b6, 1, none⟩ = some (.int .i64 dh) := hw0.2.at 1
    go_simp
  clear hS
  have f0 : W7.cell? ⟨w.heap.size, 0, none⟩ = some (.int .i64 0) := E.blks.2.2.1.at 0
  have g0 := E.blks.2.2.1.fr 0
  have f1 : W7.cell? ⟨w.heap.size, 1, none⟩ = some (.int .i64 0) := E.blks.2.2.1.at 1
  have g1 := E.blks.2.2.1.fr 1
  have f2 : W7.cell? ⟨w.heap.size, 2, none⟩ = some (.int .i64 0) := E.blks.2.2.1.at 2
  have g2 := E.blks.2.2.1.fr 2
  have f3 : W7.cell? ⟨w.heap.size, 3, none⟩ = some (.int .i64 0) := E.blks.2.2.1.at 3
  have g3 := E.blks.2.2.1.fr 3
  have f4 : W7.cell? ⟨w.heap.size, 4, none⟩ = some (.int .i64 0) := E.blks.2.2.1.at 4
  have g4 := E.blks.2.2.1.fr 4
  have f5 : W7.cell? ⟨w.heap.size, 5, none⟩ = some (.int .i64 0) := E.blks.2.2.1.at 5
  have g5 := E.blks.2.2.1.fr 5
  refine wpAnyH_all (rs := [21]) (by kernel_rfl) (by simp) ?_
  intro i0 hi0
  obtain rfl : i0 = 21 := by simpa using hi0
  refine wpOp_plain rfl rfl fun K' hK' => ?_
  go_simp
  obtain ⟨⟨q1, q2, q3, _⟩, _, ql⟩ := E
  have E : Env w [(w.heap.size, #[.int .i64 0, .int .i64 0, .int .i64 0, .int .i64 0, .int .i64 0, .int .i64 0], 33), (bs, sheetC, 100), (b6, #[.int .i64 dl, .int .i64 dh], 31)] [] W7 := ⟨⟨q3, q1, q2, trivial⟩, trivial, ql⟩
  replace E := ((((((E.setY (by omega) (by simp [Free] <;> omega) rfl 0 (.int .i64 xl)).setY (by omega) (by simp [Free] <;> omega) rfl 1 (.int .i64 xh)).setY (by omega) (by simp [Free] <;> omega) rfl 2 (.int .i64 yl)).setY (by omega) (by simp [Free] <;> omega) rfl 3 (.int .i64 yh)).setY (by omega) (by simp [Free] <;> omega) rfl 4 (.int .i64 zl)).setY (by omega) (by simp [Free] <;> omega) rfl 5 (.int .i64 zh))
  clear q1 q2 q3 ql f0 f1 f2 f3 f4 f5 g0 g1 g2 g3 g4 g5
  generalize ((((((W7.setCell ⟨w.heap.size, 0, none⟩ (.int .i64 xl)).setCell ⟨w.heap.size, 1, none⟩ (.int .i64 xh)).setCell ⟨w.heap.size, 2, none⟩ (.int .i64 yl)).setCell ⟨w.heap.size, 3, none⟩ (.int .i64 yh)).setCell ⟨w.heap.size, 4, none⟩ (.int .i64 zl)).setCell ⟨w.heap.size, 5, none⟩ (.int .i64 zh)) = W8 at *
  refine hK' _ _ ⟨⟨E.blks.2.1, E.blks.2.2.1⟩, wpAnyH_done (by kernel_rfl) ?_ _⟩
  clear hK' K'
  have r0 : W8.cell? ⟨w.heap.size, 0, none⟩ = some (Value.int .i64 xl) := E.blks.1.at 0
  have r1 : W8.cell? ⟨w.heap.size, 1, none⟩ = some (Value.int .i64 xh) := E.blks.1.at 1
  have r2 : W8.cell? ⟨w.heap.size, 2, none⟩ = some (Value.int .i64 yl) := E.blks.1.at 2
  have r3 : W8.cell? ⟨w.heap.size, 3, none⟩ = some (Value.int .i64 yh) := E.blks.1.at 3
  have r4 : W8.cell? ⟨w.heap.size, 4, none⟩ = some (Value.int .i64 zl) := E.blks.1.at 4
  have r5 : W8.cell? ⟨w.heap.size, 5, none⟩ = some (Value.int .i64 zh) := E.blks.1.at 5
  have HE := Lib.hid E.bel
  clear E
  go_wp2
  refine bodyPost_ret (v := .agg #[.int .i64 xl, .int .i64 xh, .int .i64 yl, .int .i64 yh, .int .i64 zl, .int .i64 zh]) (by simp [results, Tryz.results35, go_sem, r0, r1, r2, r3, r4, r5]) rfl ?_
  exact ⟨rfl, HE.out⟩

set_option maxRecDepth 100000 in
set_option maxHeartbeats 1000000 in
theorem Unit_calls (w : World) (ra dec : Int) (hr0 : -9223372036854775808 ≤ ra) (hr1 : ra < 9223372036854775808) (hd0 : -324000000000 ≤ dec) (hd1 : dec ≤ 324000000000) :
    Calls Tryz.prog 10 #[.int .i64 ra, .int .i64 dec] w (OkPost (.tuple #[.agg #[.int .i64 (unXl ra dec), .int .i64 (unXh ra dec), .int .i64 (unYl ra dec), .int .i64 (unYh ra dec), .int .i64 (sinLo dec), .int .i64 (sinHi dec)], .int .i64 0]) w) := by
  have CU := Lib.hid fun w' => unit0_calls w' ra dec hr0 hr1 (by omega) (by omega)
  have HE := Lib.hid ((Env.start w).alloc #[.int .i64 0, .int .i64 0, .int .i64 0, .int .i64 0, .int .i64 0, .int .i64 0] 33)
  have hno : decide (dec < -324000000000 ∨ 324000000000 < dec) = false := decide_eq_false (by omega)
  have CO : Hid (∀ w' : World, Calls Tryz.prog 34 #[.int .i64 dec] w' (RetPost (.bool false) w')) := Lib.hid fun w' => by
    have h := outside_calls w' dec
    rw [hno] at h
    exact h
  clear hno
  generalize unXl ra dec = xl at *
  generalize unXh ra dec = xh at *
  generalize unYl ra dec = yl at *
  generalize unYh ra dec = yh at *
  generalize sinLo dec = zl at *
  generalize sinHi dec = zh at *
  go_enter Tryz.func10, Tryz.ntmps10
  go_wp2_with fail
  go_at_call 34
  refine (CO.out _).mono ?_
  rintro e W1 ⟨rfl, rfl⟩
  go_wp2_with fail
  go_at_call 35
  refine (CU.out _).mono ?_
  rintro e W2 ⟨rfl, hb2⟩
  replace HE := Lib.hid (HE.out.below hb2)
  clear hb2 CU CO
  have f0 : W2.cell? ⟨w.heap.size, 0, none⟩ = some (.int .i64 0) := HE.out.blks.1.at 0
  have g0 := HE.out.blks.1.fr 0
  have f1 : W2.cell? ⟨w.heap.size, 1, none⟩ = some (.int .i64 0) := HE.out.blks.1.at 1
  have g1 := HE.out.blks.1.fr 1
  have f2 : W2.cell? ⟨w.heap.size, 2, none⟩ = some (.int .i64 0) := HE.out.blks.1.at 2
  have g2 := HE.out.blks.1.fr 2
  have f3 : W2.cell? ⟨w.heap.size, 3, none⟩ = some (.int .i64 0) := HE.out.blks.1.at 3
  have g3 := HE.out.blks.1.fr 3
  have f4 : W2.cell? ⟨w.heap.size, 4, none⟩ = some (.int .i64 0) := HE.out.blks.1.at 4
  have g4 := HE.out.blks.1.fr 4
  have f5 : W2.cell? ⟨w.heap.size, 5, none⟩ = some (.int .i64 0) := HE.out.blks.1.at 5
  have g5 := HE.out.blks.1.fr 5
  go_wp2
  have E := ((((((HE.out.setY (by omega) (by simp [Free] <;> omega) rfl 0 (.int .i64 xl)).setY (by omega) (by simp [Free] <;> omega) rfl 1 (.int .i64 xh)).setY (by omega) (by simp [Free] <;> omega) rfl 2 (.int .i64 yl)).setY (by omega) (by simp [Free] <;> omega) rfl 3 (.int .i64 yh)).setY (by omega) (by simp [Free] <;> omega) rfl 4 (.int .i64 zl)).setY (by omega) (by simp [Free] <;> omega) rfl 5 (.int .i64 zh))
  have r0 : _ = some (Value.int .i64 xl) := E.blks.1.at 0
  have r1 : _ = some (Value.int .i64 xh) := E.blks.1.at 1
  have r2 : _ = some (Value.int .i64 yl) := E.blks.1.at 2
  have r3 : _ = some (Value.int .i64 yh) := E.blks.1.at 3
  have r4 : _ = some (Value.int .i64 zl) := E.blks.1.at 4
  have r5 : _ = some (Value.int .i64 zh) := E.blks.1.at 5
  refine bodyPost_ret (v := .tuple #[.agg #[.int .i64 xl, .int .i64 xh, .int .i64 yl, .int .i64 yh, .int .i64 zl, .int .i64 zh], .int .i64 0]) (by simp [results, Tryz.results10, go_sem, r0, r1, r2, r3, r4, r5]) rfl ?_
  exact ⟨rfl, E.bel⟩

end Go.Proofs.YtilaheplclaokaaGreat
namespace Go.Proofs.YtilaheplclaokaaGreat
open Go.RowKit Go.Shelf
attribute [local go_sem] Oper.semAt_some

set_option maxRecDepth 100000 in
set_option maxHeartbeats 1000000 in
theorem square_calls (w : World) (x : Int) (h0 : -9223372036854775808 ≤ x) (h1 : x < 9223372036854775808) :
    Calls Tryz.prog 42 #[.int .i64 x] w (WidPost (Num.fit (x * x)) w) := by
  have CF := Lib.hid fun w' => From_calls w' x h0 h1
  have HE := Lib.hid ((Env.start w).alloc #[.bool false, .slice none 0 0] 78)
  go_enter Tryz.func42, Tryz.ntmps42
  go_wp2_with fail
  go_at_call 40
  refine (CF.out _).mono ?_
  rintro e W1 ⟨n1, A1, m1, c1, rfl, k1, hb1⟩
  replace HE := Lib.hid ((HE.out.below hb1).wd k1)
  clear hb1 k1
  go_wp2_with fail
  go_at_call 40
  refine (CF.out _).mono ?_
  rintro e W2 ⟨n2, A2, m2, c2, rfl, k2, hb2⟩
  replace HE := Lib.hid ((HE.out.below hb2).wd k2)
  clear hb2 k2 CF
  go_wp2_with fail
  go_at_call 77
  refine (Mul_calls _ n1 n2 A1 A2 m1 m2 c1 c2 x x HE.out.wds.2.1 HE.out.wds.1).mono ?_
  rintro e W3 ⟨_, rfl, ⟨n3, A3, m3, c3, rfl, k3⟩, hb3⟩
  replace HE := Lib.hid ((HE.out.below hb3).wd k3)
  have f0 := HE.out.blks.1.at 0
  have e0 : W3.cell? ⟨w.heap.size, 0, none⟩ = some (.bool false) := HE.out.blks.1.at 0
  have e1 : W3.cell? ⟨w.heap.size, 1, none⟩ = some (.slice none 0 0) := HE.out.blks.1.at 1
  have g0 := HE.out.blks.1.fr 0
  have g1 := HE.out.blks.1.fr 1
  have hl : w.heap.size < W3.heap.size := HE.out.blks.1.lt
  clear hb3 k3 f0
  go_wp2
  have E := (HE.out.set2 (Nat.le_refl _) trivial (.bool n3) (.slice A3 m3 c3)).alloc #[.bool n3, .slice A3 m3 c3] 78
  have r0 : _ = some (Value.bool n3) := E.blks.2.1.at 0
  have r1 : _ = some (Value.slice A3 m3 c3) := E.blks.2.1.at 1
  refine bodyPost_ret (v := .agg #[.bool n3, .slice A3 m3 c3]) (by simp [results, Tryz.results42, go_sem, r0, r1]) rfl ?_
  exact ⟨n3, A3, m3, c3, rfl, E.wds.1, E.bel⟩

theorem cmpZ_le (x y : Int) : (cmpZ x y ≤ 0 ↔ x ≤ y) := by
  unfold cmpZ
  split
  · omega
  · split <;> omega

set_option maxRecDepth 100000 in
set_option maxHeartbeats 1000000 in
theorem atMost_calls (w : World) (neg neg' : Bool) (A A' : Option Addr) (n n' cap cap' : Nat) (x y : Int) (ha : WD w neg A n cap x) (hb : WD w neg' A' n' cap' y) :
    Calls Tryz.prog 44 #[.agg #[.bool neg, .slice A n cap], .agg #[.bool neg', .slice A' n' cap']] w (OkPost (.bool (decide (x ≤ y))) w) := by
  have E := (((Env.start w).wd ha).wd hb).alloc #[.bool neg, .slice A n cap] 78
  have E2 := E.alloc #[.bool neg', .slice A' n' cap'] 78
  have h1 := (ha.below ((Below.refl _ _).alloc (Nat.le_refl _) (.cells #[.bool neg, .slice A n cap] 78)))
  simp only [World.size_alloc] at E2
  have HE := Lib.hid E2
  have HD : Hid (decide (x ≤ y) = decide (cmpZ x y ≤ 0)) := Lib.hid (by rw [decide_eq_decide]; exact (cmpZ_le x y).symm)
  clear E E2 h1 ha hb
  go_enter Tryz.func44, Tryz.ntmps44
  go_wp2_with fail
  go_at_call 88
  refine (Cmp_calls _ neg neg' A A' n n' cap cap' x y HE.out.wds.2.1 HE.out.wds.1).mono ?_
  rintro e W1 ⟨rfl, hb1⟩
  replace HE := Lib.hid (HE.out.below hb1)
  clear hb1
  go_wp2
  go_ret
  refine ⟨?_, HE.out.bel⟩
  rw [HD.out]
  rfl

end Go.Proofs.YtilaheplclaokaaGreat
namespace Go.Proofs.YtilaheplclaokaaGreat
open Go.RowKit Go.Shelf
attribute [local go_sem] Oper.semAt_some

/-- The sum of the squares of some numbers, as it is added up. -/
def sqs (n0 n1 n2 : Int) : Nat → Int
  | 0 => 0
  | 1 => Num.fit (0 + Num.fit (n0 * n0))
  | 2 => Num.fit (Num.fit (0 + Num.fit (n0 * n0)) + Num.fit (n1 * n1))
  | _ => Num.fit (Num.fit (Num.fit (0 + Num.fit (n0 * n0)) + Num.fit (n1 * n1)) + Num.fit (n2 * n2))
theorem fit0 : Num.fit 0 = 0 := by rcases fit_pick 0 with h | h <;> exact h


set_option maxRecDepth 100000 in
set_option maxHeartbeats 2000000 in
theorem within_self (w : World) (u0 u1 u2 u3 u4 u5 half : Int) (hv : vecB u0 u1 u2 u3 u4 u5 = true) (hh0 : 0 ≤ half) (hh1 : half ≤ 324000000000) :
    Calls Tryz.prog 12 #[.agg #[.int .i64 u0, .int .i64 u1, .int .i64 u2, .int .i64 u3, .int .i64 u4, .int .i64 u5], .agg #[.int .i64 u0, .int .i64 u1, .int .i64 u2, .int .i64 u3, .int .i64 u4, .int .i64 u5], .int .i64 half] w (OkPost (.tuple #[.bool (decide (sqs (u1 - u0) (u3 - u2) (u5 - u4) 3 ≤ Num.fit ((2 * sinLo half) * (2 * sinLo half)))), .bool (decide (0 ≤ Num.fit ((2 * sinHi half) * (2 * sinHi half)))), .int .i64 0]) w) := by
  obtain ⟨q0, q1, q2⟩ := vecB_spec hv
  have i0 := ivB_spec q0
  have i1 := ivB_spec q1
  have i2 := ivB_spec q2
  have HI := Lib.hid (And.intro i0 (And.intro i1 i2))
  have CL := Lib.hid fun w' => look_calls w' u0 u1 u2 u3 u4 u5 u0 u1 u2 u3 u4 u5 hv hv
  have CF := Lib.hid fun w' => From_calls w' 0 (by omega) (by omega)
  have sb := sin_bounds half
  have HSB := Lib.hid sb
  have CS := Lib.hid fun w' => Sin_calls w' half (by omega) (by omega)
  generalize sinLo half = sl at *
  generalize sinHi half = sh at *
  clear q0 q1 q2 i0 i1 i2 hv sb
  have E := ((Env.start w).alloc #[.int .i64 u0, .int .i64 u1, .int .i64 u2, .int .i64 u3, .int .i64 u4, .int .i64 u5] 33).alloc #[.int .i64 u0, .int .i64 u1, .int .i64 u2, .int .i64 u3, .int .i64 u4, .int .i64 u5] 33
  simp only [World.size_alloc] at E
  have HE := Lib.hid E
  clear E
  go_enter Tryz.func12, Tryz.ntmps12
  go_wp2_with fail
  go_at_call 39
  refine (CL.out _).mono ?_
  rintro e W1 ⟨rfl, hb1⟩
  replace HE := Lib.hid (HE.out.below hb1)
  clear hb1 CL
  go_wp2_with fail
  go_at_call 40
  refine (CF.out _).mono ?_
  rintro e W2 ⟨xn, xA, xm, xc, rfl, k2, hb2⟩
  replace HE := Lib.hid ((HE.out.below hb2).wd k2)
  clear hb2 k2
  go_wp2_with fail
  go_at_call 40
  refine (CF.out _).mono ?_
  rintro e W3 ⟨yn, yA, ym, yc, rfl, k3, hb3⟩
  replace HE := Lib.hid ((HE.out.below hb3).wd k3)
  clear hb3 k3 CF
  go_wp2_with fail
  have E2 := (HE.out.alloc #[.bool xn, .slice xA xm xc] 78).alloc #[.bool yn, .slice yA ym yc] 78
  simp only [World.size_alloc] at E2
  have hb10 : w.heap.size + 1 < W3.heap.size := HE.out.blks.1.lt
  clear HE
  generalize ((W3.alloc (.cells #[.bool xn, .slice xA xm xc] 78)).alloc (.cells #[.bool yn, .slice yA ym yc] 78)) = V at *
  generalize W3.heap.size = b10 at *
  have HE := Lib.hid E2.swap
  clear E2
  go_loopw [30] (fun i wr => ∃ (k : Nat) (xn : Bool) (xA : Option Addr) (xm xc : Nat) (yn : Bool) (yA : Option Addr) (ym yc : Nat), k ≤ 3 ∧ i = .int .i64 k ∧ Env w [(b10, #[.bool xn, .slice xA xm xc], 78), (b10 + 1, #[.bool yn, .slice yA ym yc], 78), (w.heap.size + 1, #[.int .i64 u0, .int .i64 u1, .int .i64 u2, .int .i64 u3, .int .i64 u4, .int .i64 u5], 33), (w.heap.size, #[.int .i64 u0, .int .i64 u1, .int .i64 u2, .int .i64 u3, .int .i64 u4, .int .i64 u5], 33)] [(yn, yA, ym, yc, sqs (u1 - u0) (u3 - u2) (u5 - u4) k), (xn, xA, xm, xc, 0)] wr) (fun i _ => 3 - (intOf i).toNat)
  case atStart => exact ⟨0, xn, xA, xm, xc, yn, yA, ym, yc, by omega, rfl, HE.out⟩
  case round =>
    clear HE
    obtain ⟨k, xn, xA, xm, xc, yn, yA, ym, yc, hk, rfl, E⟩ := hrel
    have HE := Lib.hid E
    clear E
    have hI := HI.out
    have hc : k = 0 ∨ k = 1 ∨ k = 2 ∨ k = 3 := by omega
    rcases hc with rfl | rfl | rfl | rfl
    · skip
      have e0 : wr.cell? ⟨w.heap.size, 0, none⟩ = some (.int .i64 u0) := HE.out.blks.2.2.2.1.at 0
      have e1 : wr.cell? ⟨w.heap.size, 1, none⟩ = some (.int .i64 u1) := HE.out.blks.2.2.2.1.at 1
      have e2 : wr.cell? ⟨w.heap.size + 1, 0, none⟩ = some (.int .i64 u0) := HE.out.blks.2.2.1.at 0
      have e3 : wr.cell? ⟨w.heap.size + 1, 1, none⟩ = some (.int .i64 u1) := HE.out.blks.2.2.1.at 1
      have hle : u0 ≤ u1 := by omega
      have hw1 : IntKind.i64.wrap (u0 - u1) = u0 - u1 := wrap_i64 _ (by omega) (by omega)
      have hw2 : IntKind.i64.wrap (u1 - u0) = u1 - u0 := wrap_i64 _ (by omega) (by omega)
      have hn1 : ¬ 0 < u0 - u1 := by omega
      go_wp2
      go_quiet (fail)
      have hd : (if u0 - u1 < 0 then 0 else u0 - u1) = 0 := by split <;> omega
      rw [hd]
      have E1 := HE.out.below (below_drewN (Below.refl _ _) nq)
      clear HE e0 e1 e2 e3 hd
      generalize wr.drewN nq = w1 at *
      have HE := Lib.hid E1
      clear E1
      go_wp2_with fail
      refine region_startM (m := 7) (A := fun W' => Env w [(b10 + 1, #[.bool yn, .slice yA ym yc], 78), (w.heap.size + 1, #[.int .i64 u0, .int .i64 u1, .int .i64 u2, .int .i64 u3, .int .i64 u4, .int .i64 u5], 33), (w.heap.size, #[.int .i64 u0, .int .i64 u1, .int .i64 u2, .int .i64 u3, .int .i64 u4, .int .i64 u5], 33)] [(yn, yA, ym, yc, sqs (u1 - u0) (u3 - u2) (u5 - u4) 0), (xn, xA, xm, xc, 0)] W') (B := fun W' => Blk W' b10 #[.bool xn, .slice xA xm xc] 78) (by kernel_rfl) ?_
      intro W hW
      have E := HE.out.drew
      rw [← hW] at E
      clear hW HE
      have hS := And.intro E.drop E.blks.1
      refine wpAnyM_take (i := 0) (v := .agg #[.bool xn, .slice xA xm xc]) rfl (by kernel_rfl) (by kernel_rfl) (by kernel_rfl) rfl rfl (by kernel_rfl) (by kernel_rfl) (fun _ _ _ h => h) (.inl ⟨rfl, fun w0 hw0 => ?a0⟩) hS ?_
      case a0 =>
        have e0 := hw0.2.c0; have e1 := hw0.2.c1
        go_simp
      refine wpAnyM_take (i := 1) (v := .int .i64 0) rfl (by kernel_rfl) (by kernel_rfl) (by kernel_rfl) rfl rfl (by kernel_rfl) (by kernel_rfl) (fun _ _ _ h => h) (.inl ⟨rfl, fun w0 hw0 => ?a1⟩) hS ?_
      case a1 =>
        have e0 := hw0.2.c0; have e1 := hw0.2.c1
        go_simp
      clear hS
      refine wpAnyM_all (rs := [2]) (by kernel_rfl) (by simp) ?_
      intro i0 hi0
      obtain rfl : i0 = 2 := by simpa using hi0
      refine wpOp_plain rfl rfl fun K' hK' => ?_
      go_simp
      refine (square_calls _ 0 (by omega) (by omega)).mono ?_
      rintro e W2 ⟨n1, A1, m1, c1, rfl, h1, hb2⟩
      simp only [Int.mul_zero, fit0] at h1
      replace E := (E.below hb2).wd h1
      clear h1 hb2
      refine hK' _ _ ⟨⟨E.drop.dropN, fun _ => E.blks.1⟩, ?_⟩
      clear hK' K'
      refine wpAnyM_all (rs := [3]) (by kernel_rfl) (by simp) ?_
      intro i0 hi0
      obtain rfl : i0 = 3 := by simpa using hi0
      refine wpOp_plain rfl rfl fun K' hK' => ?_
      go_simp
      refine (Add_calls _ xn n1 xA A1 xm m1 xc c1 0 0 E.wds.2.2.1 E.wds.1).mono ?_
      rintro e W3 ⟨_, rfl, ⟨n2, A2, m2, c2, rfl, h2⟩, hb3⟩
      simp only [Int.add_zero, fit0] at h2
      replace E := (E.dropN.below hb3).wd h2
      clear h2 hb3
      generalize Num.ferr (0 + 0) = er
      refine hK' _ _ ⟨⟨E.drop.dropN, fun _ => E.blks.1⟩, ?_⟩
      clear hK' K'
      have hS := And.intro E.drop.dropN E.blks.1
      refine wpAnyM_take (i := 4) (v := .tuple #[.agg #[.bool n2, .slice A2 m2 c2], .int .i64 er]) rfl (by kernel_rfl) (by kernel_rfl) (by kernel_rfl) rfl rfl (by kernel_rfl) (by kernel_rfl) (fun _ _ _ h => h) (.inl ⟨rfl, fun w0 hw0 => ?a4⟩) hS ?_
      case a4 =>
        have e0 := hw0.2.c0; have e1 := hw0.2.c1
        go_simp
      refine wpAnyM_take (i := 5) (v := .agg #[.bool n2, .slice A2 m2 c2]) rfl (by kernel_rfl) (by kernel_rfl) (by kernel_rfl) rfl rfl (by kernel_rfl) (by kernel_rfl) (fun _ _ _ h => h) (.inl ⟨rfl, fun w0 hw0 => ?a5⟩) hS ?_
      case a5 =>
        have e0 := hw0.2.c0; have e1 := hw0.2.c1
        go_simp
      refine wpAnyM_takeA (i := 6) (v := .int .i64 er) rfl (by kernel_rfl) (by kernel_rfl) (by kernel_rfl) rfl (fun _ _ _ h => h) (.inl ⟨rfl, fun w0 hw0 => ?a6⟩) hS ?_
      case a6 =>
        skip
        go_simp
      clear hS
      have f0 := E.blks.1.c0
      have f1 := E.blks.1.c1
      have f2 := E.blks.1.fr 0
      have f3 := E.blks.1.fr 1
      refine wpAnyM_all (rs := [7]) (by kernel_rfl) (by simp) ?_
      intro i0 hi0
      obtain rfl : i0 = 7 := by simpa using hi0
      refine wpOp_plain rfl rfl fun K' hK' => ?_
      go_simp
      replace E := E.set2 (by omega) (by simp [Free] <;> omega) (.bool n2) (.slice A2 m2 c2)
      clear f0 f1 f2 f3
      generalize (W3.setCell ⟨b10, 0, none⟩ (.bool n2)).setCell ⟨b10, 1, none⟩ (.slice A2 m2 c2) = W4 at *
      refine hK' _ _ ⟨⟨E.drop.dropN, fun h => absurd h (by simp)⟩, wpAnyM_done (by kernel_rfl) ?_ _⟩
      clear hK' K'
      have HE : Hid (Env w [(b10 + 1, #[.bool yn, .slice yA ym yc], 78), (b10, #[.bool n2, .slice A2 m2 c2], 78), (w.heap.size + 1, #[.int .i64 u0, .int .i64 u1, .int .i64 u2, .int .i64 u3, .int .i64 u4, .int .i64 u5], 33), (w.heap.size, #[.int .i64 u0, .int .i64 u1, .int .i64 u2, .int .i64 u3, .int .i64 u4, .int .i64 u5], 33)] [(yn, yA, ym, yc, sqs (u1 - u0) (u3 - u2) (u5 - u4) 0), (n2, A2, m2, c2, 0)] W4) := Lib.hid (by
        obtain ⟨⟨g1, g2, g3⟩, ⟨k1, k2, _⟩, hl⟩ := E
        exact ⟨⟨g2, g1, g3⟩, ⟨k2, k1, trivial⟩, hl⟩)
      clear E
      go_wp2_with fail
      refine region_startM (m := 7) (A := fun W' => Env w [(b10, #[.bool n2, .slice A2 m2 c2], 78), (w.heap.size + 1, #[.int .i64 u0, .int .i64 u1, .int .i64 u2, .int .i64 u3, .int .i64 u4, .int .i64 u5], 33), (w.heap.size, #[.int .i64 u0, .int .i64 u1, .int .i64 u2, .int .i64 u3, .int .i64 u4, .int .i64 u5], 33)] [(yn, yA, ym, yc, sqs (u1 - u0) (u3 - u2) (u5 - u4) 0), (n2, A2, m2, c2, 0)] W') (B := fun W' => Blk W' (b10 + 1) #[.bool yn, .slice yA ym yc] 78) (by kernel_rfl) ?_
      intro W hW
      have E := HE.out.drew
      rw [← hW] at E
      clear hW HE
      have hS := And.intro E.drop E.blks.1
      refine wpAnyM_take (i := 0) (v := .agg #[.bool yn, .slice yA ym yc]) rfl (by kernel_rfl) (by kernel_rfl) (by kernel_rfl) rfl rfl (by kernel_rfl) (by kernel_rfl) (fun _ _ _ h => h) (.inl ⟨rfl, fun w0 hw0 => ?a0⟩) hS ?_
      case a0 =>
        have e0 := hw0.2.c0; have e1 := hw0.2.c1
        go_simp
      refine wpAnyM_take (i := 1) (v := .int .i64 (u1 - u0)) rfl (by kernel_rfl) (by kernel_rfl) (by kernel_rfl) rfl rfl (by kernel_rfl) (by kernel_rfl) (fun _ _ _ h => h) (.inl ⟨rfl, fun w0 hw0 => ?a1⟩) hS ?_
      case a1 =>
        have e0 := hw0.2.c0; have e1 := hw0.2.c1
        go_simp
      clear hS
      refine wpAnyM_all (rs := [2]) (by kernel_rfl) (by simp) ?_
      intro i0 hi0
      obtain rfl : i0 = 2 := by simpa using hi0
      refine wpOp_plain rfl rfl fun K' hK' => ?_
      go_simp
      refine (square_calls _ (u1 - u0) (by omega) (by omega)).mono ?_
      rintro e W5 ⟨n3, A3, m3, c3, rfl, h3, hb5⟩
      replace E := (E.below hb5).wd h3
      clear h3 hb5
      refine hK' _ _ ⟨⟨E.drop.dropN, fun _ => E.blks.1⟩, ?_⟩
      clear hK' K'
      refine wpAnyM_all (rs := [3]) (by kernel_rfl) (by simp) ?_
      intro i0 hi0
      obtain rfl : i0 = 3 := by simpa using hi0
      refine wpOp_plain rfl rfl fun K' hK' => ?_
      go_simp
      refine (Add_calls _ yn n3 yA A3 ym m3 yc c3 (sqs (u1 - u0) (u3 - u2) (u5 - u4) 0) (Num.fit ((u1 - u0) * (u1 - u0))) E.wds.2.1 E.wds.1).mono ?_
      rintro e W6 ⟨_, rfl, ⟨n4, A4, m4, c4, rfl, h4⟩, hb6⟩
      replace E := (E.dropN.below hb6).wd h4
      clear h4 hb6
      obtain ⟨er2, her2⟩ : ∃ er2, er2 = Num.ferr (sqs (u1 - u0) (u3 - u2) (u5 - u4) 0 + Num.fit ((u1 - u0) * (u1 - u0))) := ⟨_, rfl⟩
      rw [← her2]
      clear her2
      refine hK' _ _ ⟨⟨E.drop.dropN, fun _ => E.blks.1⟩, ?_⟩
      clear hK' K'
      have hS := And.intro E.drop.dropN E.blks.1
      refine wpAnyM_take (i := 4) (v := .tuple #[.agg #[.bool n4, .slice A4 m4 c4], .int .i64 er2]) rfl (by kernel_rfl) (by kernel_rfl) (by kernel_rfl) rfl rfl (by kernel_rfl) (by kernel_rfl) (fun _ _ _ h => h) (.inl ⟨rfl, fun w0 hw0 => ?a4⟩) hS ?_
      case a4 =>
        have e0 := hw0.2.c0; have e1 := hw0.2.c1
        go_simp
      refine wpAnyM_take (i := 5) (v := .agg #[.bool n4, .slice A4 m4 c4]) rfl (by kernel_rfl) (by kernel_rfl) (by kernel_rfl) rfl rfl (by kernel_rfl) (by kernel_rfl) (fun _ _ _ h => h) (.inl ⟨rfl, fun w0 hw0 => ?a5⟩) hS ?_
      case a5 =>
        have e0 := hw0.2.c0; have e1 := hw0.2.c1
        go_simp
      refine wpAnyM_takeA (i := 6) (v := .int .i64 er2) rfl (by kernel_rfl) (by kernel_rfl) (by kernel_rfl) rfl (fun _ _ _ h => h) (.inl ⟨rfl, fun w0 hw0 => ?a6⟩) hS ?_
      case a6 =>
        skip
        go_simp
      clear hS
      have f0 := E.blks.1.c0
      have f1 := E.blks.1.c1
      have f2 := E.blks.1.fr 0
      have f3 := E.blks.1.fr 1
      refine wpAnyM_all (rs := [7]) (by kernel_rfl) (by simp) ?_
      intro i0 hi0
      obtain rfl : i0 = 7 := by simpa using hi0
      refine wpOp_plain rfl rfl fun K' hK' => ?_
      go_simp
      replace E := E.set2 (by omega) (by simp [Free] <;> omega) (.bool n4) (.slice A4 m4 c4)
      clear f0 f1 f2 f3
      generalize (W6.setCell ⟨b10 + 1, 0, none⟩ (.bool n4)).setCell ⟨b10 + 1, 1, none⟩ (.slice A4 m4 c4) = W7 at *
      refine hK' _ _ ⟨⟨E.drop.dropN, fun h => absurd h (by simp)⟩, wpAnyM_done (by kernel_rfl) ?_ _⟩
      clear hK' K'
      have HE : Hid (Env w [(b10, #[.bool n2, .slice A2 m2 c2], 78), (b10 + 1, #[.bool n4, .slice A4 m4 c4], 78), (w.heap.size + 1, #[.int .i64 u0, .int .i64 u1, .int .i64 u2, .int .i64 u3, .int .i64 u4, .int .i64 u5], 33), (w.heap.size, #[.int .i64 u0, .int .i64 u1, .int .i64 u2, .int .i64 u3, .int .i64 u4, .int .i64 u5], 33)] [(n4, A4, m4, c4, sqs (u1 - u0) (u3 - u2) (u5 - u4) (0 + 1)), (n2, A2, m2, c2, 0)] W7) := Lib.hid (by
        obtain ⟨⟨g1, g2, g3⟩, ⟨k1, k2, k3, _⟩, hl⟩ := E
        exact ⟨⟨g2, g1, g3⟩, ⟨k1, k3, trivial⟩, hl⟩)
      clear E
      go_wp2
      go_roundw
      case rel => exact ⟨1, n2, A2, m2, c2, n4, A4, m4, c4, by omega, by go_num, HE.out⟩
      case measure => simp [intOf]
    · skip
      have e0 : wr.cell? ⟨w.heap.size, 2, none⟩ = some (.int .i64 u2) := HE.out.blks.2.2.2.1.at 2
      have e1 : wr.cell? ⟨w.heap.size, 3, none⟩ = some (.int .i64 u3) := HE.out.blks.2.2.2.1.at 3
      have e2 : wr.cell? ⟨w.heap.size + 1, 2, none⟩ = some (.int .i64 u2) := HE.out.blks.2.2.1.at 2
      have e3 : wr.cell? ⟨w.heap.size + 1, 3, none⟩ = some (.int .i64 u3) := HE.out.blks.2.2.1.at 3
      have hle : u2 ≤ u3 := by omega
      have hw1 : IntKind.i64.wrap (u2 - u3) = u2 - u3 := wrap_i64 _ (by omega) (by omega)
      have hw2 : IntKind.i64.wrap (u3 - u2) = u3 - u2 := wrap_i64 _ (by omega) (by omega)
      have hn1 : ¬ 0 < u2 - u3 := by omega
      go_wp2
      go_quiet (fail)
      have hd : (if u2 - u3 < 0 then 0 else u2 - u3) = 0 := by split <;> omega
      rw [hd]
      have E1 := HE.out.below (below_drewN (Below.refl _ _) nq)
      clear HE e0 e1 e2 e3 hd
      generalize wr.drewN nq = w1 at *
      have HE := Lib.hid E1
      clear E1
      go_wp2_with fail
      refine region_startM (m := 7) (A := fun W' => Env w [(b10 + 1, #[.bool yn, .slice yA ym yc], 78), (w.heap.size + 1, #[.int .i64 u0, .int .i64 u1, .int .i64 u2, .int .i64 u3, .int .i64 u4, .int .i64 u5], 33), (w.heap.size, #[.int .i64 u0, .int .i64 u1, .int .i64 u2, .int .i64 u3, .int .i64 u4, .int .i64 u5], 33)] [(yn, yA, ym, yc, sqs (u1 - u0) (u3 - u2) (u5 - u4) 1), (xn, xA, xm, xc, 0)] W') (B := fun W' => Blk W' b10 #[.bool xn, .slice xA xm xc] 78) (by kernel_rfl) ?_
      intro W hW
      have E := HE.out.drew
      rw [← hW] at E
      clear hW HE
      have hS := And.intro E.drop E.blks.1
      refine wpAnyM_take (i := 0) (v := .agg #[.bool xn, .slice xA xm xc]) rfl (by kernel_rfl) (by kernel_rfl) (by kernel_rfl) rfl rfl (by kernel_rfl) (by kernel_rfl) (fun _ _ _ h => h) (.inl ⟨rfl, fun w0 hw0 => ?a0⟩) hS ?_
      case a0 =>
        have e0 := hw0.2.c0; have e1 := hw0.2.c1
        go_simp
      refine wpAnyM_take (i := 1) (v := .int .i64 0) rfl (by kernel_rfl) (by kernel_rfl) (by kernel_rfl) rfl rfl (by kernel_rfl) (by kernel_rfl) (fun _ _ _ h => h) (.inl ⟨rfl, fun w0 hw0 => ?a1⟩) hS ?_
      case a1 =>
        have e0 := hw0.2.c0; have e1 := hw0.2.c1
        go_simp
      clear hS
      refine wpAnyM_all (rs := [2]) (by kernel_rfl) (by simp) ?_
      intro i0 hi0
      obtain rfl : i0 = 2 := by simpa using hi0
      refine wpOp_plain rfl rfl fun K' hK' => ?_
      go_simp
      refine (square_calls _ 0 (by omega) (by omega)).mono ?_
      rintro e W2 ⟨n1, A1, m1, c1, rfl, h1, hb2⟩
      simp only [Int.mul_zero, fit0] at h1
      replace E := (E.below hb2).wd h1
      clear h1 hb2
      refine hK' _ _ ⟨⟨E.drop.dropN, fun _ => E.blks.1⟩, ?_⟩
      clear hK' K'
      refine wpAnyM_all (rs := [3]) (by kernel_rfl) (by simp) ?_
      intro i0 hi0
      obtain rfl : i0 = 3 := by simpa using hi0
      refine wpOp_plain rfl rfl fun K' hK' => ?_
      go_simp
      refine (Add_calls _ xn n1 xA A1 xm m1 xc c1 0 0 E.wds.2.2.1 E.wds.1).mono ?_
      rintro e W3 ⟨_, rfl, ⟨n2, A2, m2, c2, rfl, h2⟩, hb3⟩
      simp only [Int.add_zero, fit0] at h2
      replace E := (E.dropN.below hb3).wd h2
      clear h2 hb3
      generalize Num.ferr (0 + 0) = er
      refine hK' _ _ ⟨⟨E.drop.dropN, fun _ => E.blks.1⟩, ?_⟩
      clear hK' K'
      have hS := And.intro E.drop.dropN E.blks.1
      refine wpAnyM_take (i := 4) (v := .tuple #[.agg #[.bool n2, .slice A2 m2 c2], .int .i64 er]) rfl (by kernel_rfl) (by kernel_rfl) (by kernel_rfl) rfl rfl (by kernel_rfl) (by kernel_rfl) (fun _ _ _ h => h) (.inl ⟨rfl, fun w0 hw0 => ?a4⟩) hS ?_
      case a4 =>
        have e0 := hw0.2.c0; have e1 := hw0.2.c1
        go_simp
      refine wpAnyM_take (i := 5) (v := .agg #[.bool n2, .slice A2 m2 c2]) rfl (by kernel_rfl) (by kernel_rfl) (by kernel_rfl) rfl rfl (by kernel_rfl) (by kernel_rfl) (fun _ _ _ h => h) (.inl ⟨rfl, fun w0 hw0 => ?a5⟩) hS ?_
      case a5 =>
        have e0 := hw0.2.c0; have e1 := hw0.2.c1
        go_simp
      refine wpAnyM_takeA (i := 6) (v := .int .i64 er) rfl (by kernel_rfl) (by kernel_rfl) (by kernel_rfl) rfl (fun _ _ _ h => h) (.inl ⟨rfl, fun w0 hw0 => ?a6⟩) hS ?_
      case a6 =>
        skip
        go_simp
      clear hS
      have f0 := E.blks.1.c0
      have f1 := E.blks.1.c1
      have f2 := E.blks.1.fr 0
      have f3 := E.blks.1.fr 1
      refine wpAnyM_all (rs := [7]) (by kernel_rfl) (by simp) ?_
      intro i0 hi0
      obtain rfl : i0 = 7 := by simpa using hi0
      refine wpOp_plain rfl rfl fun K' hK' => ?_
      go_simp
      replace E := E.set2 (by omega) (by simp [Free] <;> omega) (.bool n2) (.slice A2 m2 c2)
      clear f0 f1 f2 f3
      generalize (W3.setCell ⟨b10, 0, none⟩ (.bool n2)).setCell ⟨b10, 1, none⟩ (.slice A2 m2 c2) = W4 at *
      refine hK' _ _ ⟨⟨E.drop.dropN, fun h => absurd h (by simp)⟩, wpAnyM_done (by kernel_rfl) ?_ _⟩
      clear hK' K'
      have HE : Hid (Env w [(b10 + 1, #[.bool yn, .slice yA ym yc], 78), (b10, #[.bool n2, .slice A2 m2 c2], 78), (w.heap.size + 1, #[.int .i64 u0, .int .i64 u1, .int .i64 u2, .int .i64 u3, .int .i64 u4, .int .i64 u5], 33), (w.heap.size, #[.int .i64 u0, .int .i64 u1, .int .i64 u2, .int .i64 u3, .int .i64 u4, .int .i64 u5], 33)] [(yn, yA, ym, yc, sqs (u1 - u0) (u3 - u2) (u5 - u4) 1), (n2, A2, m2, c2, 0)] W4) := Lib.hid (by
        obtain ⟨⟨g1, g2, g3⟩, ⟨k1, k2, _⟩, hl⟩ := E
        exact ⟨⟨g2, g1, g3⟩, ⟨k2, k1, trivial⟩, hl⟩)
      clear E
      go_wp2_with fail
      refine region_startM (m := 7) (A := fun W' => Env w [(b10, #[.bool n2, .slice A2 m2 c2], 78), (w.heap.size + 1, #[.int .i64 u0, .int .i64 u1, .int .i64 u2, .int .i64 u3, .int .i64 u4, .int .i64 u5], 33), (w.heap.size, #[.int .i64 u0, .int .i64 u1, .int .i64 u2, .int .i64 u3, .int .i64 u4, .int .i64 u5], 33)] [(yn, yA, ym, yc, sqs (u1 - u0) (u3 - u2) (u5 - u4) 1), (n2, A2, m2, c2, 0)] W') (B := fun W' => Blk W' (b10 + 1) #[.bool yn, .slice yA ym yc] 78) (by kernel_rfl) ?_
      intro W hW
      have E := HE.out.drew
      rw [← hW] at E
      clear hW HE
      have hS := And.intro E.drop E.blks.1
      refine wpAnyM_take (i := 0) (v := .agg #[.bool yn, .slice yA ym yc]) rfl (by kernel_rfl) (by kernel_rfl) (by kernel_rfl) rfl rfl (by kernel_rfl) (by kernel_rfl) (fun _ _ _ h => h) (.inl ⟨rfl, fun w0 hw0 => ?a0⟩) hS ?_
      case a0 =>
        have e0 := hw0.2.c0; have e1 := hw0.2.c1
        go_simp
      refine wpAnyM_take (i := 1) (v := .int .i64 (u3 - u2)) rfl (by kernel_rfl) (by kernel_rfl) (by kernel_rfl) rfl rfl (by kernel_rfl) (by kernel_rfl) (fun _ _ _ h => h) (.inl ⟨rfl, fun w0 hw0 => ?a1⟩) hS ?_
      case a1 =>
        have e0 := hw0.2.c0; have e1 := hw0.2.c1
        go_simp
      clear hS
      refine wpAnyM_all (rs := [2]) (by kernel_rfl) (by simp) ?_
      intro i0 hi0
      obtain rfl : i0 = 2 := by simpa using hi0
      refine wpOp_plain rfl rfl fun K' hK' => ?_
      go_simp
      refine (square_calls _ (u3 - u2) (by omega) (by omega)).mono ?_
      rintro e W5 ⟨n3, A3, m3, c3, rfl, h3, hb5⟩
      replace E := (E.below hb5).wd h3
      clear h3 hb5
      refine hK' _ _ ⟨⟨E.drop.dropN, fun _ => E.blks.1⟩, ?_⟩
      clear hK' K'
      refine wpAnyM_all (rs := [3]) (by kernel_rfl) (by simp) ?_
      intro i0 hi0
      obtain rfl : i0 = 3 := by simpa using hi0
      refine wpOp_plain rfl rfl fun K' hK' => ?_
      go_simp
      refine (Add_calls _ yn n3 yA A3 ym m3 yc c3 (sqs (u1 - u0) (u3 - u2) (u5 - u4) 1) (Num.fit ((u3 - u2) * (u3 - u2))) E.wds.2.1 E.wds.1).mono ?_
      rintro e W6 ⟨_, rfl, ⟨n4, A4, m4, c4, rfl, h4⟩, hb6⟩
      replace E := (E.dropN.below hb6).wd h4
      clear h4 hb6
      obtain ⟨er2, her2⟩ : ∃ er2, er2 = Num.ferr (sqs (u1 - u0) (u3 - u2) (u5 - u4) 1 + Num.fit ((u3 - u2) * (u3 - u2))) := ⟨_, rfl⟩
      rw [← her2]
      clear her2
      refine hK' _ _ ⟨⟨E.drop.dropN, fun _ => E.blks.1⟩, ?_⟩
      clear hK' K'
      have hS := And.intro E.drop.dropN E.blks.1
      refine wpAnyM_take (i := 4) (v := .tuple #[.agg #[.bool n4, .slice A4 m4 c4], .int .i64 er2]) rfl (by kernel_rfl) (by kernel_rfl) (by kernel_rfl) rfl rfl (by kernel_rfl) (by kernel_rfl) (fun _ _ _ h => h) (.inl ⟨rfl, fun w0 hw0 => ?a4⟩) hS ?_
      case a4 =>
        have e0 := hw0.2.c0; have e1 := hw0.2.c1
        go_simp
      refine wpAnyM_take (i := 5) (v := .agg #[.bool n4, .slice A4 m4 c4]) rfl (by kernel_rfl) (by kernel_rfl) (by kernel_rfl) rfl rfl (by kernel_rfl) (by kernel_rfl) (fun _ _ _ h => h) (.inl ⟨rfl, fun w0 hw0 => ?a5⟩) hS ?_
      case a5 =>
        have e0 := hw0.2.c0; have e1 := hw0.2.c1
        go_simp
      refine wpAnyM_takeA (i := 6) (v := .int .i64 er2) rfl (by kernel_rfl) (by kernel_rfl) (by kernel_rfl) rfl (fun _ _ _ h => h) (.inl ⟨rfl, fun w0 hw0 => ?a6⟩) hS ?_
      case a6 =>
        skip
        go_simp
      clear hS
      have f0 := E.blks.1.c0
      have f1 := E.blks.1.c1
      have f2 := E.blks.1.fr 0
      have f3 := E.blks.1.fr 1
      refine wpAnyM_all (rs := [7]) (by kernel_rfl) (by simp) ?_
      intro i0 hi0
      obtain rfl : i0 = 7 := by simpa using hi0
      refine wpOp_plain rfl rfl fun K' hK' => ?_
      go_simp
      replace E := E.set2 (by omega) (by simp [Free] <;> omega) (.bool n4) (.slice A4 m4 c4)
      clear f0 f1 f2 f3
      generalize (W6.setCell ⟨b10 + 1, 0, none⟩ (.bool n4)).setCell ⟨b10 + 1, 1, none⟩ (.slice A4 m4 c4) = W7 at *
      refine hK' _ _ ⟨⟨E.drop.dropN, fun h => absurd h (by simp)⟩, wpAnyM_done (by kernel_rfl) ?_ _⟩
      clear hK' K'
      have HE : Hid (Env w [(b10, #[.bool n2, .slice A2 m2 c2], 78), (b10 + 1, #[.bool n4, .slice A4 m4 c4], 78), (w.heap.size + 1, #[.int .i64 u0, .int .i64 u1, .int .i64 u2, .int .i64 u3, .int .i64 u4, .int .i64 u5], 33), (w.heap.size, #[.int .i64 u0, .int .i64 u1, .int .i64 u2, .int .i64 u3, .int .i64 u4, .int .i64 u5], 33)] [(n4, A4, m4, c4, sqs (u1 - u0) (u3 - u2) (u5 - u4) (1 + 1)), (n2, A2, m2, c2, 0)] W7) := Lib.hid (by
        obtain ⟨⟨g1, g2, g3⟩, ⟨k1, k2, k3, _⟩, hl⟩ := E
        exact ⟨⟨g2, g1, g3⟩, ⟨k1, k3, trivial⟩, hl⟩)
      clear E
      go_wp2
      go_roundw
      case rel => exact ⟨2, n2, A2, m2, c2, n4, A4, m4, c4, by omega, by go_num, HE.out⟩
      case measure => simp [intOf]
    · skip
      have e0 : wr.cell? ⟨w.heap.size, 4, none⟩ = some (.int .i64 u4) := HE.out.blks.2.2.2.1.at 4
      have e1 : wr.cell? ⟨w.heap.size, 5, none⟩ = some (.int .i64 u5) := HE.out.blks.2.2.2.1.at 5
      have e2 : wr.cell? ⟨w.heap.size + 1, 4, none⟩ = some (.int .i64 u4) := HE.out.blks.2.2.1.at 4
      have e3 : wr.cell? ⟨w.heap.size + 1, 5, none⟩ = some (.int .i64 u5) := HE.out.blks.2.2.1.at 5
      have hle : u4 ≤ u5 := by omega
      have hw1 : IntKind.i64.wrap (u4 - u5) = u4 - u5 := wrap_i64 _ (by omega) (by omega)
      have hw2 : IntKind.i64.wrap (u5 - u4) = u5 - u4 := wrap_i64 _ (by omega) (by omega)
      have hn1 : ¬ 0 < u4 - u5 := by omega
      go_wp2
      go_quiet (fail)
      have hd : (if u4 - u5 < 0 then 0 else u4 - u5) = 0 := by split <;> omega
      rw [hd]
      have E1 := HE.out.below (below_drewN (Below.refl _ _) nq)
      clear HE e0 e1 e2 e3 hd
      generalize wr.drewN nq = w1 at *
      have HE := Lib.hid E1
      clear E1
      go_wp2_with fail
      refine region_startM (m := 7) (A := fun W' => Env w [(b10 + 1, #[.bool yn, .slice yA ym yc], 78), (w.heap.size + 1, #[.int .i64 u0, .int .i64 u1, .int .i64 u2, .int .i64 u3, .int .i64 u4, .int .i64 u5], 33), (w.heap.size, #[.int .i64 u0, .int .i64 u1, .int .i64 u2, .int .i64 u3, .int .i64 u4, .int .i64 u5], 33)] [(yn, yA, ym, yc, sqs (u1 - u0) (u3 - u2) (u5 - u4) 2), (xn, xA, xm, xc, 0)] W') (B := fun W' => Blk W' b10 #[.bool xn, .slice xA xm xc] 78) (by kernel_rfl) ?_
      intro W hW
      have E := HE.out.drew
      rw [← hW] at E
      clear hW HE
      have hS := And.intro E.drop E.blks.1
      refine wpAnyM_take (i := 0) (v := .agg #[.bool xn, .slice xA xm xc]) rfl (by kernel_rfl) (by kernel_rfl) (by kernel_rfl) rfl rfl (by kernel_rfl) (by kernel_rfl) (fun _ _ _ h => h) (.inl ⟨rfl, fun w0 hw0 => ?a0⟩) hS ?_
      case a0 =>
        have e0 := hw0.2.c0; have e1 := hw0.2.c1
        go_simp
      refine wpAnyM_take (i := 1) (v := .int .i64 0) rfl (by kernel_rfl) (by kernel_rfl) (by kernel_rfl) rfl rfl (by kernel_rfl) (by kernel_rfl) (fun _ _ _ h => h) (.inl ⟨rfl, fun w0 hw0 => ?a1⟩) hS ?_
      case a1 =>
        have e0 := hw0.2.c0; have e1 := hw0.2.c1
        go_simp
      clear hS
      refine wpAnyM_all (rs := [2]) (by kernel_rfl) (by simp) ?_
      intro i0 hi0
      obtain rfl : i0 = 2 := by simpa using hi0
      refine wpOp_plain rfl rfl fun K' hK' => ?_
      go_simp
      refine (square_calls _ 0 (by omega) (by omega)).mono ?_
      rintro e W2 ⟨n1, A1, m1, c1, rfl, h1, hb2⟩
      simp only [Int.mul_zero, fit0] at h1
      replace E := (E.below hb2).wd h1
      clear h1 hb2
      refine hK' _ _ ⟨⟨E.drop.dropN, fun _ => E.blks.1⟩, ?_⟩
      clear hK' K'
      refine wpAnyM_all (rs := [3]) (by kernel_rfl) (by simp) ?_
      intro i0 hi0
      obtain rfl : i0 = 3 := by simpa using hi0
      refine wpOp_plain rfl rfl fun K' hK' => ?_
      go_simp
      refine (Add_calls _ xn n1 xA A1 xm m1 xc c1 0 0 E.wds.2.2.1 E.wds.1).mono ?_
      rintro e W3 ⟨_, rfl, ⟨n2, A2, m2, c2, rfl, h2⟩, hb3⟩
      simp only [Int.add_zero, fit0] at h2
      replace E := (E.dropN.below hb3).wd h2
      clear h2 hb3
      generalize Num.ferr (0 + 0) = er
      refine hK' _ _ ⟨⟨E.drop.dropN, fun _ => E.blks.1⟩, ?_⟩
      clear hK' K'
      have hS := And.intro E.drop.dropN E.blks.1
      refine wpAnyM_take (i := 4) (v := .tuple #[.agg #[.bool n2, .slice A2 m2 c2], .int .i64 er]) rfl (by kernel_rfl) (by kernel_rfl) (by kernel_rfl) rfl rfl (by kernel_rfl) (by kernel_rfl) (fun _ _ _ h => h) (.inl ⟨rfl, fun w0 hw0 => ?a4⟩) hS ?_
      case a4 =>
        have e0 := hw0.2.c0; have e1 := hw0.2.c1
        go_simp
      refine wpAnyM_take (i := 5) (v := .agg #[.bool n2, .slice A2 m2 c2]) rfl (by kernel_rfl) (by kernel_rfl) (by kernel_rfl) rfl rfl (by kernel_rfl) (by kernel_rfl) (fun _ _ _ h => h) (.inl ⟨rfl, fun w0 hw0 => ?a5⟩) hS ?_
      case a5 =>
        have e0 := hw0.2.c0; have e1 := hw0.2.c1
        go_simp
      refine wpAnyM_takeA (i := 6) (v := .int .i64 er) rfl (by kernel_rfl) (by kernel_rfl) (by kernel_rfl) rfl (fun _ _ _ h => h) (.inl ⟨rfl, fun w0 hw0 => ?a6⟩) hS ?_
      case a6 =>
        skip
        go_simp
      clear hS
      have f0 := E.blks.1.c0
      have f1 := E.blks.1.c1
      have f2 := E.blks.1.fr 0
      have f3 := E.blks.1.fr 1
      refine wpAnyM_all (rs := [7]) (by kernel_rfl) (by simp) ?_
      intro i0 hi0
      obtain rfl : i0 = 7 := by simpa using hi0
      refine wpOp_plain rfl rfl fun K' hK' => ?_
      go_simp
      replace E := E.set2 (by omega) (by simp [Free] <;> omega) (.bool n2) (.slice A2 m2 c2)
      clear f0 f1 f2 f3
      generalize (W3.setCell ⟨b10, 0, none⟩ (.bool n2)).setCell ⟨b10, 1, none⟩ (.slice A2 m2 c2) = W4 at *
      refine hK' _ _ ⟨⟨E.drop.dropN, fun h => absurd h (by simp)⟩, wpAnyM_done (by kernel_rfl) ?_ _⟩
      clear hK' K'
      have HE : Hid (Env w [(b10 + 1, #[.bool yn, .slice yA ym yc], 78), (b10, #[.bool n2, .slice A2 m2 c2], 78), (w.heap.size + 1, #[.int .i64 u0, .int .i64 u1, .int .i64 u2, .int .i64 u3, .int .i64 u4, .int .i64 u5], 33), (w.heap.size, #[.int .i64 u0, .int .i64 u1, .int .i64 u2, .int .i64 u3, .int .i64 u4, .int .i64 u5], 33)] [(yn, yA, ym, yc, sqs (u1 - u0) (u3 - u2) (u5 - u4) 2), (n2, A2, m2, c2, 0)] W4) := Lib.hid (by
        obtain ⟨⟨g1, g2, g3⟩, ⟨k1, k2, _⟩, hl⟩ := E
        exact ⟨⟨g2, g1, g3⟩, ⟨k2, k1, trivial⟩, hl⟩)
      clear E
      go_wp2_with fail
      refine region_startM (m := 7) (A := fun W' => Env w [(b10, #[.bool n2, .slice A2 m2 c2], 78), (w.heap.size + 1, #[.int .i64 u0, .int .i64 u1, .int .i64 u2, .int .i64 u3, .int .i64 u4, .int .i64 u5], 33), (w.heap.size, #[.int .i64 u0, .int .i64 u1, .int .i64 u2, .int .i64 u3, .int .i64 u4, .int .i64 u5], 33)] [(yn, yA, ym, yc, sqs (u1 - u0) (u3 - u2) (u5 - u4) 2), (n2, A2, m2, c2, 0)] W') (B := fun W' => Blk W' (b10 + 1) #[.bool yn, .slice yA ym yc] 78) (by kernel_rfl) ?_
      intro W hW
      have E := HE.out.drew
      rw [← hW] at E
      clear hW HE
      have hS := And.intro E.drop E.blks.1
      refine wpAnyM_take (i := 0) (v := .agg #[.bool yn, .slice yA ym yc]) rfl (by kernel_rfl) (by kernel_rfl) (by kernel_rfl) rfl rfl (by kernel_rfl) (by kernel_rfl) (fun _ _ _ h => h) (.inl ⟨rfl, fun w0 hw0 => ?a0⟩) hS ?_
      case a0 =>
        have e0 := hw0.2.c0; have e1 := hw0.2.c1
        go_simp
      refine wpAnyM_take (i := 1) (v := .int .i64 (u5 - u4)) rfl (by kernel_rfl) (by kernel_rfl) (by kernel_rfl) rfl rfl (by kernel_rfl) (by kernel_rfl) (fun _ _ _ h => h) (.inl ⟨rfl, fun w0 hw0 => ?a1⟩) hS ?_
      case a1 =>
        have e0 := hw0.2.c0; have e1 := hw0.2.c1
        go_simp
      clear hS
      refine wpAnyM_all (rs := [2]) (by kernel_rfl) (by simp) ?_
      intro i0 hi0
      obtain rfl : i0 = 2 := by simpa using hi0
      refine wpOp_plain rfl rfl fun K' hK' => ?_
      go_simp
      refine (square_calls _ (u5 - u4) (by omega) (by omega)).mono ?_
      rintro e W5 ⟨n3, A3, m3, c3, rfl, h3, hb5⟩
      replace E := (E.below hb5).wd h3
      clear h3 hb5
      refine hK' _ _ ⟨⟨E.drop.dropN, fun _ => E.blks.1⟩, ?_⟩
      clear hK' K'
      refine wpAnyM_all (rs := [3]) (by kernel_rfl) (by simp) ?_
      intro i0 hi0
      obtain rfl : i0 = 3 := by simpa using hi0
      refine wpOp_plain rfl rfl fun K' hK' => ?_
      go_simp
      refine (Add_calls _ yn n3 yA A3 ym m3 yc c3 (sqs (u1 - u0) (u3 - u2) (u5 - u4) 2) (Num.fit ((u5 - u4) * (u5 - u4))) E.wds.2.1 E.wds.1).mono ?_
      rintro e W6 ⟨_, rfl, ⟨n4, A4, m4, c4, rfl, h4⟩, hb6⟩
      replace E := (E.dropN.below hb6).wd h4
      clear h4 hb6
      obtain ⟨er2, her2⟩ : ∃ er2, er2 = Num.ferr (sqs (u1 - u0) (u3 - u2) (u5 - u4) 2 + Num.fit ((u5 - u4) * (u5 - u4))) := ⟨_, rfl⟩
      rw [← her2]
      clear her2
      refine hK' _ _ ⟨⟨E.drop.dropN, fun _ => E.blks.1⟩, ?_⟩
      clear hK' K'
      have hS := And.intro E.drop.dropN E.blks.1
      refine wpAnyM_take (i := 4) (v := .tuple #[.agg #[.bool n4, .slice A4 m4 c4], .int .i64 er2]) rfl (by kernel_rfl) (by kernel_rfl) (by kernel_rfl) rfl rfl (by kernel_rfl) (by kernel_rfl) (fun _ _ _ h => h) (.inl ⟨rfl, fun w0 hw0 => ?a4⟩) hS ?_
      case a4 =>
        have e0 := hw0.2.c0; have e1 := hw0.2.c1
        go_simp
      refine wpAnyM_take (i := 5) (v := .agg #[.bool n4, .slice A4 m4 c4]) rfl (by kernel_rfl) (by kernel_rfl) (by kernel_rfl) rfl rfl (by kernel_rfl) (by kernel_rfl) (fun _ _ _ h => h) (.inl ⟨rfl, fun w0 hw0 => ?a5⟩) hS ?_
      case a5 =>
        have e0 := hw0.2.c0; have e1 := hw0.2.c1
        go_simp
      refine wpAnyM_takeA (i := 6) (v := .int .i64 er2) rfl (by kernel_rfl) (by kernel_rfl) (by kernel_rfl) rfl (fun _ _ _ h => h) (.inl ⟨rfl, fun w0 hw0 => ?a6⟩) hS ?_
      case a6 =>
        skip
        go_simp
      clear hS
      have f0 := E.blks.1.c0
      have f1 := E.blks.1.c1
      have f2 := E.blks.1.fr 0
      have f3 := E.blks.1.fr 1
      refine wpAnyM_all (rs := [7]) (by kernel_rfl) (by simp) ?_
      intro i0 hi0
      obtain rfl : i0 = 7 := by simpa using hi0
      refine wpOp_plain rfl rfl fun K' hK' => ?_
      go_simp
      replace E := E.set2 (by omega) (by simp [Free] <;> omega) (.bool n4) (.slice A4 m4 c4)
      clear f0 f1 f2 f3
      generalize (W6.setCell ⟨b10 + 1, 0, none⟩ (.bool n4)).setCell ⟨b10 + 1, 1, none⟩ (.slice A4 m4 c4) = W7 at *
      refine hK' _ _ ⟨⟨E.drop.dropN, fun h => absurd h (by simp)⟩, wpAnyM_done (by kernel_rfl) ?_ _⟩
      clear hK' K'
      have HE : Hid (Env w [(b10, #[.bool n2, .slice A2 m2 c2], 78), (b10 + 1, #[.bool n4, .slice A4 m4 c4], 78), (w.heap.size + 1, #[.int .i64 u0, .int .i64 u1, .int .i64 u2, .int .i64 u3, .int .i64 u4, .int .i64 u5], 33), (w.heap.size, #[.int .i64 u0, .int .i64 u1, .int .i64 u2, .int .i64 u3, .int .i64 u4, .int .i64 u5], 33)] [(n4, A4, m4, c4, sqs (u1 - u0) (u3 - u2) (u5 - u4) (2 + 1)), (n2, A2, m2, c2, 0)] W7) := Lib.hid (by
        obtain ⟨⟨g1, g2, g3⟩, ⟨k1, k2, k3, _⟩, hl⟩ := E
        exact ⟨⟨g2, g1, g3⟩, ⟨k1, k3, trivial⟩, hl⟩)
      clear E
      go_wp2
      go_roundw
      case rel => exact ⟨3, n2, A2, m2, c2, n4, A4, m4, c4, by omega, by go_num, HE.out⟩
      case measure => simp [intOf]
    · have hsb := HSB.out
      have hw1 : IntKind.i64.wrap (2 * sl) = 2 * sl := wrap_i64 _ (by omega) (by omega)
      have hw2 : IntKind.i64.wrap (2 * sh) = 2 * sh := wrap_i64 _ (by omega) (by omega)
      have hr1 : -9223372036854775808 ≤ 2 * sl ∧ 2 * sl < 9223372036854775808 := by omega
      have hr2 : -9223372036854775808 ≤ 2 * sh ∧ 2 * sh < 9223372036854775808 := by omega
      clear hsb hI
      go_wp2_with fail
      go_at_call 43
      refine (CS.out _).mono ?_
      rintro e W2 ⟨rfl, hb2⟩
      replace HE := Lib.hid (HE.out.below hb2)
      clear hb2
      go_wp2_with fail
      have E := HE.out.alloc #[.int .i64 sl, .int .i64 sh] 31
      clear HE
      generalize W2.alloc (.cells #[.int .i64 sl, .int .i64 sh] 31) = V2 at *
      generalize W2.heap.size = b15 at *
      have HE := Lib.hid E
      clear E
      refine region_start (S := fun W' => Env w [(b15, #[.int .i64 sl, .int .i64 sh], 31), (b10, #[.bool xn, .slice xA xm xc], 78), (b10 + 1, #[.bool yn, .slice yA ym yc], 78), (w.heap.size + 1, #[.int .i64 u0, .int .i64 u1, .int .i64 u2, .int .i64 u3, .int .i64 u4, .int .i64 u5], 33), (w.heap.size, #[.int .i64 u0, .int .i64 u1, .int .i64 u2, .int .i64 u3, .int .i64 u4, .int .i64 u5], 33)] [(yn, yA, ym, yc, sqs (u1 - u0) (u3 - u2) (u5 - u4) 3), (xn, xA, xm, xc, 0)] W') (by kernel_rfl) ?_
      intro W hW
      have E := HE.out.drew
      rw [← hW] at E
      clear hW HE
      have hS := E
      refine wpAnyH_take (i := 0) (v := .agg #[.bool yn, .slice yA ym yc]) rfl (by kernel_rfl) (by kernel_rfl) (by kernel_rfl) (fun _ _ _ h => h) (.inl ⟨rfl, fun w0 hw0 => ?a0⟩) hS ?_
      case a0 =>
        have g := hw0.blks; have e0 : w0.cell? ⟨b15, 0, none⟩ = some (.int .i64 sl) := g.1.at 0; have e1 : w0.cell? ⟨b15, 1, none⟩ = some (.int .i64 sh) := g.1.at 1; have e2 := g.2.1.c0; have e3 := g.2.1.c1; have e4 := g.2.2.1.c0; have e5 := g.2.2.1.c1
        go_simp
      refine wpAnyH_take (i := 1) (v := .pointer (some ⟨b15, 0, none⟩)) rfl (by kernel_rfl) (by kernel_rfl) (by kernel_rfl) (fun _ _ _ h => h) (.inl ⟨rfl, fun w0 hw0 => ?a1⟩) hS ?_
      case a1 =>
        have g := hw0.blks; have e0 : w0.cell? ⟨b15, 0, none⟩ = some (.int .i64 sl) := g.1.at 0; have e1 : w0.cell? ⟨b15, 1, none⟩ = some (.int .i64 sh) := g.1.at 1; have e2 := g.2.1.c0; have e3 := g.2.1.c1; have e4 := g.2.2.1.c0; have e5 := g.2.2.1.c1
        go_simp
      refine wpAnyH_take (i := 2) (v := .int .i64 sl) rfl (by kernel_rfl) (by kernel_rfl) (by kernel_rfl) (fun _ _ _ h => h) (.inl ⟨rfl, fun w0 hw0 => ?a2⟩) hS ?_
      case a2 =>
        have g := hw0.blks; have e0 : w0.cell? ⟨b15, 0, none⟩ = some (.int .i64 sl) := g.1.at 0; have e1 : w0.cell? ⟨b15, 1, none⟩ = some (.int .i64 sh) := g.1.at 1; have e2 := g.2.1.c0; have e3 := g.2.1.c1; have e4 := g.2.2.1.c0; have e5 := g.2.2.1.c1
        go_simp
      refine wpAnyH_take (i := 3) (v := .int .i64 (2 * sl)) rfl (by kernel_rfl) (by kernel_rfl) (by kernel_rfl) (fun _ _ _ h => h) (.inl ⟨rfl, fun w0 hw0 => ?a3⟩) hS ?_
      case a3 =>
        have g := hw0.blks; have e0 : w0.cell? ⟨b15, 0, none⟩ = some (.int .i64 sl) := g.1.at 0; have e1 : w0.cell? ⟨b15, 1, none⟩ = some (.int .i64 sh) := g.1.at 1; have e2 := g.2.1.c0; have e3 := g.2.1.c1; have e4 := g.2.2.1.c0; have e5 := g.2.2.1.c1
        go_simp
      refine wpAnyH_take (i := 6) (v := .agg #[.bool xn, .slice xA xm xc]) rfl (by kernel_rfl) (by kernel_rfl) (by kernel_rfl) (fun _ _ _ h => h) (.inl ⟨rfl, fun w0 hw0 => ?a6⟩) hS ?_
      case a6 =>
        have g := hw0.blks; have e0 : w0.cell? ⟨b15, 0, none⟩ = some (.int .i64 sl) := g.1.at 0; have e1 : w0.cell? ⟨b15, 1, none⟩ = some (.int .i64 sh) := g.1.at 1; have e2 := g.2.1.c0; have e3 := g.2.1.c1; have e4 := g.2.2.1.c0; have e5 := g.2.2.1.c1
        go_simp
      refine wpAnyH_take (i := 7) (v := .pointer (some ⟨b15, 1, none⟩)) rfl (by kernel_rfl) (by kernel_rfl) (by kernel_rfl) (fun _ _ _ h => h) (.inl ⟨rfl, fun w0 hw0 => ?a7⟩) hS ?_
      case a7 =>
        have g := hw0.blks; have e0 : w0.cell? ⟨b15, 0, none⟩ = some (.int .i64 sl) := g.1.at 0; have e1 : w0.cell? ⟨b15, 1, none⟩ = some (.int .i64 sh) := g.1.at 1; have e2 := g.2.1.c0; have e3 := g.2.1.c1; have e4 := g.2.2.1.c0; have e5 := g.2.2.1.c1
        go_simp
      refine wpAnyH_take (i := 8) (v := .int .i64 sh) rfl (by kernel_rfl) (by kernel_rfl) (by kernel_rfl) (fun _ _ _ h => h) (.inl ⟨rfl, fun w0 hw0 => ?a8⟩) hS ?_
      case a8 =>
        have g := hw0.blks; have e0 : w0.cell? ⟨b15, 0, none⟩ = some (.int .i64 sl) := g.1.at 0; have e1 : w0.cell? ⟨b15, 1, none⟩ = some (.int .i64 sh) := g.1.at 1; have e2 := g.2.1.c0; have e3 := g.2.1.c1; have e4 := g.2.2.1.c0; have e5 := g.2.2.1.c1
        go_simp
      refine wpAnyH_take (i := 9) (v := .int .i64 (2 * sh)) rfl (by kernel_rfl) (by kernel_rfl) (by kernel_rfl) (fun _ _ _ h => h) (.inl ⟨rfl, fun w0 hw0 => ?a9⟩) hS ?_
      case a9 =>
        have g := hw0.blks; have e0 : w0.cell? ⟨b15, 0, none⟩ = some (.int .i64 sl) := g.1.at 0; have e1 : w0.cell? ⟨b15, 1, none⟩ = some (.int .i64 sh) := g.1.at 1; have e2 := g.2.1.c0; have e3 := g.2.1.c1; have e4 := g.2.2.1.c0; have e5 := g.2.2.1.c1
        go_simp
      clear hS
      refine wpAnyH_all (rs := [4]) (by kernel_rfl) (by simp) ?_
      intro i0 hi0
      obtain rfl : i0 = 4 := by simpa using hi0
      refine wpOp_plain rfl rfl fun K' hK' => ?_
      go_simp
      refine (square_calls _ (2 * sl) hr1.1 hr1.2).mono ?_
      rintro e W3 ⟨n3, A3, m3, c3, rfl, h3, hb3⟩
      replace E := (E.below hb3).wd h3
      clear h3 hb3
      refine hK' _ _ ⟨E.dropN, ?_⟩
      clear hK' K'
      refine wpAnyH_all (rs := [5]) (by kernel_rfl) (by simp) ?_
      intro i0 hi0
      obtain rfl : i0 = 5 := by simpa using hi0
      refine wpOp_plain rfl rfl fun K' hK' => ?_
      go_simp
      refine (atMost_calls _ yn n3 yA A3 ym m3 yc c3 (sqs (u1 - u0) (u3 - u2) (u5 - u4) 3) (Num.fit (2 * sl * (2 * sl))) E.wds.2.1 E.wds.1).mono ?_
      rintro e W4 ⟨rfl, hb4⟩
      replace E := E.dropN.below hb4
      clear hb4
      refine hK' _ _ ⟨E, ?_⟩
      clear hK' K'
      refine wpAnyH_all (rs := [10]) (by kernel_rfl) (by simp) ?_
      intro i0 hi0
      obtain rfl : i0 = 10 := by simpa using hi0
      refine wpOp_plain rfl rfl fun K' hK' => ?_
      go_simp
      refine (square_calls _ (2 * sh) hr2.1 hr2.2).mono ?_
      rintro e W5 ⟨n5, A5, m5, c5, rfl, h5, hb5⟩
      replace E := (E.below hb5).wd h5
      clear h5 hb5
      refine hK' _ _ ⟨E.dropN, ?_⟩
      clear hK' K'
      refine wpAnyH_all (rs := [11]) (by kernel_rfl) (by simp) ?_
      intro i0 hi0
      obtain rfl : i0 = 11 := by simpa using hi0
      refine wpOp_plain rfl rfl fun K' hK' => ?_
      go_simp
      refine (atMost_calls _ xn n5 xA A5 xm m5 xc c5 0 (Num.fit (2 * sh * (2 * sh))) E.wds.2.2.1 E.wds.1).mono ?_
      rintro e W6 ⟨rfl, hb6⟩
      replace E := E.dropN.below hb6
      clear hb6
      refine hK' _ _ ⟨E, ?_⟩
      clear hK' K'
      generalize decide (sqs (u1 - u0) (u3 - u2) (u5 - u4) 3 ≤ Num.fit (2 * sl * (2 * sl))) = bs at *
      generalize decide (0 ≤ Num.fit (2 * sh * (2 * sh))) = bm at *
      have hS := E
      refine wpAnyH_take (i := 12) (v := .bool bs) rfl (by kernel_rfl) (by kernel_rfl) (by kernel_rfl) (fun _ _ _ h => h) (.inl ⟨rfl, fun w0 hw0 => ?a12⟩) hS ?_
      case a12 =>
        have g := hw0.blks; have e0 : w0.cell? ⟨b15, 0, none⟩ = some (.int .i64 sl) := g.1.at 0; have e1 : w0.cell? ⟨b15, 1, none⟩ = some (.int .i64 sh) := g.1.at 1; have e2 := g.2.1.c0; have e3 := g.2.1.c1; have e4 := g.2.2.1.c0; have e5 := g.2.2.1.c1
        go_simp
      refine wpAnyH_take (i := 13) (v := .bool bm) rfl (by kernel_rfl) (by kernel_rfl) (by kernel_rfl) (fun _ _ _ h => h) (.inl ⟨rfl, fun w0 hw0 => ?a13⟩) hS ?_
      case a13 =>
        have g := hw0.blks; have e0 : w0.cell? ⟨b15, 0, none⟩ = some (.int .i64 sl) := g.1.at 0; have e1 : w0.cell? ⟨b15, 1, none⟩ = some (.int .i64 sh) := g.1.at 1; have e2 := g.2.1.c0; have e3 := g.2.1.c1; have e4 := g.2.2.1.c0; have e5 := g.2.2.1.c1
        go_simp
      refine wpAnyH_take (i := 14) (v := .int .i64 0) rfl (by kernel_rfl) (by kernel_rfl) (by kernel_rfl) (fun _ _ _ h => h) (.inl ⟨rfl, fun w0 hw0 => ?a14⟩) hS ?_
      case a14 =>
        have g := hw0.blks; have e0 : w0.cell? ⟨b15, 0, none⟩ = some (.int .i64 sl) := g.1.at 0; have e1 : w0.cell? ⟨b15, 1, none⟩ = some (.int .i64 sh) := g.1.at 1; have e2 := g.2.1.c0; have e3 := g.2.1.c1; have e4 := g.2.2.1.c0; have e5 := g.2.2.1.c1
        go_simp
      clear hS
      refine wpAnyH_done (by kernel_rfl) ?_ _
      have HE := Lib.hid E.bel
      clear E
      go_wp2
      refine bodyPost_ret (v := .tuple #[.bool bs, .bool bm, .int .i64 0]) (by simp [results, Tryz.results12, go_sem]) rfl ?_
      exact ⟨rfl, HE.out⟩

end Go.Proofs.YtilaheplclaokaaGreat

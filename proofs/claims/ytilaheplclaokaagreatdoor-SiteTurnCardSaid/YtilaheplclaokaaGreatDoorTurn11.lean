/-
Walks of trig's Sin and Cos.
Walk of trig's Cos.
Walks of package site: early, the product of Turned, Turned.
Walks of math/bits: Mul64, Div64 by 2^40.
Walks of package span: check, Check, made.
Walks of package span: numbers of two words: times, neg, cmp.
Walks of package span: numbers of two words: neg, cmp.
Walks of package span: division of a number of two words by 2^40: down, up.
-/
import Derived.ScopeJumps
import Derived.WalkMore
import Derived.Laws.MathBits
import Derived.Shelf.Spec.BitsCarry
import Derived.Test.YtilaheplclaokaaGreatDoorTurn01
import Derived.Test.YtilaheplclaokaaGreatDoorTurn07
import Derived.Test.YtilaheplclaokaaGreatDoorTurn10
set_option linter.unusedVariables false
set_option linter.unusedSimpArgs false
namespace Go.Proofs.YtilaheplclaokaaGreatDoor
open Go.RowKit Go.Shelf

theorem pow_le {k : Nat} (h : k ≤ 11) : 1 ≤ (2 : Int) ^ k ∧ (2 : Int) ^ k ≤ 2048 := by
  have : k = 0 ∨ k = 1 ∨ k = 2 ∨ k = 3 ∨ k = 4 ∨ k = 5 ∨ k = 6 ∨ k = 7 ∨ k = 8 ∨ k = 9 ∨ k = 10 ∨ k = 11 := by omega
  rcases this with rfl | rfl | rfl | rfl | rfl | rfl | rfl | rfl | rfl | rfl | rfl | rfl <;> decide
theorem ziv_clear {a p : Int} {f : Nat} (h : flb (sineV a p) (sineR a p) p = true) : ziv a p (f + 1) = flo (sineV a p) (sineR a p) p := by
  have h1 : endL (sineV a p) (sineR a p) p = endH (sineV a p) (sineR a p) p := by simpa [flb] using h
  show (if _ then _ else _) = (if _ then _ else _)
  rw [if_pos h1, if_pos h1]
theorem ziv_more {a p : Int} {f : Nat} (h : flb (sineV a p) (sineR a p) p = false) : ziv a p (f + 1) = ziv a (2 * p) f := by
  have h1 : ¬ endL (sineV a p) (sineR a p) p = endH (sineV a p) (sineR a p) p := by simpa [flb] using h
  show (if _ then _ else _) = _
  rw [if_neg h1]
theorem flb_last {v r p : Int} (h : 131113 ≤ p) : flb v r p = true := by
  have := far_clear v r p h
  unfold flb
  rw [this.1, this.2]
  rfl


set_option maxRecDepth 100000 in
set_option maxHeartbeats 200000 in
theorem Sin_calls (w : World) (a : Int) (h0 : -9223372036854775808 ≤ a) (h1 : a < 9223372036854775808) :
    Calls Tryz.prog 109 #[.int .i64 a] w (OkPost (.agg #[.int .i64 (sinLo a), .int .i64 (sinHi a)]) w) := by
  have HE := Lib.hid ((Env.start w).alloc #[.int .i64 0, .int .i64 0] 32)
  have HLo : Hid (sinLo a = if (plainV a).2 = true then (plainV a).1 else ziv a 90 12) := Lib.hid rfl
  have HHi : Hid (sinHi a = if (plainV a).2 = true then (plainV a).1 else ziv a 90 12 + 1) := Lib.hid rfl
  obtain ⟨pn, pb, hpv⟩ : ∃ pn pb, plainV a = (pn, pb) := ⟨_, _, rfl⟩
  have HPl : Hid (∀ w' : World, Calls Tryz.prog 155 #[.int .i64 a] w' (fun e w2 => e = .returned (.tuple #[.int .i64 pn, .bool pb]) ∧ w' = w2)) := Lib.hid fun w' => (plain_calls w' a h0 h1).mono (by rintro e w2 ⟨rfl, rfl⟩; rw [hpv]; exact ⟨rfl, rfl⟩)
  simp only [hpv] at HLo HHi
  clear hpv
  generalize sinLo a = lo at *
  generalize sinHi a = hi at *
  go_enter Tryz.func109, Tryz.ntmps109
  go_wp2_with fail
  refine wp_scope_jumps 0 (fun a' w' => ∃ (k : Nat) (p : Int) (v1 v3 v4 v6 v7 v8 v9 v10 v11 v12 v13 v14 v15 v16 v17 v18 v19 v20 v21 v22 v23 v24 v25 v26 v27 v28 v29 : Value), a' = { tmps := #[.int .i64 a, v1, .pointer (some ⟨w.heap.size, 0, none⟩), v3, v4, .int .i64 p, v6, v7, v8, v9, v10, v11, v12, v13, v14, v15, v16, v17, v18, v19, v20, v21, v22, v23, v24, v25, v26, v27, v28, v29], defers := [] } ∧ k ≤ 11 ∧ p = 90 * 2 ^ k ∧ ziv a 90 12 = ziv a p (12 - k) ∧ lo = ziv a 90 12 ∧ hi = ziv a 90 12 + 1 ∧ Env w [(w.heap.size, #[.int .i64 0, .int .i64 0], 32)] [] w') (fun a' _ => (400000 - intOf (a'.tmps.getD 5 undef)).toNat) rfl ?_ ?_
  · go_wp2_with fail
    go_at_call 155
    refine (HPl.out _).mono ?_
    rintro e W1 ⟨rfl, rfl⟩
    clear HPl
    cases pb with
    | true =>
      have Hlo : Hid (lo = pn) := Lib.hid (by rw [HLo.out]; simp)
      have Hhi : Hid (hi = pn) := Lib.hid (by rw [HHi.out]; simp)
      clear HLo HHi
      go_wp2
      try simp only [Exit.jump]
      have E := (Env.start w).alloc #[.int .i64 pn, .int .i64 pn] 32
      have r0 : _ = some (Value.int .i64 pn) := E.blks.1.at 0
      have r1 : _ = some (Value.int .i64 pn) := E.blks.1.at 1
      refine bodyPost_ret (v := .agg #[.int .i64 pn, .int .i64 pn]) (by simp [results, Tryz.results109, go_sem, r0, r1]) rfl ?_
      exact ⟨by rw [Hlo.out, Hhi.out], E.bel⟩
    | false =>
      replace HLo : Hid (lo = ziv a 90 12) := Lib.hid (by have h := HLo.out; simpa using h)
      replace HHi : Hid (hi = ziv a 90 12 + 1) := Lib.hid (by have h := HHi.out; simpa using h)
      go_wp2_with fail
      go_step3
      obtain ⟨k, hk0⟩ : ∃ k : Nat, k = 0 := ⟨_, rfl⟩
      obtain ⟨p, hp0⟩ : ∃ p : Int, p = 90 := ⟨_, rfl⟩
      have hk : k ≤ 11 := by omega
      have hpk2 : p = 90 * 2 ^ k := by rw [hk0, hp0]; rfl
      have hz : ziv a 90 12 = ziv a p (12 - k) := by rw [hk0, hp0]
      rw [← hp0]
      clear hk0 hp0
      have hpk := pow_le hk
      have hp1 : 90 ≤ p ∧ p ≤ 184320 := by omega
      have hsb := sine_bounds a p (by omega)
      have HU := Lib.hid fun w' n A m c h => unit_calls w' n A m c (sineV a p) (sineR a p) p ⟨by omega, by omega⟩ ⟨by omega, hsb.2.2.2⟩ h (ends_bounds (by omega) hsb.1 hsb.2.1 (by omega))
      have HSi := Lib.hid fun w' => sine_calls w' a p h0 h1 ⟨by omega, by omega⟩
      have hw : IntKind.i64.wrap (p * 2) = p * 2 := wrap_i64 _ (by omega) (by omega)
      have HZ := Lib.hid hz
      have HPK := Lib.hid hpk2
      clear hsb hpk hz hpk2
      go_wp2_with fail
      go_at_call 156
      refine (HSi.out _).mono ?_
      rintro e W1 ⟨n1, A1, m1, c1, rfl, h1', hb1⟩
      replace HE := Lib.hid ((HE.out.below hb1).wd h1')
      clear hb1 h1' HSi
      go_wp2_with fail
      go_at_call 157
      refine (HU.out _ n1 A1 m1 c1 HE.out.wds.1).mono ?_
      rintro e W2 ⟨rfl, hb2⟩
      replace HE := Lib.hid (HE.out.below hb2)
      clear hb2 HU
      have HF1 : Hid (flb (sineV a p) (sineR a p) p = true → ziv a 90 12 = flo (sineV a p) (sineR a p) p) := Lib.hid fun h => by rw [HZ.out, show 12 - k = (11 - k) + 1 by omega]; exact ziv_clear h
      have HF2 : Hid (flb (sineV a p) (sineR a p) p = false → k < 11 ∧ ziv a 90 12 = ziv a (p * 2) (12 - (k + 1))) := Lib.hid fun h => by
        have hk2 : k < 11 := by
          rcases Nat.lt_or_ge k 11 with h2 | h2
          · exact h2
          · have h3 : k = 11 := by omega
            subst h3
            have hpq := HPK.out
            rw [flb_last (by omega)] at h
            cases h
        refine ⟨hk2, ?_⟩
        rw [HZ.out, show 12 - k = (11 - k) + 1 by omega, ziv_more h, Int.mul_comm 2 p, show 12 - (k + 1) = 11 - k by omega]
      clear HZ
      generalize flb (sineV a p) (sineR a p) p = b at *
      generalize flo (sineV a p) (sineR a p) p = n at *
      cases b with
      | true =>
        have hz := HF1.out rfl
        have hlo : lo = n := by rw [HLo.out]; exact hz
        have hhi : hi = n + 1 := by rw [HHi.out, hz]
        have Hlo := Lib.hid hlo
        have Hhi := Lib.hid hhi
        have f0 : W2.cell? ⟨w.heap.size, 0, none⟩ = some (.int .i64 0) := HE.out.blks.1.at 0
        have f1 : W2.cell? ⟨w.heap.size, 1, none⟩ = some (.int .i64 0) := HE.out.blks.1.at 1
        have g0 := HE.out.blks.1.fr 0
        have g1 := HE.out.blks.1.fr 1
        have hl : w.heap.size < W2.heap.size := HE.out.blks.1.lt
        clear HF1 HF2 HLo HHi hz hlo hhi
        go_wp2
        try simp only [Exit.jump]
        have E := ((HE.out.setY (Nat.le_refl _) trivial rfl 0 (.int .i64 n)).setY (Nat.le_refl _) trivial rfl 1 (.int .i64 (n + 1))).alloc #[.int .i64 n, .int .i64 (n + 1)] 32
        have r0 : _ = some (Value.int .i64 n) := E.blks.2.1.at 0
        have r1 : _ = some (Value.int .i64 (n + 1)) := E.blks.2.1.at 1
        refine bodyPost_ret (v := .agg #[.int .i64 n, .int .i64 (n + 1)]) (by simp [results, Tryz.results109, go_sem, r0, r1]) rfl ?_
        exact ⟨by rw [Hlo.out, Hhi.out], E.bel⟩
      | false =>
        obtain ⟨hk2, hz⟩ := HF2.out rfl
        have Hz := Lib.hid hz
        clear HF1 HF2 hz
        have HEn := Lib.hid (HE.out.lastN.alloc #[.int .i64 n, .int .i64 (n + 1)] 32).drop
        go_wp2
        try go_step3
        exact ⟨rfl, k + 1, p * 2, _, _, _, _, _, _, _, _, _, _, _, _, _, _, _, _, _, _, _, _, _, _, _, _, _, _, _, rfl, hk2, by rw [HPK.out, Int.pow_succ, Int.mul_assoc], Hz.out, HLo.out, HHi.out, HEn.out⟩
  · rintro a' w' ⟨k, p, v1, v3, v4, v6, v7, v8, v9, v10, v11, v12, v13, v14, v15, v16, v17, v18, v19, v20, v21, v22, v23, v24, v25, v26, v27, v28, v29, rfl, hk, hpk2, hz, hlo0, hhi0, E⟩
    clear HLo HHi
    have HLo := Lib.hid hlo0
    have HHi := Lib.hid hhi0
    clear hlo0 hhi0
    have HE := Lib.hid E
    clear E HPl
    have hpk := pow_le hk
    have hp1 : 90 ≤ p ∧ p ≤ 184320 := by omega
    have hsb := sine_bounds a p (by omega)
    have HU := Lib.hid fun w' n A m c h => unit_calls w' n A m c (sineV a p) (sineR a p) p ⟨by omega, by omega⟩ ⟨by omega, hsb.2.2.2⟩ h (ends_bounds (by omega) hsb.1 hsb.2.1 (by omega))
    have HSi := Lib.hid fun w' => sine_calls w' a p h0 h1 ⟨by omega, by omega⟩
    have hw : IntKind.i64.wrap (p * 2) = p * 2 := wrap_i64 _ (by omega) (by omega)
    have HZ := Lib.hid hz
    have HPK := Lib.hid hpk2
    clear hsb hpk hz hpk2
    go_wp2_with fail
    go_at_call 156
    refine (HSi.out _).mono ?_
    rintro e W1 ⟨n1, A1, m1, c1, rfl, h1', hb1⟩
    replace HE := Lib.hid ((HE.out.below hb1).wd h1')
    clear hb1 h1' HSi
    go_wp2_with fail
    go_at_call 157
    refine (HU.out _ n1 A1 m1 c1 HE.out.wds.1).mono ?_
    rintro e W2 ⟨rfl, hb2⟩
    replace HE := Lib.hid (HE.out.below hb2)
    clear hb2 HU
    have HF1 : Hid (flb (sineV a p) (sineR a p) p = true → ziv a 90 12 = flo (sineV a p) (sineR a p) p) := Lib.hid fun h => by rw [HZ.out, show 12 - k = (11 - k) + 1 by omega]; exact ziv_clear h
    have HF2 : Hid (flb (sineV a p) (sineR a p) p = false → k < 11 ∧ ziv a 90 12 = ziv a (p * 2) (12 - (k + 1))) := Lib.hid fun h => by
      have hk2 : k < 11 := by
        rcases Nat.lt_or_ge k 11 with h2 | h2
        · exact h2
        · have h3 : k = 11 := by omega
          subst h3
          have hpq := HPK.out
          rw [flb_last (by omega)] at h
          cases h
      refine ⟨hk2, ?_⟩
      rw [HZ.out, show 12 - k = (11 - k) + 1 by omega, ziv_more h, Int.mul_comm 2 p, show 12 - (k + 1) = 11 - k by omega]
    clear HZ
    generalize flb (sineV a p) (sineR a p) p = b at *
    generalize flo (sineV a p) (sineR a p) p = n at *
    cases b with
    | true =>
      have hz := HF1.out rfl
      have hlo : lo = n := by rw [HLo.out]; exact hz
      have hhi : hi = n + 1 := by rw [HHi.out, hz]
      have Hlo := Lib.hid hlo
      have Hhi := Lib.hid hhi
      have f0 : W2.cell? ⟨w.heap.size, 0, none⟩ = some (.int .i64 0) := HE.out.blks.1.at 0
      have f1 : W2.cell? ⟨w.heap.size, 1, none⟩ = some (.int .i64 0) := HE.out.blks.1.at 1
      have g0 := HE.out.blks.1.fr 0
      have g1 := HE.out.blks.1.fr 1
      have hl : w.heap.size < W2.heap.size := HE.out.blks.1.lt
      clear HF1 HF2 HLo HHi hz hlo hhi
      go_wp2
      try simp only [Exit.jump]
      have E := ((HE.out.setY (Nat.le_refl _) trivial rfl 0 (.int .i64 n)).setY (Nat.le_refl _) trivial rfl 1 (.int .i64 (n + 1))).alloc #[.int .i64 n, .int .i64 (n + 1)] 32
      have r0 : _ = some (Value.int .i64 n) := E.blks.2.1.at 0
      have r1 : _ = some (Value.int .i64 (n + 1)) := E.blks.2.1.at 1
      refine bodyPost_ret (v := .agg #[.int .i64 n, .int .i64 (n + 1)]) (by simp [results, Tryz.results109, go_sem, r0, r1]) rfl ?_
      exact ⟨by rw [Hlo.out, Hhi.out], E.bel⟩
    | false =>
      obtain ⟨hk2, hz⟩ := HF2.out rfl
      have Hz := Lib.hid hz
      clear HF1 HF2 hz
      have HEn := Lib.hid (HE.out.lastN.alloc #[.int .i64 n, .int .i64 (n + 1)] 32).drop
      go_wp2
      try go_step3
      exact ⟨rfl, ⟨k + 1, p * 2, _, _, _, _, _, _, _, _, _, _, _, _, _, _, _, _, _, _, _, _, _, _, _, _, _, _, _, rfl, hk2, by rw [HPK.out, Int.pow_succ, Int.mul_assoc], Hz.out, HLo.out, HHi.out, HEn.out⟩, by simp [intOf]; omega⟩

end Go.Proofs.YtilaheplclaokaaGreatDoor
namespace Go.Proofs.YtilaheplclaokaaGreatDoor
open Go.RowKit Go.Shelf

/-- The angle whose sine is a cosine. -/
def cosA (a : Int) : Int := Int.tmod a 1296000000000 + 324000000000

set_option maxRecDepth 100000 in
set_option maxHeartbeats 2000000 in
theorem Cos_calls (w : World) (a : Int) (h0 : -9223372036854775808 ≤ a) (h1 : a < 9223372036854775808) :
    Calls Tryz.prog 108 #[.int .i64 a] w (OkPost (.agg #[.int .i64 (sinLo (cosA a)), .int .i64 (sinHi (cosA a))]) w) := by
  have HE := Lib.hid ((Env.start w).alloc #[.int .i64 0, .int .i64 0] 32)
  have k1 := Int.lt_tmod_of_pos a (show (0 : Int) < 1296000000000 by omega)
  have k2 := Int.tmod_lt_of_pos a (show (0 : Int) < 1296000000000 by omega)
  have hc : cosA a = Int.tmod a 1296000000000 + 324000000000 := rfl
  have hw : IntKind.i64.wrap (Int.tmod a 1296000000000 + 324000000000) = cosA a := wrap_i64 _ (by omega) (by omega)
  have HS := Lib.hid fun w' => Sin_calls w' (cosA a) (by omega) (by omega)
  clear hc k1 k2
  generalize cosA a = b at *
  generalize sinLo b = lo at *
  generalize sinHi b = hi at *
  go_enter Tryz.func108, Tryz.ntmps108
  go_wp2_with fail
  go_at_call 109
  refine (HS.out _).mono ?_
  rintro e W1 ⟨rfl, hb1⟩
  replace HE := Lib.hid (HE.out.below hb1)
  have f0 : W1.cell? ⟨w.heap.size, 0, none⟩ = some (.int .i64 0) := HE.out.blks.1.at 0
  have f1 : W1.cell? ⟨w.heap.size, 1, none⟩ = some (.int .i64 0) := HE.out.blks.1.at 1
  have g0 := HE.out.blks.1.fr 0
  have g1 := HE.out.blks.1.fr 1
  clear hb1 HS
  go_wp2
  have E := (HE.out.setX (Nat.le_refl _) trivial (by rw [← Array.all_toList]; rfl) 0 (.int .i64 lo)).setX (Nat.le_refl _) trivial (by rw [← Array.all_toList]; rfl) 1 (.int .i64 hi)
  have r0 : _ = some (Value.int .i64 lo) := E.blks.1.at 0
  have r1 : _ = some (Value.int .i64 hi) := E.blks.1.at 1
  refine bodyPost_ret (v := .agg #[.int .i64 lo, .int .i64 hi]) (by simp [results, Tryz.results108, go_sem, r0, r1]) rfl ?_
  exact ⟨rfl, E.bel⟩

end Go.Proofs.YtilaheplclaokaaGreatDoor
namespace Go.Proofs.YtilaheplclaokaaGreatDoor
open Go.RowKit Go.Shelf
attribute [local go_sem] Oper.semAt_some

theorem early_calls (w : World) (t : Int) :
    Calls Tryz.prog 46 #[.int .i64 t] w (RetPost (.bool (decide (t < -5000000000000000 ∨ 5000000000000000 < t))) w) := by
  by_cases h0 : t < -5000000000000000
  · go_enter Tryz.func46, Tryz.ntmps46
    go_wp2
    go_ret
    exact ⟨by simp [h0], rfl⟩
  · by_cases h1 : 5000000000000000 < t
    · go_enter Tryz.func46, Tryz.ntmps46
      go_wp2
      go_ret
      exact ⟨by simp [h1], rfl⟩
    · go_enter Tryz.func46, Tryz.ntmps46
      go_wp2
      go_ret
      exact ⟨by simp [h0, h1], rfl⟩

set_option maxRecDepth 100000 in
set_option maxHeartbeats 1000000 in
theorem turnMul_calls (w : World) (x y : Int) (hx : -9223372036854775808 ≤ x ∧ x < 9223372036854775808) (hy : -9223372036854775808 ≤ y ∧ y < 9223372036854775808) :
    Calls Tryz.prog 47 #[.int .i64 x, .int .i64 y] w (WidPost (Num.fit (x * y)) w) := by
  have HE := Lib.hid ((Env.start w).alloc #[.bool false, .slice none 0 0] 92)
  have CX := Lib.hid fun w' => From_calls w' x hx.1 hx.2
  have CY := Lib.hid fun w' => From_calls w' y hy.1 hy.2
  clear hx hy
  go_enter Tryz.func47, Tryz.ntmps47
  go_wp2_with fail
  go_at_call_has 49 x
  refine (CX.out _).mono ?_
  rintro e W1 ⟨n1, A1, m1, c1, rfl, hx, hb⟩
  replace HE := Lib.hid ((HE.out.below hb).wd hx)
  clear hx hb
  go_wp2_with fail
  go_at_call_has 49 y
  refine (CY.out _).mono ?_
  rintro e W2 ⟨n2, A2, m2, c2, rfl, hx, hb⟩
  replace HE := Lib.hid ((HE.out.below hb).wd hx)
  clear hx hb
  go_wp2_with fail
  go_at_call 48
  refine (Mul_calls _ n1 n2 A1 A2 m1 m2 c1 c2 x y HE.out.wds.2.1 HE.out.wds.1).mono ?_
  rintro e W3 ⟨v, rfl, ⟨n3, A3, m3, c3, rfl, hx⟩, hb⟩
  replace HE := Lib.hid (((HE.out.below hb).dropN.dropN).wd hx)
  clear hx hb
  have f0 := HE.out.blks.1.c0
  have f1 := HE.out.blks.1.c1
  have f2 := HE.out.blks.1.fr 0
  have f3 := HE.out.blks.1.fr 1
  have hlt := HE.out.blks.1.lt
  go_wp2
  have E := (HE.out.set2 (Nat.le_refl _) trivial (.bool n3) (.slice A3 m3 c3)).alloc #[.bool n3, .slice A3 m3 c3] 92
  have r0 := E.blks.2.1.c0
  have r1 := E.blks.2.1.c1
  refine bodyPost_ret (v := .agg #[.bool n3, .slice A3 m3 c3]) (by simp [results, Tryz.results47, go_sem, r0, r1]) rfl ?_
  exact ⟨n3, A3, m3, c3, rfl, E.wds.1, E.bel⟩

theorem quot_both {x y q r : Int} (hy : 0 < y) (h : QuotRem x y q r) : q = x / y ∧ r = x % y := by
  have h1 := h.2.1 hy
  have := (Int.ediv_emod_unique (a := x) (b := y) (r := r) (q := q) hy).2 ⟨by have := h.1; omega, h1.1, h1.2⟩
  exact ⟨this.1.symm, this.2.symm⟩

/-- The sum of Turned, and the turn. -/
def turnS (t : Int) : Int := 100965822615014400000000000000 + 1504106717867031720 * (t - 64184000)
def turnedV (t : Int) : Int := turnS t / 100000000000000000 % 1296000000000

set_option maxRecDepth 100000 in
set_option maxHeartbeats 1000000 in
theorem Turned_calls (w : World) (t : Int) (ht : -5000000000000000 ≤ t ∧ t ≤ 5000000000000000) :
    Calls Tryz.prog 11 #[.int .i64 t] w (OkPost (.tuple #[.int .i64 (turnedV t), .int .i64 0]) w) := by
  have CE := Lib.hid fun w' => early_calls w' t
  rw [decide_eq_false (by omega)] at CE
  have C1 := Lib.hid fun w' => turnMul_calls w' 77905727326400000 1296000000000 (by omega) (by omega)
  have C2 := Lib.hid fun w' => turnMul_calls w' 100273781191135448 15 (by omega) (by omega)
  have C3 := Lib.hid fun w' => From_calls w' 0 (by omega) (by omega)
  have C4 := Lib.hid fun w' => From_calls w' (t - 64184000) (by omega) (by omega)
  have C5 := Lib.hid fun w' => From_calls w' 100000000000000000 (by omega) (by omega)
  have C6 := Lib.hid fun w' => From_calls w' 1296000000000 (by omega) (by omega)
  rw [fit_big (by omega)] at C1 C2
  have hw : IntKind.i64.wrap (t - 64184000) = t - 64184000 := wrap_i64 _ (by omega) (by omega)
  have HE := Lib.hid (Env.start w)
  go_enter Tryz.func11, Tryz.ntmps11
  go_wp2_with fail
  go_at_call 46
  refine (CE.out _).mono ?_
  rintro e w' ⟨rfl, rfl⟩
  go_wp2_with fail
  go_at_call 47
  refine (C1.out _).mono ?_
  rintro e W1 ⟨n1, A1, m1, c1, rfl, hx, hb⟩
  replace HE := Lib.hid ((HE.out.below hb).wd hx)
  clear hx hb
  go_wp2_with fail
  go_at_call 49
  refine (C3.out _).mono ?_
  rintro e W2 ⟨n2, A2, m2, c2, rfl, hx, hb⟩
  replace HE := Lib.hid ((HE.out.below hb).wd hx)
  clear hx hb
  go_wp2_with fail
  go_at_call 50
  refine (Add_calls _ n1 n2 A1 A2 m1 m2 c1 c2 _ _ HE.out.wds.2.1 HE.out.wds.1).mono fun e W3 h => ?_
  obtain ⟨n3, A3, m3, c3, rfl, hx, hb⟩ := h.big (y := 100965822615014400000000000000) (by rfl) (by omega)
  have hb5 : w.heap.size ≤ W3.heap.size := (HE.out.below hb).bel.size
  replace HE := Lib.hid (((HE.out.below hb).dropN.dropN.wd hx).alloc #[.bool n3, .slice A3 m3 c3] 92)
  clear hx hb h
  go_wp2_with fail
  go_at_call 47
  refine (C2.out _).mono ?_
  rintro e W4 ⟨n4, A4, m4, c4, rfl, hx, hb⟩
  replace HE := Lib.hid ((HE.out.below hb).wd hx)
  clear hx hb
  go_wp2_with fail
  go_at_call 49
  refine (C4.out _).mono ?_
  rintro e W5 ⟨n5, A5, m5, c5, rfl, hx, hb⟩
  replace HE := Lib.hid ((HE.out.below hb).wd hx)
  clear hx hb
  go_wp2_with fail
  go_at_call 48
  refine (Mul_calls _ n4 n5 A4 A5 m4 m5 c4 c5 _ _ HE.out.wds.2.1 HE.out.wds.1).mono fun e W6 h => ?_
  obtain ⟨n6, A6, m6, c6, rfl, hx, hb⟩ := h.big (y := 1504106717867031720 * (t - 64184000)) (by rfl) (by omega)
  replace HE := Lib.hid ((HE.out.below hb).dropN.dropN.wd hx)
  clear hx hb h
  have f0 := HE.out.blks.1.c0
  have f1 := HE.out.blks.1.c1
  have f2 := HE.out.blks.1.fr 0
  have f3 := HE.out.blks.1.fr 1
  have hlt := HE.out.blks.1.lt
  go_wp2_with fail
  go_at_call 50
  clear f0 f1 f2 f3 hlt
  replace HE := Lib.hid (HE.out.alloc #[.bool n6, .slice A6 m6 c6] 92)
  refine (Add_calls _ n3 n6 A3 A6 m3 m6 c3 c6 _ _ HE.out.wds.2.1 HE.out.wds.1).mono fun e W7 h => ?_
  obtain ⟨n7, A7, m7, c7, rfl, hx, hb⟩ := h.big (y := turnS t) (by rfl) (by show _ ≤ 100965822615014400000000000000 + 1504106717867031720 * (t - 64184000) ∧ 100965822615014400000000000000 + 1504106717867031720 * (t - 64184000) ≤ _; omega)
  replace HE := Lib.hid (((HE.out.below hb).dropN.dropN.wd hx).drop)
  clear hx hb h
  have f0 := HE.out.blks.1.c0
  have f1 := HE.out.blks.1.c1
  have f2 := HE.out.blks.1.fr 0
  have f3 := HE.out.blks.1.fr 1
  have E := HE.out.set2 hb5 trivial (.bool n7) (.slice A7 m7 c7)
  go_wp2_with fail
  replace HE := Lib.hid E
  clear E f0 f1 f2 f3
  generalize (W7.setCell ⟨W3.heap.size, 0, none⟩ (.bool n7)).setCell ⟨W3.heap.size, 1, none⟩ (.slice A7 m7 c7) = W8 at *
  generalize W3.heap.size = k3 at *
  have hk3 := HE.out.blks.1.lt
  have hw8 := HE.out.size
  refine wp_region_any (by kernel_rfl) ?_
  refine wpAny_of_held (S := Env w [(k3, #[.bool n7, .slice A7 m7 c7], 92)] []) _ _ _ _ ?_
  refine Pend.start (A := [⟨7, 9, #[.bool false, .slice none 0 0], 92, ptrTo⟩, ⟨8, 10, #[.bool false, .slice none 0 0], 92, ptrTo⟩]) (B := W8.heap.size) (S := Env w [] [(n7, A7, m7, c7, (turnS t))]) ?_ (float2 rfl ⟨_, rfl, rfl, rfl, by kernel_rfl, fun w => by simp only [ptrTo]; go_simp⟩ ⟨_, rfl, rfl, rfl, by kernel_rfl, fun w => by simp only [ptrTo]; go_simp⟩) HE.out.drew.lastN HE.out.drew.drop (by simp)
  refine Pend.take (i := 0) (v := .agg #[.bool n7, .slice A7 m7 c7]) (by kernel_rfl) (by kernel_rfl) rfl (by kernel_rfl) (by kernel_rfl) (by kernel_rfl) (fun _ _ _ h => h) (.inl ⟨rfl, fun w0 hw0 => ?a0⟩) ?_
  case a0 =>
    have f0 := hw0.blks.1.c0; have f1 := hw0.blks.1.c1
    go_simp
  refine Pend.step (i := 1) (by kernel_rfl) (by kernel_rfl) rfl (by kernel_rfl) (by kernel_rfl) (by kernel_rfl) (fun _ _ d _ _ h => by cases d <;> exact h) Env.mono Env.mono ?_
  intro Wa h0 h1 hB
  refine wpOp_plain rfl rfl fun K' hK' => ?_
  go_simp
  refine (C5.out _).mono ?_
  rintro e Wb ⟨n8, A8, m8, c8, rfl, hx, hb⟩
  refine hK' _ _ ⟨hb, _, (h1.below hb).wd hx, Env.mono, ?_⟩
  clear hK' K' h0 h1 hB
  clear hx hb
  refine Pend.step (i := 2) (by kernel_rfl) (by kernel_rfl) rfl (by kernel_rfl) (by kernel_rfl) (by kernel_rfl) (fun _ _ d _ _ h => by cases d <;> exact h) Env.mono Env.mono ?_
  intro Wa h0 h1 hB
  refine wpOp_plain rfl rfl fun K' hK' => ?_
  go_simp
  refine (DivMod_calls _ n7 n8 A7 A8 m7 m8 c7 c8 (turnS t) 100000000000000000 h1.wds.2.1 h1.wds.1 (by decide)).mono ?_
  rintro e Wc ⟨q1, r1, n9, A9, m9, c9, n10, A10, m10, c10, rfl, hq, hr, hqr, hb⟩
  obtain ⟨rfl, rfl⟩ := quot_both (by decide) hqr
  refine hK' _ _ ⟨hb, _, (((h1.below hb).dropN.dropN.wd hr).wd hq), Env.mono, ?_⟩
  clear hK' K' h0 h1 hB
  clear hq hr hqr hb
  refine Pend.take (i := 3) (v := .tuple #[.agg #[.bool n9, .slice A9 m9 c9], .agg #[.bool n10, .slice A10 m10 c10], .int .i64 0]) (by kernel_rfl) (by kernel_rfl) rfl (by kernel_rfl) (by kernel_rfl) (by kernel_rfl) (fun _ _ _ h => h) (.inl ⟨rfl, fun w0 hw0 => ?a3⟩) ?_
  case a3 =>
    have f0 := hw0.blks.1.c0; have f1 := hw0.blks.1.c1
    go_simp
  refine Pend.take (i := 4) (v := .agg #[.bool n9, .slice A9 m9 c9]) (by kernel_rfl) (by kernel_rfl) rfl (by kernel_rfl) (by kernel_rfl) (by kernel_rfl) (fun _ _ _ h => h) (.inl ⟨rfl, fun w0 hw0 => ?a4⟩) ?_
  case a4 =>
    have f0 := hw0.blks.1.c0; have f1 := hw0.blks.1.c1
    go_simp
  refine Pend.take (i := 5) (v := .agg #[.bool n10, .slice A10 m10 c10]) (by kernel_rfl) (by kernel_rfl) rfl (by kernel_rfl) (by kernel_rfl) (by kernel_rfl) (fun _ _ _ h => h) (.inl ⟨rfl, fun w0 hw0 => ?a5⟩) ?_
  case a5 =>
    have f0 := hw0.blks.1.c0; have f1 := hw0.blks.1.c1
    go_simp
  refine Pend.take (i := 6) (v := .int .i64 0) (by kernel_rfl) (by kernel_rfl) rfl (by kernel_rfl) (by kernel_rfl) (by kernel_rfl) (fun _ _ _ h => h) (.inl ⟨rfl, fun w0 hw0 => ?a6⟩) ?_
  case a6 =>
    have f0 := hw0.blks.1.c0; have f1 := hw0.blks.1.c1
    go_simp
  refine Pend.done 3 (by kernel_rfl) (by kernel_rfl) (by kernel_rfl) Env.mono Env.mono ?_
  intro bs Wa hl hc h0 h1 hok
  obtain ⟨b9, b10, rfl, hb, hc, hB1, hB2, hne⟩ := two_al hl hc hok
  replace HE := Lib.hid (((h1.blk h0.blks.1).blk hc).blk hb)
  clear hl hok h0 h1 hb hc
  simp only [puts, ptrTo]
  have f0 := HE.out.blks.1.c0
  have f1 := HE.out.blks.1.c1
  have f2 := HE.out.blks.1.fr 0
  have f3 := HE.out.blks.1.fr 1
  refine wpAnyH_all (rs := [9]) (by kernel_rfl) (by simp) ?_
  intro i0 hi0
  obtain rfl : i0 = 9 := by simpa using hi0
  refine wpOp_plain rfl rfl fun K' hK' => ?_
  go_simp
  replace HE := Lib.hid (HE.out.set2 (by omega) (by simp [Free] <;> omega) (.bool n9) (.slice A9 m9 c9)).swap
  clear f0 f1 f2 f3
  generalize (Wa.setCell ⟨b9, 0, none⟩ (.bool n9)).setCell ⟨b9, 1, none⟩ (.slice A9 m9 c9) = Wd at *
  refine hK' _ _ ⟨HE.out.drop.drop.lastN, ?_⟩
  clear hK' K'
  have f0 := HE.out.blks.1.c0
  have f1 := HE.out.blks.1.c1
  have f2 := HE.out.blks.1.fr 0
  have f3 := HE.out.blks.1.fr 1
  refine wpAnyH_all (rs := [10]) (by kernel_rfl) (by simp) ?_
  intro i0 hi0
  obtain rfl : i0 = 10 := by simpa using hi0
  refine wpOp_plain rfl rfl fun K' hK' => ?_
  go_simp
  replace HE := Lib.hid (HE.out.set2 (by omega) (by simp [Free] <;> omega) (.bool n10) (.slice A10 m10 c10)).swap
  clear f0 f1 f2 f3
  generalize (Wd.setCell ⟨b10, 0, none⟩ (.bool n10)).setCell ⟨b10, 1, none⟩ (.slice A10 m10 c10) = V9 at *
  refine hK' _ _ ⟨HE.out.drop.drop.lastN, ?_⟩
  clear hK' K'
  have hS := HE.out.drop.drop.lastN
  refine wpAnyH_take (i := 11) (v := .int .i64 0) rfl (by kernel_rfl) (by kernel_rfl) (by kernel_rfl) (fun _ _ _ h => h) (.inl ⟨rfl, fun w0 hw0 => ?a11⟩) hS ?_
  case a11 =>
    have f0 := hw0.blks.1.c0; have f1 := hw0.blks.1.c1
    go_simp
  refine wpAnyH_done (by kernel_rfl) ?_ _
  clear hS hk3 hB1 hB2 hne
  replace HE := Lib.hid (HE.out.swap.drop.swap.drop.dropN.dropN.wd HE.out.wds.1)
  go_wp2_with fail
  have hk3 := HE.out.blks.1.lt
  have hw8 := HE.out.size
  refine wp_region_any (by kernel_rfl) ?_
  refine wpAny_of_held (S := Env w [(b9, #[.bool n9, .slice A9 m9 c9], 92)] []) _ _ _ _ ?_
  refine Pend.start (A := [⟨7, 12, #[.bool false, .slice none 0 0], 92, ptrTo⟩, ⟨8, 13, #[.bool false, .slice none 0 0], 92, ptrTo⟩]) (B := V9.heap.size) (S := Env w [] [(n9, A9, m9, c9, (turnS t / 100000000000000000))]) ?_ (float2 rfl ⟨_, rfl, rfl, rfl, by kernel_rfl, fun w => by simp only [ptrTo]; go_simp⟩ ⟨_, rfl, rfl, rfl, by kernel_rfl, fun w => by simp only [ptrTo]; go_simp⟩) HE.out.drew.lastN HE.out.drew.drop (by simp)
  refine Pend.take (i := 0) (v := .agg #[.bool n9, .slice A9 m9 c9]) (by kernel_rfl) (by kernel_rfl) rfl (by kernel_rfl) (by kernel_rfl) (by kernel_rfl) (fun _ _ _ h => h) (.inl ⟨rfl, fun w0 hw0 => ?a0⟩) ?_
  case a0 =>
    have f0 := hw0.blks.1.c0; have f1 := hw0.blks.1.c1
    go_simp
  refine Pend.step (i := 1) (by kernel_rfl) (by kernel_rfl) rfl (by kernel_rfl) (by kernel_rfl) (by kernel_rfl) (fun _ _ d _ _ h => by cases d <;> exact h) Env.mono Env.mono ?_
  intro Wa h0 h1 hB
  refine wpOp_plain rfl rfl fun K' hK' => ?_
  go_simp
  refine (C6.out _).mono ?_
  rintro e Wb ⟨n8, A8, m8, c8, rfl, hx, hb⟩
  refine hK' _ _ ⟨hb, _, (h1.below hb).wd hx, Env.mono, ?_⟩
  clear hK' K' h0 h1 hB
  clear hx hb
  refine Pend.step (i := 2) (by kernel_rfl) (by kernel_rfl) rfl (by kernel_rfl) (by kernel_rfl) (by kernel_rfl) (fun _ _ d _ _ h => by cases d <;> exact h) Env.mono Env.mono ?_
  intro Wa h0 h1 hB
  refine wpOp_plain rfl rfl fun K' hK' => ?_
  go_simp
  refine (DivMod_calls _ n9 n8 A9 A8 m9 m8 c9 c8 (turnS t / 100000000000000000) 1296000000000 h1.wds.2.1 h1.wds.1 (by decide)).mono ?_
  rintro e Wc ⟨q1, r1, n11, A11, m11, c11, n12, A12, m12, c12, rfl, hq, hr, hqr, hb⟩
  obtain ⟨rfl, rfl⟩ := quot_both (by decide) hqr
  refine hK' _ _ ⟨hb, _, (((h1.below hb).dropN.dropN.wd hr).wd hq), Env.mono, ?_⟩
  clear hK' K' h0 h1 hB
  clear hq hr hqr hb
  refine Pend.take (i := 3) (v := .tuple #[.agg #[.bool n11, .slice A11 m11 c11], .agg #[.bool n12, .slice A12 m12 c12], .int .i64 0]) (by kernel_rfl) (by kernel_rfl) rfl (by kernel_rfl) (by kernel_rfl) (by kernel_rfl) (fun _ _ _ h => h) (.inl ⟨rfl, fun w0 hw0 => ?a3⟩) ?_
  case a3 =>
    have f0 := hw0.blks.1.c0; have f1 := hw0.blks.1.c1
    go_simp
  refine Pend.take (i := 4) (v := .agg #[.bool n11, .slice A11 m11 c11]) (by kernel_rfl) (by kernel_rfl) rfl (by kernel_rfl) (by kernel_rfl) (by kernel_rfl) (fun _ _ _ h => h) (.inl ⟨rfl, fun w0 hw0 => ?a4⟩) ?_
  case a4 =>
    have f0 := hw0.blks.1.c0; have f1 := hw0.blks.1.c1
    go_simp
  refine Pend.take (i := 5) (v := .agg #[.bool n12, .slice A12 m12 c12]) (by kernel_rfl) (by kernel_rfl) rfl (by kernel_rfl) (by kernel_rfl) (by kernel_rfl) (fun _ _ _ h => h) (.inl ⟨rfl, fun w0 hw0 => ?a5⟩) ?_
  case a5 =>
    have f0 := hw0.blks.1.c0; have f1 := hw0.blks.1.c1
    go_simp
  refine Pend.take (i := 6) (v := .int .i64 0) (by kernel_rfl) (by kernel_rfl) rfl (by kernel_rfl) (by kernel_rfl) (by kernel_rfl) (fun _ _ _ h => h) (.inl ⟨rfl, fun w0 hw0 => ?a6⟩) ?_
  case a6 =>
    have f0 := hw0.blks.1.c0; have f1 := hw0.blks.1.c1
    go_simp
  refine Pend.done 3 (by kernel_rfl) (by kernel_rfl) (by kernel_rfl) Env.mono Env.mono ?_
  intro bs Wa hl hc h0 h1 hok
  obtain ⟨b12, b13, rfl, hb, hc, hB1, hB2, hne⟩ := two_al hl hc hok
  replace HE := Lib.hid (((h1.blk h0.blks.1).blk hc).blk hb)
  clear hl hok h0 h1 hb hc
  simp only [puts, ptrTo]
  have f0 := HE.out.blks.1.c0
  have f1 := HE.out.blks.1.c1
  have f2 := HE.out.blks.1.fr 0
  have f3 := HE.out.blks.1.fr 1
  refine wpAnyH_all (rs := [9]) (by kernel_rfl) (by simp) ?_
  intro i0 hi0
  obtain rfl : i0 = 9 := by simpa using hi0
  refine wpOp_plain rfl rfl fun K' hK' => ?_
  go_simp
  replace HE := Lib.hid (HE.out.set2 (by omega) (by simp [Free] <;> omega) (.bool n11) (.slice A11 m11 c11)).swap
  clear f0 f1 f2 f3
  generalize (Wa.setCell ⟨b12, 0, none⟩ (.bool n11)).setCell ⟨b12, 1, none⟩ (.slice A11 m11 c11) = Wd at *
  refine hK' _ _ ⟨HE.out.drop.drop.lastN, ?_⟩
  clear hK' K'
  have f0 := HE.out.blks.1.c0
  have f1 := HE.out.blks.1.c1
  have f2 := HE.out.blks.1.fr 0
  have f3 := HE.out.blks.1.fr 1
  refine wpAnyH_all (rs := [10]) (by kernel_rfl) (by simp) ?_
  intro i0 hi0
  obtain rfl : i0 = 10 := by simpa using hi0
  refine wpOp_plain rfl rfl fun K' hK' => ?_
  go_simp
  replace HE := Lib.hid (HE.out.set2 (by omega) (by simp [Free] <;> omega) (.bool n12) (.slice A12 m12 c12)).swap
  clear f0 f1 f2 f3
  generalize (Wd.setCell ⟨b13, 0, none⟩ (.bool n12)).setCell ⟨b13, 1, none⟩ (.slice A12 m12 c12) = V10 at *
  refine hK' _ _ ⟨HE.out.drop.drop.lastN, ?_⟩
  clear hK' K'
  have hS := HE.out.drop.drop.lastN
  refine wpAnyH_take (i := 11) (v := .int .i64 0) rfl (by kernel_rfl) (by kernel_rfl) (by kernel_rfl) (fun _ _ _ h => h) (.inl ⟨rfl, fun w0 hw0 => ?a11⟩) hS ?_
  case a11 =>
    have f0 := hw0.blks.1.c0; have f1 := hw0.blks.1.c1
    go_simp
  refine wpAnyH_done (by kernel_rfl) ?_ _
  clear hS hk3 hB1 hB2 hne
  replace HE := Lib.hid HE.out.swap
  have f0 := HE.out.blks.1.c0
  have f1 := HE.out.blks.1.c1
  go_wp2_with fail
  go_at_call 52
  have h64 : in64 (turnS t / 100000000000000000 % 1296000000000) = true := decide_eq_true (by omega)
  refine (Int_calls _ n12 A12 m12 c12 (turnS t / 100000000000000000 % 1296000000000) HE.out.wds.2.1).mono ?_
  rw [int64Z_of h64, int64E_of h64]
  rintro e W11 ⟨rfl, hb⟩
  replace HE := Lib.hid (HE.out.below hb)
  clear hb f0 f1
  go_wp2
  go_ret2
  exact ⟨rfl, HE.out.bel⟩

end Go.Proofs.YtilaheplclaokaaGreatDoor
namespace Go.Proofs.YtilaheplclaokaaGreatDoor
open Go.RowKit

theorem mul64_hi2 (x y : Int) (hx0 : 0 ≤ x) (hx : x < 18446744073709551616) (hy0 : 0 ≤ y) (hy : y < 18446744073709551616) :
    (x / 4294967296 * (y / 4294967296) + (x / 4294967296 * (y % 4294967296) + x % 4294967296 * (y % 4294967296) % 18446744073709551616 / 4294967296) % 18446744073709551616 / 4294967296 +
      ((x / 4294967296 * (y % 4294967296) + x % 4294967296 * (y % 4294967296) % 18446744073709551616 / 4294967296) % 4294967296 + x % 4294967296 * (y / 4294967296)) % 18446744073709551616 / 4294967296) % 18446744073709551616 = x * y / 18446744073709551616 := by
  rw [← mul64_arith x y hx0 hx hy0 hy]
  have b1 : 0 ≤ x / 4294967296 ∧ x / 4294967296 ≤ 4294967295 := by omega
  have b2 : 0 ≤ x % 4294967296 ∧ x % 4294967296 ≤ 4294967295 := by omega
  have b3 : 0 ≤ y / 4294967296 ∧ y / 4294967296 ≤ 4294967295 := by omega
  have b4 : 0 ≤ y % 4294967296 ∧ y % 4294967296 ≤ 4294967295 := by omega
  have pA := prod_bound _ _ b1.1 b1.2 b3.1 b3.2
  have pB := prod_bound _ _ b1.1 b1.2 b4.1 b4.2
  have pC := prod_bound _ _ b2.1 b2.2 b4.1 b4.2
  have pD := prod_bound _ _ b2.1 b2.2 b3.1 b3.2
  generalize x / 4294967296 * (y / 4294967296) = A at *
  generalize x / 4294967296 * (y % 4294967296) = B at *
  generalize x % 4294967296 * (y % 4294967296) = C at *
  generalize x % 4294967296 * (y / 4294967296) = D at *
  clear b1 b2 b3 b4 hx0 hx hy0 hy
  omega

set_option maxHeartbeats 1000000 in
theorem mul64_calls (x y : Int) (hx0 : 0 ≤ x) (hx : x < 18446744073709551616) (hy0 : 0 ≤ y) (hy : y < 18446744073709551616) (w : World) :
    Calls Tryz.prog 111 #[.int .u64 x, .int .u64 y] w (RetPost (.tuple #[.int .u64 (x * y / 18446744073709551616), .int .u64 (x * y % 18446744073709551616)]) w) := by
  have HA := Lib.hid (mul64_hi2 x y hx0 hx hy0 hy)
  have a1 := and_low32 x hx0 hx
  have a2 := and_low32 y hy0 hy
  have m1 := fun z : Int => and_low32 (z % 18446744073709551616) (Int.emod_nonneg _ (by omega)) (Int.emod_lt_of_pos _ (by omega))
  have hwr : ∀ z : Int, IntKind.u64.wrap z = z % 18446744073709551616 := fun z => by simp [IntKind.wrap, IntKind.bits, IntKind.signed]
  go_enter Tryz.func111, Tryz.ntmps111
  go_wp2
  go_ret2
  refine ⟨?_, rfl⟩
  rw [← HA.out]
  rfl

set_option maxRecDepth 100000 in
theorem zeros64_one (w : World) : Calls Tryz.prog 158 #[.int .u64 1099511627776] w (RetPost (.int .i64 23) w) := by
  go_enter Tryz.func158, Tryz.ntmps158
  go_wp2
  go_ret
  refine ⟨?_, rfl⟩
  kernel_rfl

theorem u64_or40 (hi lo : Int) (h0 : 0 < hi) (h1 : hi < 1099511627776) (l0 : 0 ≤ lo) (l1 : lo < 18446744073709551616) : bits BinOp.or IntKind.u64 (hi * 8388608) (lo / 2199023255552) = hi * 8388608 + lo / 2199023255552 := by
  rw [u64_or _ _ (by omega) (by omega) (by omega) (by omega), nat_join 23 _ _ (by show (hi * 8388608).toNat % 8388608 = 0; omega) (by show (lo / 2199023255552).toNat < 8388608; omega)]
  omega

set_option maxRecDepth 100000 in
set_option maxHeartbeats 1000000 in
theorem div64_calls (hi lo : Int) (h0 : 0 < hi) (h1 : hi < 1099511627776) (l0 : 0 ≤ lo) (l1 : lo < 18446744073709551616) (w : World) :
    Calls Tryz.prog 114 #[.int .u64 hi, .int .u64 lo, .int .u64 1099511627776] w (RetPost (.tuple #[.int .u64 ((hi * 18446744073709551616 + lo) / 1099511627776), .int .u64 (lo % 1099511627776)]) w) := by
  have hb : (hi == 0) = false := by rw [beq_eq_false_iff_ne]; omega
  have hb2 : ¬ 1099511627776 ≤ hi := by omega
  have hw1 : (hi * 8388608) % 18446744073709551616 = hi * 8388608 := by omega
  have hor := u64_or40 hi lo h0 h1 l0 l1
  have hwr : ∀ z : Int, IntKind.u64.wrap z = z % 18446744073709551616 := fun z => by simp [IntKind.wrap, IntKind.bits, IntKind.signed]
  have m1 := fun z : Int => and_low32 (z % 18446744073709551616) (Int.emod_nonneg _ (by omega)) (Int.emod_lt_of_pos _ (by omega))
  have hyn : bits .and .u64 9223372036854775808 4294967295 = 0 := by rfl
  obtain ⟨U, hU⟩ : ∃ U, U = hi * 8388608 + lo / 2199023255552 := ⟨_, rfl⟩
  rw [← hU] at hor
  have hU0 : 0 ≤ U := by omega
  have hU1 : U < 9223372036854775808 := by omega
  have htd : Int.tdiv U 2147483648 = U / 2147483648 := Int.tdiv_eq_ediv_of_nonneg hU0
  have hq1 : (U / 2147483648) % 18446744073709551616 = U / 2147483648 := by omega
  have hr1 : (U - U / 2147483648 * 2147483648) % 18446744073709551616 = U % 2147483648 := by omega
  have hq2 : ¬ 4294967296 ≤ U / 2147483648 := by omega
  obtain ⟨a, ha⟩ : ∃ a, a = lo * 8388608 % 18446744073709551616 / 4294967296 := ⟨_, rfl⟩
  have ha0 : 0 ≤ a := by omega
  have ha1 : a < 4294967296 := by omega
  obtain ⟨b, hb0⟩ : ∃ b, b = lo * 8388608 % 4294967296 := ⟨_, rfl⟩
  have hb1 : 0 ≤ b ∧ b < 4294967296 := by omega
  obtain ⟨V, hV⟩ : ∃ V, V = U % 2147483648 * 4294967296 + a := ⟨_, rfl⟩
  have hV0 : 0 ≤ V := by omega
  have hV1 : V < 9223372036854775808 := by omega
  have htd2 : Int.tdiv V 2147483648 = V / 2147483648 := Int.tdiv_eq_ediv_of_nonneg hV0
  have hR : Hid ((U / 2147483648 * 4294967296 + V / 2147483648) % 18446744073709551616 = (hi * 18446744073709551616 + lo) / 1099511627776 ∧ ((V % 2147483648) * 4294967296 + b) / 8388608 = lo % 1099511627776) := Lib.hid (by omega)
  have HU := Lib.hid hU
  have HV := Lib.hid hV
  have ha2 := ha.symm
  have hb2 := hb0.symm
  have hloop1 : ¬ ((U % 2147483648 * 4294967296 + a) % 18446744073709551616 < 0) := by omega
  have hun : (U * 4294967296 + a - U / 2147483648 * 9223372036854775808) % 18446744073709551616 = V := by omega
  have hr2 : (V - V / 2147483648 * 2147483648) % 18446744073709551616 = V % 2147483648 := by omega
  have hq3 : (V / 2147483648) % 18446744073709551616 = V / 2147483648 := by omega
  have hq4 : ¬ 4294967296 ≤ V / 2147483648 := by omega
  have hrem : (V * 4294967296 + b - V / 2147483648 * 9223372036854775808) % 18446744073709551616 = V % 2147483648 * 4294967296 + b := by omega
  clear hU hV ha hb0
  go_enter Tryz.func114, Tryz.ntmps114
  go_wp2_with (go_at_call 158; refine (zeros64_one _).mono ?_; rintro e w' ⟨rfl, rfl⟩)
  go_loopw [15, 16] (fun q r wr => q = .int .u64 (U / 2147483648) ∧ r = .int .u64 (U % 2147483648) ∧ wr = w) (fun _ _ _ => 0)
  case atStart => exact ⟨rfl, rfl, rfl⟩
  case round =>
    obtain ⟨rfl, rfl, rfl⟩ := hrel
    go_wp2
    go_loopw [18, 16] (fun q r w2 => q = .int .u64 (V / 2147483648) ∧ r = .int .u64 (V % 2147483648) ∧ w2 = wr) (fun _ _ _ => 0)
    case atStart => exact ⟨rfl, rfl, rfl⟩
    case round =>
      obtain ⟨rfl, rfl, rfl⟩ := hrel
      go_wp2
      go_ret2
      refine ⟨?_, rfl⟩
      rw [← hR.out.1, ← hR.out.2]
      rfl

end Go.Proofs.YtilaheplclaokaaGreatDoor
namespace Go.Proofs.YtilaheplclaokaaGreatDoor
open Go.RowKit Go.Shelf
attribute [local go_sem] Oper.semAt_some

/-- A valid interval. -/
def ivB (lo hi : Int) : Bool := decide (lo ≤ hi ∧ -2305843009213693952 ≤ lo ∧ hi ≤ 2305843009213693952)
/-- The error of an interval. -/
def ivE (b : Bool) : Int := if b = true then 0 else 8
theorem ivB_of {lo hi : Int} (h1 : ¬ hi < lo) (h2 : ¬ lo < -2305843009213693952) (h3 : ¬ 2305843009213693952 < hi) : ivB lo hi = true := decide_eq_true (by omega)
theorem ivB_not {lo hi : Int} (h : hi < lo ∨ lo < -2305843009213693952 ∨ 2305843009213693952 < hi) : ivB lo hi = false := decide_eq_false (by omega)


set_option maxRecDepth 100000 in
set_option maxHeartbeats 1000000 in
theorem check2_calls (w : World) (b : Nat) (a0 a1 c0 c1 : Int) (t : TypeId) (hs : Blk w b #[.int .i64 a0, .int .i64 a1, .int .i64 c0, .int .i64 c1] t) :
    Calls Tryz.prog 60 #[.slice (some ⟨b, 0, none⟩) 2 2] w (OkPost (.int .i64 (ivE (ivB a0 a1 && ivB c0 c1))) w) := by
  have HS0 := Lib.hid hs
  clear hs
  go_enter Tryz.func60, Tryz.ntmps60
  go_wp2
  go_loopw [7] (fun i wr => ∃ (k : Nat), k ≤ 2 ∧ i = .int .i64 k ∧ Below w.heap.size w wr ∧ (1 ≤ k → ivB a0 a1 = true) ∧ (2 ≤ k → ivB c0 c1 = true)) (fun i _ => 2 - (intOf i).toNat)
  case atStart => exact ⟨0, by omega, rfl, Below.refl _ _, fun h => absurd h (by omega), fun h => absurd h (by omega)⟩
  case round =>
    obtain ⟨k, hk, rfl, hb, h1, h2⟩ := hrel
    have HS := Lib.hid (HS0.out.below hb)
    have HK := Lib.hid hb
    have HI1 := Lib.hid h1
    have HI2 := Lib.hid h2
    clear hb h1 h2
    have hc : k = 0 ∨ k = 1 ∨ k = 2 := by omega
    rcases hc with rfl | rfl | rfl
    · skip
      have e0 : wr.cell? ⟨b, 0, none⟩ = some (.int .i64 a0) := HS.out.at 0
      have e1 : wr.cell? ⟨b, 1, none⟩ = some (.int .i64 a1) := HS.out.at 1
      by_cases h1 : a1 < a0
      · skip
        have HBad : Hid (ivB a0 a1 = false) := Lib.hid (ivB_not (.inl h1))
        go_wp2
        go_ret
        refine ⟨?_, HK.out.alloc (HK.out.size) _⟩
        rw [HBad.out]
        rfl
      by_cases h2 : a0 < -2305843009213693952
      · skip
        have HBad : Hid (ivB a0 a1 = false) := Lib.hid (ivB_not (.inr (.inl h2)))
        go_wp2
        go_ret
        refine ⟨?_, HK.out.alloc (HK.out.size) _⟩
        rw [HBad.out]
        rfl
      by_cases h3 : 2305843009213693952 < a1
      · skip
        have HBad : Hid (ivB a0 a1 = false) := Lib.hid (ivB_not (.inr (.inr h3)))
        go_wp2
        go_ret
        refine ⟨?_, HK.out.alloc (HK.out.size) _⟩
        rw [HBad.out]
        rfl
      have HGood := Lib.hid (ivB_of h1 h2 h3)
      go_wp2
      go_roundw
      case rel => exact ⟨1, by omega, by go_num, HK.out.alloc HK.out.size _, fun _ => HGood.out, fun h => absurd h (by omega)⟩
      case measure => simp [intOf]
    · skip
      have e0 : wr.cell? ⟨b, 2, none⟩ = some (.int .i64 c0) := HS.out.at 2
      have e1 : wr.cell? ⟨b, 3, none⟩ = some (.int .i64 c1) := HS.out.at 3
      by_cases h1 : c1 < c0
      · skip
        have HBad : Hid (ivB c0 c1 = false) := Lib.hid (ivB_not (.inl h1))
        go_wp2
        go_ret
        refine ⟨?_, HK.out.alloc (HK.out.size) _⟩
        rw [HBad.out, Bool.and_false]
        rfl
      by_cases h2 : c0 < -2305843009213693952
      · skip
        have HBad : Hid (ivB c0 c1 = false) := Lib.hid (ivB_not (.inr (.inl h2)))
        go_wp2
        go_ret
        refine ⟨?_, HK.out.alloc (HK.out.size) _⟩
        rw [HBad.out, Bool.and_false]
        rfl
      by_cases h3 : 2305843009213693952 < c1
      · skip
        have HBad : Hid (ivB c0 c1 = false) := Lib.hid (ivB_not (.inr (.inr h3)))
        go_wp2
        go_ret
        refine ⟨?_, HK.out.alloc (HK.out.size) _⟩
        rw [HBad.out, Bool.and_false]
        rfl
      have HGood := Lib.hid (ivB_of h1 h2 h3)
      go_wp2
      go_roundw
      case rel => exact ⟨2, by omega, by go_num, HK.out.alloc HK.out.size _, fun _ => HI1.out (by omega), fun _ => HGood.out⟩
      case measure => simp [intOf]
    · go_wp2
      go_ret
      refine ⟨?_, HK.out⟩
      rw [HI1.out (by omega), HI2.out (by omega)]
      rfl

set_option maxRecDepth 100000 in
set_option maxHeartbeats 1000000 in
theorem check1_calls (w : World) (b : Nat) (a0 a1 : Int) (t : TypeId) (hs : Blk w b #[.int .i64 a0, .int .i64 a1] t) :
    Calls Tryz.prog 60 #[.slice (some ⟨b, 0, none⟩) 1 1] w (OkPost (.int .i64 (ivE (ivB a0 a1))) w) := by
  have HS0 := Lib.hid hs
  clear hs
  go_enter Tryz.func60, Tryz.ntmps60
  go_wp2
  go_loopw [7] (fun i wr => ∃ (k : Nat), k ≤ 1 ∧ i = .int .i64 k ∧ Below w.heap.size w wr ∧ (1 ≤ k → ivB a0 a1 = true)) (fun i _ => 1 - (intOf i).toNat)
  case atStart => exact ⟨0, by omega, rfl, Below.refl _ _, fun h => absurd h (by omega)⟩
  case round =>
    obtain ⟨k, hk, rfl, hb, h1⟩ := hrel
    have HS := Lib.hid (HS0.out.below hb)
    have HK := Lib.hid hb
    have HI1 := Lib.hid h1
    clear hb h1
    have hc : k = 0 ∨ k = 1 := by omega
    rcases hc with rfl | rfl
    · skip
      have e0 : wr.cell? ⟨b, 0, none⟩ = some (.int .i64 a0) := HS.out.at 0
      have e1 : wr.cell? ⟨b, 1, none⟩ = some (.int .i64 a1) := HS.out.at 1
      by_cases h1 : a1 < a0
      · skip
        have HBad : Hid (ivB a0 a1 = false) := Lib.hid (ivB_not (.inl h1))
        go_wp2
        go_ret
        refine ⟨?_, HK.out.alloc (HK.out.size) _⟩
        rw [HBad.out]
        rfl
      by_cases h2 : a0 < -2305843009213693952
      · skip
        have HBad : Hid (ivB a0 a1 = false) := Lib.hid (ivB_not (.inr (.inl h2)))
        go_wp2
        go_ret
        refine ⟨?_, HK.out.alloc (HK.out.size) _⟩
        rw [HBad.out]
        rfl
      by_cases h3 : 2305843009213693952 < a1
      · skip
        have HBad : Hid (ivB a0 a1 = false) := Lib.hid (ivB_not (.inr (.inr h3)))
        go_wp2
        go_ret
        refine ⟨?_, HK.out.alloc (HK.out.size) _⟩
        rw [HBad.out]
        rfl
      have HGood := Lib.hid (ivB_of h1 h2 h3)
      go_wp2
      go_roundw
      case rel => exact ⟨1, by omega, by go_num, HK.out.alloc HK.out.size _, fun _ => HGood.out⟩
      case measure => simp [intOf]
    · go_wp2
      go_ret
      refine ⟨?_, HK.out⟩
      rw [HI1.out (by omega)]
      rfl

set_option maxRecDepth 100000 in
set_option maxHeartbeats 1000000 in
theorem ivCheck_calls (w : World) (a0 a1 : Int) :
    Calls Tryz.prog 78 #[.agg #[.int .i64 a0, .int .i64 a1]] w (OkPost (.int .i64 (ivE (ivB a0 a1))) w) := by
  go_enter Tryz.func78, Tryz.ntmps78
  have E := ((Env.start w).alloc #[.int .i64 a0, .int .i64 a1] 32).alloc #[.int .i64 a0, .int .i64 a1] 32
  simp only [World.size_alloc] at E
  have HE := Lib.hid E
  clear E
  go_wp2_with fail
  go_at_call 60
  refine (check1_calls _ (w.heap.size + 1) a0 a1 _ HE.out.blks.1).mono ?_
  rintro e w1 ⟨rfl, hb1⟩
  have HB := Lib.hid (HE.out.below hb1)
  clear HE hb1
  go_wp2
  go_ret
  exact ⟨rfl, HB.out.bel⟩

/-- What 'made' makes. -/
def madB (lo hi : Int) : Bool := decide (-2305843009213693952 ≤ lo ∧ hi ≤ 2305843009213693952)
def madL (lo hi : Int) : Int := if madB lo hi = true then lo else 0
def madH (lo hi : Int) : Int := if madB lo hi = true then hi else 0
def madE (lo hi : Int) : Int := if madB lo hi = true then 0 else 16
set_option maxRecDepth 100000 in
set_option maxHeartbeats 1000000 in
theorem imade_calls (w : World) (lo hi : Int) :
    Calls Tryz.prog 63 #[.int .i64 lo, .int .i64 hi] w (OkPost (.tuple #[.agg #[.int .i64 (madL lo hi), .int .i64 (madH lo hi)], .int .i64 (madE lo hi)]) w) := by
  by_cases h1 : lo < -2305843009213693952
  · have hb : madB lo hi = false := decide_eq_false (by omega)
    have HM : Hid (madL lo hi = 0 ∧ madH lo hi = 0 ∧ madE lo hi = 16) := Lib.hid (by simp [madL, madH, madE, hb])
    clear hb
    go_enter Tryz.func63, Tryz.ntmps63
    go_wp2
    have E := (Env.start w).alloc #[.int .i64 0, .int .i64 0] 32
    have r0 : _ = some (Value.int .i64 0) := E.blks.1.at 0
    have r1 : _ = some (Value.int .i64 0) := E.blks.1.at 1
    rw [HM.out.1, HM.out.2.1, HM.out.2.2]
    refine bodyPost_ret (v := .tuple #[.agg #[.int .i64 0, .int .i64 0], .int .i64 16]) (by simp [results, Tryz.results63, go_sem, r0, r1]) rfl ?_
    exact ⟨rfl, E.bel⟩
  · by_cases h2 : 2305843009213693952 < hi
    · have hb : madB lo hi = false := decide_eq_false (by omega)
      have HM : Hid (madL lo hi = 0 ∧ madH lo hi = 0 ∧ madE lo hi = 16) := Lib.hid (by simp [madL, madH, madE, hb])
      clear hb
      go_enter Tryz.func63, Tryz.ntmps63
      go_wp2
      have E := (Env.start w).alloc #[.int .i64 0, .int .i64 0] 32
      have r0 : _ = some (Value.int .i64 0) := E.blks.1.at 0
      have r1 : _ = some (Value.int .i64 0) := E.blks.1.at 1
      rw [HM.out.1, HM.out.2.1, HM.out.2.2]
      refine bodyPost_ret (v := .tuple #[.agg #[.int .i64 0, .int .i64 0], .int .i64 16]) (by simp [results, Tryz.results63, go_sem, r0, r1]) rfl ?_
      exact ⟨rfl, E.bel⟩
    · have hb : madB lo hi = true := decide_eq_true (by omega)
      have HM : Hid (madL lo hi = lo ∧ madH lo hi = hi ∧ madE lo hi = 0) := Lib.hid (by simp [madL, madH, madE, hb])
      clear hb
      go_enter Tryz.func63, Tryz.ntmps63
      go_wp2
      have E := (Env.start w).alloc #[.int .i64 lo, .int .i64 hi] 32
      have r0 : _ = some (Value.int .i64 lo) := E.blks.1.at 0
      have r1 : _ = some (Value.int .i64 hi) := E.blks.1.at 1
      rw [HM.out.1, HM.out.2.1, HM.out.2.2]
      refine bodyPost_ret (v := .tuple #[.agg #[.int .i64 lo, .int .i64 hi], .int .i64 0]) (by simp [results, Tryz.results63, go_sem, r0, r1]) rfl ?_
      exact ⟨rfl, E.bel⟩

end Go.Proofs.YtilaheplclaokaaGreatDoor
namespace Go.Proofs.YtilaheplclaokaaGreatDoor
open Go.RowKit Go.Shelf

/-- A number of two words. -/
def twin (x : Int) : Value := .agg #[.int .i64 (x / 18446744073709551616), .int .u64 (x % 18446744073709551616)]

theorem times_arith (a b : Int) (ha0 : -9223372036854775808 ≤ a) (ha1 : a < 9223372036854775808) (hb0 : -9223372036854775808 ≤ b) (hb1 : b < 9223372036854775808) :
    (a % 18446744073709551616) * (b % 18446744073709551616) / 18446744073709551616 = a * b / 18446744073709551616 + (if a < 0 then b else 0) + (if b < 0 then a else 0) + (if a < 0 ∧ b < 0 then 18446744073709551616 else 0) ∧
    (a % 18446744073709551616) * (b % 18446744073709551616) % 18446744073709551616 = a * b % 18446744073709551616 := by
  have ea : a % 18446744073709551616 = if a < 0 then a + 18446744073709551616 else a := by split <;> omega
  have eb : b % 18446744073709551616 = if b < 0 then b + 18446744073709551616 else b := by split <;> omega
  rw [ea, eb]
  by_cases h1 : a < 0 <;> by_cases h2 : b < 0 <;> simp only [h1, h2, if_true, if_false, and_true, and_false, and_self]
  · have e : (a + 18446744073709551616) * (b + 18446744073709551616) = a * b + (a + b + 18446744073709551616) * 18446744073709551616 := by grind
    rw [e]
    generalize a * b = p
    omega
  · have e : (a + 18446744073709551616) * b = a * b + b * 18446744073709551616 := by grind
    rw [e]
    generalize a * b = p
    omega
  · have e : a * (b + 18446744073709551616) = a * b + a * 18446744073709551616 := by grind
    rw [e]
    generalize a * b = p
    omega
  · simp
theorem times_range (a b : Int) (ha0 : -9223372036854775808 ≤ a) (ha1 : a < 9223372036854775808) (hb0 : -9223372036854775808 ≤ b) (hb1 : b < 9223372036854775808) : -4611686018427387904 ≤ a * b / 18446744073709551616 ∧ a * b / 18446744073709551616 ≤ 4611686018427387904 := by
  have h1 : a * b ≤ 9223372036854775808 * 9223372036854775808 ∧ -(9223372036854775808 * 9223372036854775808) ≤ a * b := by
    have h : (a * b).natAbs ≤ 9223372036854775808 * 9223372036854775808 := by
      rw [Int.natAbs_mul]
      exact Nat.mul_le_mul (by omega) (by omega)
    omega
  omega

set_option maxRecDepth 100000 in
set_option maxHeartbeats 1000000 in
theorem ttimes_calls (w : World) (a b : Int) (ha0 : -9223372036854775808 ≤ a) (ha1 : a < 9223372036854775808) (hb0 : -9223372036854775808 ≤ b) (hb1 : b < 9223372036854775808) :
    Calls Tryz.prog 61 #[.int .i64 a, .int .i64 b] w (OkPost (twin (a * b)) w) := by
  obtain ⟨t1, t2⟩ := times_arith a b ha0 ha1 hb0 hb1
  have t3 := times_range a b ha0 ha1 hb0 hb1
  have hx0 : 0 ≤ a % 18446744073709551616 := by omega
  have hx1 : a % 18446744073709551616 < 18446744073709551616 := by omega
  have hy0 : 0 ≤ b % 18446744073709551616 := by omega
  have hy1 : b % 18446744073709551616 < 18446744073709551616 := by omega
  have CM := Lib.hid fun w' => mul64_calls (a % 18446744073709551616) (b % 18446744073709551616) hx0 hx1 hy0 hy1 w'
  rw [t1, t2] at CM
  have hwa : ∀ z : Int, IntKind.u64.wrap z = z % 18446744073709551616 := fun z => by simp [IntKind.wrap, IntKind.bits, IntKind.signed]
  rw [← hwa a, ← hwa b] at CM
  clear hx0 hx1 hy0 hy1 t1 t2
  have hwr : ∀ z : Int, IntKind.i64.wrap z = (z + 9223372036854775808) % 18446744073709551616 - 9223372036854775808 := fun z => by
    unfold IntKind.wrap
    simp only [IntKind.bits, IntKind.signed]
    simp
    split <;> omega
  have HT : Hid (twin (a * b) = .agg #[.int .i64 (a * b / 18446744073709551616), .int .u64 (a * b % 18446744073709551616)]) := Lib.hid rfl
  generalize a * b / 18446744073709551616 = P at *
  generalize a * b % 18446744073709551616 = L at *
  by_cases h1 : a < 0 <;> by_cases h2 : b < 0 <;> simp only [h1, h2, if_true, if_false, and_true, and_false, and_self, false_and, Int.add_zero] at CM
  · have hV : ((((P + b + a + 18446744073709551616 + 9223372036854775808) % 18446744073709551616 - 9223372036854775808 - b + 9223372036854775808) % 18446744073709551616 - 9223372036854775808 - a + 9223372036854775808) % 18446744073709551616 - 9223372036854775808) = P := by omega
    clear hwa
    clear t3
    go_enter Tryz.func61, Tryz.ntmps61
    go_wp2_with (go_at_call 111; refine (CM.out _).mono ?_; rintro e w1 ⟨rfl, rfl⟩)
    have E := (Env.start w).alloc #[.int .i64 P, .int .u64 L] 114
    have r0 : _ = some (Value.int .i64 P) := E.blks.1.at 0
    have r1 : _ = some (Value.int .u64 L) := E.blks.1.at 1
    rw [HT.out]
    refine bodyPost_ret (v := .agg #[.int .i64 P, .int .u64 L]) (by simp [results, Tryz.results61, go_sem, r0, r1]) rfl ?_
    exact ⟨rfl, E.bel⟩
  · have hV : (((P + b + 9223372036854775808) % 18446744073709551616 - 9223372036854775808 - b + 9223372036854775808) % 18446744073709551616 - 9223372036854775808) = P := by omega
    rw [show IntKind.u64.wrap b = b by rw [hwa]; omega] at CM
    clear hwa
    clear t3
    go_enter Tryz.func61, Tryz.ntmps61
    go_wp2_with (go_at_call 111; refine (CM.out _).mono ?_; rintro e w1 ⟨rfl, rfl⟩)
    have E := (Env.start w).alloc #[.int .i64 P, .int .u64 L] 114
    have r0 : _ = some (Value.int .i64 P) := E.blks.1.at 0
    have r1 : _ = some (Value.int .u64 L) := E.blks.1.at 1
    rw [HT.out]
    refine bodyPost_ret (v := .agg #[.int .i64 P, .int .u64 L]) (by simp [results, Tryz.results61, go_sem, r0, r1]) rfl ?_
    exact ⟨rfl, E.bel⟩
  · have hV : (((P + a + 9223372036854775808) % 18446744073709551616 - 9223372036854775808 - a + 9223372036854775808) % 18446744073709551616 - 9223372036854775808) = P := by omega
    rw [show IntKind.u64.wrap a = a by rw [hwa]; omega] at CM
    clear hwa
    clear t3
    go_enter Tryz.func61, Tryz.ntmps61
    go_wp2_with (go_at_call 111; refine (CM.out _).mono ?_; rintro e w1 ⟨rfl, rfl⟩)
    have E := (Env.start w).alloc #[.int .i64 P, .int .u64 L] 114
    have r0 : _ = some (Value.int .i64 P) := E.blks.1.at 0
    have r1 : _ = some (Value.int .u64 L) := E.blks.1.at 1
    rw [HT.out]
    refine bodyPost_ret (v := .agg #[.int .i64 P, .int .u64 L]) (by simp [results, Tryz.results61, go_sem, r0, r1]) rfl ?_
    exact ⟨rfl, E.bel⟩
  · have hV : ((P + 9223372036854775808) % 18446744073709551616 - 9223372036854775808) = P := by omega
    rw [show IntKind.u64.wrap a = a by rw [hwa]; omega] at CM
    rw [show IntKind.u64.wrap b = b by rw [hwa]; omega] at CM
    clear hwa
    clear t3
    go_enter Tryz.func61, Tryz.ntmps61
    go_wp2_with (go_at_call 111; refine (CM.out _).mono ?_; rintro e w1 ⟨rfl, rfl⟩)
    have E := (Env.start w).alloc #[.int .i64 P, .int .u64 L] 114
    have r0 : _ = some (Value.int .i64 P) := E.blks.1.at 0
    have r1 : _ = some (Value.int .u64 L) := E.blks.1.at 1
    rw [HT.out]
    refine bodyPost_ret (v := .agg #[.int .i64 P, .int .u64 L]) (by simp [results, Tryz.results61, go_sem, r0, r1]) rfl ?_
    exact ⟨rfl, E.bel⟩

end Go.Proofs.YtilaheplclaokaaGreatDoor
namespace Go.Proofs.YtilaheplclaokaaGreatDoor
open Go.RowKit Go.Shelf

/-- A borrow. -/
def bor0 (lo : Int) : Int := if 0 < lo then 1 else 0
theorem sub64_law (lo : Int) (h0 : 0 ≤ lo) (h1 : lo < 18446744073709551616) (w : World) : (callFunc 112 #[.int .u64 0, .int .u64 lo, .int .u64 0]).run Tryz.prog w = .ok (.value (.tuple #[.int .u64 ((18446744073709551616 - lo) % 18446744073709551616), .int .u64 (bor0 lo)])) w := by
  obtain ⟨n, rfl⟩ := Int.eq_ofNat_of_zero_le h0
  have hn : n < 18446744073709551616 := by omega
  have h := run_sub64 (P := Tryz.prog) 0 n 0 (by omega) w
  rw [run_callFunc_extern Tryz.func112 (by kernel_rfl) (by kernel_rfl) (by kernel_rfl) (e := sub64Entry) (by kernel_rfl)]
  have e1 : (18446744073709551616 - (n : Int)) % 18446744073709551616 = (((0 + 18446744073709551616 - n - 0) % 18446744073709551616 : Nat) : Int) := by omega
  have e2 : bor0 (n : Int) = ((if 0 < n + 0 then 1 else 0 : Nat) : Int) := by unfold bor0; split <;> split <;> omega
  rw [e1, e2]
  have h2 : (sub64Entry #[.int .u64 0, .int .u64 (n : Int), .int .u64 0]).run Tryz.prog w = _ := h
  rw [h2]
  rfl

set_option maxRecDepth 100000 in
set_option maxHeartbeats 1000000 in
theorem tneg_calls (w : World) (x : Int) (h0 : -85070591730234615865843651857942052864 ≤ x) (h1 : x ≤ 85070591730234615865843651857942052864) :
    Calls Tryz.prog 62 #[twin x] w (OkPost (twin (-x)) w) := by
  have HT : Hid (twin (-x) = .agg #[.int .i64 (-x / 18446744073709551616), .int .u64 (-x % 18446744073709551616)]) := Lib.hid rfl
  show Calls _ _ #[.agg #[.int .i64 (x / 18446744073709551616), .int .u64 (x % 18446744073709551616)]] _ _
  have hl0 : 0 ≤ x % 18446744073709551616 := by omega
  have hs := sub64_law (x % 18446744073709551616) hl0 (by omega)
  have hlo : (18446744073709551616 - x % 18446744073709551616) % 18446744073709551616 = -x % 18446744073709551616 := by omega
  have hhi : -(x / 18446744073709551616) - bor0 (x % 18446744073709551616) = -x / 18446744073709551616 := by unfold bor0; split <;> omega
  have hb0 : 0 ≤ bor0 (x % 18446744073709551616) ∧ bor0 (x % 18446744073709551616) ≤ 1 := by unfold bor0; split <;> omega
  have hr : -9223372036854775808 < x / 18446744073709551616 ∧ x / 18446744073709551616 < 9223372036854775808 := by omega
  have hr2 : -9223372036854775808 < -x / 18446744073709551616 ∧ -x / 18446744073709551616 < 9223372036854775808 := by omega
  rw [hlo] at hs
  clear hlo h0 h1
  generalize -x / 18446744073709551616 = H' at *
  generalize -x % 18446744073709551616 = L' at *
  generalize x % 18446744073709551616 = L at *
  generalize x / 18446744073709551616 = H at *
  generalize bor0 L = B at *
  have hw1 : IntKind.i64.wrap B = B := by unfold IntKind.wrap; simp only [IntKind.bits, IntKind.signed]; simp; split <;> omega
  have hw2 : IntKind.i64.wrap (-H) = -H := by unfold IntKind.wrap; simp only [IntKind.bits, IntKind.signed]; simp; split <;> omega
  have hw3 : IntKind.i64.wrap (-H - B) = H' := by rw [hhi]; unfold IntKind.wrap; simp only [IntKind.bits, IntKind.signed]; simp; split <;> omega
  clear hhi
  go_enter Tryz.func62, Tryz.ntmps62
  go_wp2
  have E := ((Env.start w).alloc #[.int .i64 H, .int .u64 L] 114).alloc #[.int .i64 H', .int .u64 L'] 114
  simp only [World.size_alloc] at E
  have r0 : _ = some (Value.int .i64 H') := E.blks.1.at 0
  have r1 : _ = some (Value.int .u64 L') := E.blks.1.at 1
  rw [HT.out]
  refine bodyPost_ret (v := .agg #[.int .i64 H', .int .u64 L']) (by simp [results, Tryz.results62, go_sem, r0, r1]) rfl ?_
  exact ⟨rfl, E.bel⟩

theorem cmp_twin (x y : Int) : cmpZ x y = if x / 18446744073709551616 < y / 18446744073709551616 then -1 else if y / 18446744073709551616 < x / 18446744073709551616 then 1 else cmpZ (x % 18446744073709551616) (y % 18446744073709551616) := by
  unfold cmpZ
  repeat' split
  all_goals omega

set_option maxRecDepth 100000 in
set_option maxHeartbeats 1000000 in
theorem tcmp_calls (w : World) (x y : Int) :
    Calls Tryz.prog 113 #[twin x, twin y] w (OkPost (.int .i64 (cmpZ x y)) w) := by
  have HT := Lib.hid (cmp_twin x y)
  show Calls _ _ #[.agg #[.int .i64 (x / 18446744073709551616), .int .u64 (x % 18446744073709551616)], .agg #[.int .i64 (y / 18446744073709551616), .int .u64 (y % 18446744073709551616)]] _ _
  generalize cmpZ x y = c at *
  generalize x / 18446744073709551616 = H at *
  generalize x % 18446744073709551616 = L at *
  generalize y / 18446744073709551616 = H' at *
  generalize y % 18446744073709551616 = L' at *
  go_enter Tryz.func113, Tryz.ntmps113
  go_wp2
  all_goals
    go_ret
    refine ⟨?_, ((Below.refl _ _).alloc (Nat.le_refl _) _).alloc (by simp) _⟩
    first
    | (have hc : c = 0 := (by rw [HT.out]; unfold cmpZ; repeat' split; all_goals omega)); (rw [hc]; rfl)
    | (have hc : c = -1 := (by rw [HT.out]; unfold cmpZ; repeat' split; all_goals omega)); (rw [hc]; rfl)
    | (have hc : c = 1 := (by rw [HT.out]; unfold cmpZ; repeat' split; all_goals omega)); (rw [hc]; rfl)

end Go.Proofs.YtilaheplclaokaaGreatDoor
namespace Go.Proofs.YtilaheplclaokaaGreatDoor
open Go.RowKit Go.Shelf

set_option maxRecDepth 100000 in
set_option maxHeartbeats 1000000 in
theorem div64_zero (lo : Int) (l0 : 0 ≤ lo) (l1 : lo < 18446744073709551616) (w : World) :
    Calls Tryz.prog 114 #[.int .u64 0, .int .u64 lo, .int .u64 1099511627776] w (QuietPost (.tuple #[.int .u64 (lo / 1099511627776), .int .u64 (lo % 1099511627776)]) w) := by
  have htd : Int.tdiv lo 1099511627776 = lo / 1099511627776 := Int.tdiv_eq_ediv_of_nonneg l0
  have htm : Int.tmod lo 1099511627776 = lo % 1099511627776 := Int.tmod_eq_emod_of_nonneg l0
  have hq : (lo / 1099511627776) % 18446744073709551616 = lo / 1099511627776 := by omega
  have hwr : ∀ z : Int, IntKind.u64.wrap z = z % 18446744073709551616 := fun z => by simp [IntKind.wrap, IntKind.bits, IntKind.signed]
  go_enter Tryz.func114, Tryz.ntmps114
  go_wp2
  go_quiet (fail)
  go_wp2
  go_ret2
  refine ⟨?_, _, rfl⟩
  rfl

theorem div64_any (hi lo : Int) (h0 : 0 ≤ hi) (h1 : hi < 1099511627776) (l0 : 0 ≤ lo) (l1 : lo < 18446744073709551616) (w : World) :
    Calls Tryz.prog 114 #[.int .u64 hi, .int .u64 lo, .int .u64 1099511627776] w (QuietPost (.tuple #[.int .u64 ((hi * 18446744073709551616 + lo) / 1099511627776), .int .u64 (lo % 1099511627776)]) w) := by
  by_cases h : hi = 0
  · subst h
    have e : ((0 : Int) * 18446744073709551616 + lo) = lo := by omega
    rw [e]
    exact div64_zero lo l0 l1 w
  · exact (div64_calls hi lo (by omega) h1 l0 l1 w).mono fun e w' ⟨h2, h3⟩ => ⟨h2, 0, by rw [h3]; rfl⟩

/-- Within 62 bits. -/
def clamp (z : Int) : Int := if z < -4611686018427387904 then -4611686018427387904 else if 4611686018427387904 < z then 4611686018427387904 else z

set_option maxRecDepth 100000 in
set_option maxHeartbeats 1000000 in
theorem down_pos (w : World) (x : Int) (h0 : 0 ≤ x) (h1 : x ≤ 85070591730234615865843651857942052864) :
    Calls Tryz.prog 65 #[twin x, .int .u64 1099511627776] w (OkPost (.int .i64 (clamp (x / 1099511627776))) w) := by
  show Calls _ _ #[.agg #[.int .i64 (x / 18446744073709551616), .int .u64 (x % 18446744073709551616)], .int .u64 1099511627776] _ _
  have hH0 : 0 ≤ x / 18446744073709551616 := by omega
  have hH1 : x / 18446744073709551616 ≤ 4611686018427387904 := by omega
  have hL : 0 ≤ x % 18446744073709551616 ∧ x % 18446744073709551616 < 18446744073709551616 := by omega
  have hx : x = x / 18446744073709551616 * 18446744073709551616 + x % 18446744073709551616 := by omega
  obtain ⟨z, hz⟩ : ∃ z, z = clamp (x / 1099511627776) := ⟨_, rfl⟩
  rw [← hz]
  have HZ := Lib.hid hz
  have HX := Lib.hid hx
  clear hz hx h0 h1
  generalize x / 18446744073709551616 = H at *
  generalize x % 18446744073709551616 = L at *
  have hn : ¬ H < 0 := by omega
  have hwr : ∀ z : Int, IntKind.u64.wrap z = z % 18446744073709551616 := fun z => by simp [IntKind.wrap, IntKind.bits, IntKind.signed]
  have hw1 : H % 18446744073709551616 = H := by omega
  by_cases hb : 1099511627776 ≤ H
  · have HF : Hid (z = 4611686018427387904) := Lib.hid (by rw [HZ.out, HX.out]; unfold clamp; repeat' split; all_goals omega)
    go_enter Tryz.func65, Tryz.ntmps65
    go_wp2
    go_ret
    exact ⟨by rw [HF.out]; rfl, (Below.refl _ _).alloc (Nat.le_refl _) _⟩
  · have CD := Lib.hid fun w' => div64_any H L hH0 (by omega) hL.1 hL.2 w'
    have hq : (H * 18446744073709551616 + L) / 1099511627776 = x / 1099511627776 := by rw [← HX.out]
    rw [hq] at CD
    have hq0 : 0 ≤ x / 1099511627776 ∧ x / 1099511627776 < 18446744073709551616 := by have := HX.out; omega
    clear hq
    have HZ2 : Hid (z = if x / 1099511627776 < 4611686018427387904 then x / 1099511627776 else 4611686018427387904) := Lib.hid (by rw [HZ.out]; unfold clamp; repeat' split; all_goals omega)
    clear HZ HX
    generalize x / 1099511627776 = q at *
    go_enter Tryz.func65, Tryz.ntmps65
    go_wp2_with (go_at_call 114; refine (CD.out _).mono ?_; rintro e w1 ⟨rfl, nd, rfl⟩)
    all_goals
      go_ret
      refine ⟨?_, below_drewN ((Below.refl _ _).alloc (Nat.le_refl _) _) _⟩
      first
      | (have hc : z = 4611686018427387904 := (by rw [HZ2.out]; split <;> omega)); (rw [hc]; rfl)
      | (have hc : z = q := (by rw [HZ2.out]; split <;> omega)); (rw [hc]; rfl)

theorem ceil_split (x H L : Int) (h : x = H * 18446744073709551616 + L) : -(-x / 1099511627776) = x / 1099511627776 + (if 0 < L % 1099511627776 then 1 else 0) := by
  split <;> omega

set_option maxRecDepth 100000 in
set_option maxHeartbeats 1000000 in
theorem up_pos (w : World) (x : Int) (h0 : 0 ≤ x) (h1 : x ≤ 85070591730234615865843651857942052864) :
    Calls Tryz.prog 67 #[twin x, .int .u64 1099511627776] w (OkPost (.int .i64 (clamp (-(-x / 1099511627776)))) w) := by
  show Calls _ _ #[.agg #[.int .i64 (x / 18446744073709551616), .int .u64 (x % 18446744073709551616)], .int .u64 1099511627776] _ _
  have hH0 : 0 ≤ x / 18446744073709551616 := by omega
  have hH1 : x / 18446744073709551616 ≤ 4611686018427387904 := by omega
  have hL : 0 ≤ x % 18446744073709551616 ∧ x % 18446744073709551616 < 18446744073709551616 := by omega
  have hx : x = x / 18446744073709551616 * 18446744073709551616 + x % 18446744073709551616 := by omega
  obtain ⟨z, hz⟩ : ∃ z, z = clamp (-(-x / 1099511627776)) := ⟨_, rfl⟩
  rw [← hz]
  have HZ := Lib.hid hz
  have HX := Lib.hid hx
  clear hz hx h0 h1
  generalize x / 18446744073709551616 = H at *
  generalize x % 18446744073709551616 = L at *
  have hn : ¬ H < 0 := by omega
  have hwr : ∀ z : Int, IntKind.u64.wrap z = z % 18446744073709551616 := fun z => by simp [IntKind.wrap, IntKind.bits, IntKind.signed]
  have hw1 : H % 18446744073709551616 = H := by omega
  by_cases hb : 1099511627776 ≤ H
  · have HF : Hid (z = 4611686018427387904) := Lib.hid (by rw [HZ.out, HX.out]; unfold clamp; repeat' split; all_goals omega)
    go_enter Tryz.func67, Tryz.ntmps67
    go_wp2
    go_ret
    exact ⟨by rw [HF.out]; rfl, (Below.refl _ _).alloc (Nat.le_refl _) _⟩
  · have CD := Lib.hid fun w' => div64_any H L hH0 (by omega) hL.1 hL.2 w'
    have hq : (H * 18446744073709551616 + L) / 1099511627776 = x / 1099511627776 := by rw [← HX.out]
    rw [hq] at CD
    have hq0 : 0 ≤ x / 1099511627776 ∧ x / 1099511627776 < 18446744073709551616 := by have := HX.out; omega
    clear hq
    have hcs := ceil_split x H L HX.out
    have HZ2 : Hid (z = if x / 1099511627776 < 4611686018427387904 then x / 1099511627776 + (if 0 < L % 1099511627776 then 1 else 0) else 4611686018427387904) := Lib.hid (by rw [HZ.out, hcs]; unfold clamp; repeat' split; all_goals omega)
    have hr0 : 0 ≤ L % 1099511627776 := by omega
    clear HZ HX hcs
    generalize x / 1099511627776 = q at *
    generalize L % 1099511627776 = r at *
    by_cases h1 : q < 4611686018427387904
    · have hw2 : (q + 1) % 18446744073709551616 = q + 1 := by omega
      by_cases h2 : 0 < r
      · go_enter Tryz.func67, Tryz.ntmps67
        go_wp2_with (go_at_call 114; refine (CD.out _).mono ?_; rintro e w1 ⟨rfl, nd, rfl⟩)
        all_goals
          go_ret
          refine ⟨?_, below_drewN ((Below.refl _ _).alloc (Nat.le_refl _) _) _⟩
          have hc : z = q + 1 := by rw [HZ2.out, if_pos (by omega), if_pos (by omega)]
          rw [hc]
          rfl
      · go_enter Tryz.func67, Tryz.ntmps67
        go_wp2_with (go_at_call 114; refine (CD.out _).mono ?_; rintro e w1 ⟨rfl, nd, rfl⟩)
        all_goals
          go_ret
          refine ⟨?_, below_drewN ((Below.refl _ _).alloc (Nat.le_refl _) _) _⟩
          have hc : z = q := by rw [HZ2.out, if_pos (by omega), if_neg (by omega)]; omega
          rw [hc]
          rfl
    · go_enter Tryz.func67, Tryz.ntmps67
      go_wp2_with (go_at_call 114; refine (CD.out _).mono ?_; rintro e w1 ⟨rfl, nd, rfl⟩)
      all_goals
        go_ret
        refine ⟨?_, below_drewN ((Below.refl _ _).alloc (Nat.le_refl _) _) _⟩
        have hc : z = 4611686018427387904 := by rw [HZ2.out, if_neg (by omega)]
        rw [hc]
        first
        | rfl
        | (have hq : q = 4611686018427387904 := (by omega)); (rw [hq]; rfl)

theorem clamp_neg (z : Int) : -clamp z = clamp (-z) := by
  unfold clamp
  repeat' split
  all_goals omega
theorem clamp_range (z : Int) : -4611686018427387904 ≤ clamp z ∧ clamp z ≤ 4611686018427387904 := by
  unfold clamp
  repeat' split
  all_goals omega


set_option maxRecDepth 100000 in
set_option maxHeartbeats 1000000 in
theorem down_calls (w : World) (x : Int) (h0 : -85070591730234615865843651857942052864 ≤ x) (h1 : x ≤ 85070591730234615865843651857942052864) :
    Calls Tryz.prog 65 #[twin x, .int .u64 1099511627776] w (OkPost (.int .i64 (clamp (x / 1099511627776))) w) := by
  by_cases hx : 0 ≤ x
  · exact down_pos w x hx h1
  · have CN : Hid (∀ w' : World, Calls Tryz.prog 62 #[.agg #[.int .i64 (x / 18446744073709551616), .int .u64 (x % 18446744073709551616)]] w' (OkPost (twin (-x)) w')) := Lib.hid fun w' => tneg_calls w' x h0 h1
    have CU := Lib.hid fun w' => up_pos w' (-x) (by omega) (by omega)
    have hz : clamp (-(-(-x) / 1099511627776)) = -clamp (x / 1099511627776) := by rw [clamp_neg, Int.neg_neg]
    rw [hz] at CU
    have hcr := clamp_range (x / 1099511627776)
    clear hz
    generalize clamp (x / 1099511627776) = z at *
    have hw : IntKind.i64.wrap z = z := by unfold IntKind.wrap; simp only [IntKind.bits, IntKind.signed]; simp; split <;> omega
    show Calls _ _ #[.agg #[.int .i64 (x / 18446744073709551616), .int .u64 (x % 18446744073709551616)], .int .u64 1099511627776] _ _
    have hn : x / 18446744073709551616 < 0 := by omega
    generalize x / 18446744073709551616 = H at *
    generalize x % 18446744073709551616 = L at *
    generalize twin (-x) = T at *
    go_enter Tryz.func65, Tryz.ntmps65
    go_wp2_with (first | (go_at_call 62; refine (CN.out _).mono ?_; rintro e w1 ⟨rfl, hb1⟩) | (go_at_call 67; refine (CU.out _).mono ?_; rintro e w2 ⟨rfl, hb2⟩))
    go_ret
    refine ⟨?_, ((Below.refl _ _).alloc (Nat.le_refl _) _).trans ((hb1.trans (hb2.mono hb1.size)).mono (by simp))⟩
    first
    | rfl
    | simp

set_option maxRecDepth 100000 in
set_option maxHeartbeats 1000000 in
theorem up_calls (w : World) (x : Int) (h0 : -85070591730234615865843651857942052864 ≤ x) (h1 : x ≤ 85070591730234615865843651857942052864) :
    Calls Tryz.prog 67 #[twin x, .int .u64 1099511627776] w (OkPost (.int .i64 (clamp (-(-x / 1099511627776)))) w) := by
  by_cases hx : 0 ≤ x
  · exact up_pos w x hx h1
  · have CN : Hid (∀ w' : World, Calls Tryz.prog 62 #[.agg #[.int .i64 (x / 18446744073709551616), .int .u64 (x % 18446744073709551616)]] w' (OkPost (twin (-x)) w')) := Lib.hid fun w' => tneg_calls w' x h0 h1
    have CU := Lib.hid fun w' => down_pos w' (-x) (by omega) (by omega)
    have hz : clamp (-x / 1099511627776) = -clamp (-(-x / 1099511627776)) := by rw [clamp_neg, Int.neg_neg]
    rw [hz] at CU
    have hcr := clamp_range (-(-x / 1099511627776))
    clear hz
    generalize clamp (-(-x / 1099511627776)) = z at *
    have hw : IntKind.i64.wrap z = z := by unfold IntKind.wrap; simp only [IntKind.bits, IntKind.signed]; simp; split <;> omega
    show Calls _ _ #[.agg #[.int .i64 (x / 18446744073709551616), .int .u64 (x % 18446744073709551616)], .int .u64 1099511627776] _ _
    have hn : x / 18446744073709551616 < 0 := by omega
    generalize x / 18446744073709551616 = H at *
    generalize x % 18446744073709551616 = L at *
    generalize twin (-x) = T at *
    go_enter Tryz.func67, Tryz.ntmps67
    go_wp2_with (first | (go_at_call 62; refine (CN.out _).mono ?_; rintro e w1 ⟨rfl, hb1⟩) | (go_at_call 65; refine (CU.out _).mono ?_; rintro e w2 ⟨rfl, hb2⟩))
    go_ret
    refine ⟨?_, ((Below.refl _ _).alloc (Nat.le_refl _) _).trans ((hb1.trans (hb2.mono hb1.size)).mono (by simp))⟩
    first
    | rfl
    | simp

end Go.Proofs.YtilaheplclaokaaGreatDoor

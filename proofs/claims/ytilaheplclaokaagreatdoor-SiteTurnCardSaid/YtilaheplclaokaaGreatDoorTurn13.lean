/-
Walks of package span: least and greatest of two, Scale with the denominator 2^40; site's just and scaled.
Contracts of Go's library, laid from the kit's shelf at this seat's numbers, in plain words.
Walks of package site: just, scaled; Check, look (valid sites).
Walks of package sphere: unit, Unit.
-/
import Derived.Shelf.Strings.SlTrimAscii
import Derived.Test.YtilaheplclaokaaGreatDoorProg
import Derived.ChangeKeysEq
import Derived.Test.YtilaheplclaokaaGreatDoorTurn11
import Derived.Test.YtilaheplclaokaaGreatDoorTurn12
set_option linter.unusedVariables false
set_option linter.unusedSimpArgs false
namespace Go.Proofs.YtilaheplclaokaaGreatDoor
open Go.RowKit Go.Shelf
attribute [local go_sem] Oper.semAt_some

set_option maxRecDepth 100000 in
set_option maxHeartbeats 1000000 in
theorem least1_calls (w : World) (b : Nat) (x0 x1 : Int) (t : TypeId) (hs : Blk w b #[.int .i64 (x1 / 18446744073709551616), .int .u64 (x1 % 18446744073709551616)] t) :
    Calls Tryz.prog 64 #[.agg #[.int .i64 (x0 / 18446744073709551616), .int .u64 (x0 % 18446744073709551616)], .slice (some ⟨b, 0, none⟩) 1 1] w (OkPost (twin (lo2 x0 x1)) w) := by
  have hlb := hs.lt
  have E := (((Env.start w).blk hs).alloc #[.int .i64 (x0 / 18446744073709551616), .int .u64 (x0 % 18446744073709551616)] 114).alloc #[.int .i64 0, .int .u64 0] 114
  simp only [World.size_alloc] at E
  have HE0 := Lib.hid E.swap
  clear E hs
  have CC : Hid (∀ (w' : World) (x y : Int), Calls Tryz.prog 113 #[.agg #[.int .i64 (x / 18446744073709551616), .int .u64 (x % 18446744073709551616)], .agg #[.int .i64 (y / 18446744073709551616), .int .u64 (y % 18446744073709551616)]] w' (OkPost (.int .i64 (cmpZ x y)) w')) := Lib.hid tcmp_calls
  obtain ⟨m1, hm1⟩ : ∃ m1, m1 = lo2 x0 x1 := ⟨_, rfl⟩
  rw [← hm1]
  have HM1 : Hid (m1 = if x1 < x0 then x1 else x0) := Lib.hid hm1
  clear hm1
  go_enter Tryz.func64, Tryz.ntmps64
  go_wp2
  go_loopw [9] (fun i wr => ∃ (k : Nat) (m : Int), k ≤ 1 ∧ i = .int .i64 k ∧ ((k = 0 ∧ m = x0) ∨ (k = 1 ∧ m = m1)) ∧ Env w [(w.heap.size, #[.int .i64 (m / 18446744073709551616), .int .u64 (m % 18446744073709551616)], 114), (w.heap.size + 1, #[.int .i64 0, .int .u64 0], 114), (b, #[.int .i64 (x1 / 18446744073709551616), .int .u64 (x1 % 18446744073709551616)], t)] [] wr) (fun i _ => 1 - (intOf i).toNat)
  case atStart => exact ⟨0, x0, by omega, rfl, .inl ⟨rfl, rfl⟩, HE0.out⟩
  case round =>
    clear HE0
    obtain ⟨k, m, hk, rfl, hkm, E⟩ := hrel
    have HE := Lib.hid E
    clear E
    rcases hkm with ⟨rfl, hm⟩ | ⟨rfl, hm⟩
    · rw [hm] at HE
      clear hm m
      by_cases hc : x1 < x0
      · have hcm := cmp_neg' hc
        have e0 : wr.cell? ⟨b, 0, none⟩ = some (.int .i64 (x1 / 18446744073709551616)) := HE.out.blks.2.2.1.at 0
        have e1 : wr.cell? ⟨b, 1, none⟩ = some (.int .u64 (x1 % 18446744073709551616)) := HE.out.blks.2.2.1.at 1
        have e2 : wr.cell? ⟨w.heap.size, 0, none⟩ = some (.int .i64 (x0 / 18446744073709551616)) := HE.out.blks.1.at 0
        have e3 : wr.cell? ⟨w.heap.size, 1, none⟩ = some (.int .u64 (x0 % 18446744073709551616)) := HE.out.blks.1.at 1
        have hl : w.heap.size < wr.heap.size := HE.out.blks.1.lt
        go_wp2_with (go_at_call 113; refine (CC.out _ x1 x0).mono ?_; rintro e w2 ⟨rfl, hb2⟩; have E2 := (HE.out.alloc #[.int .i64 (x1 / 18446744073709551616), .int .u64 (x1 % 18446744073709551616)] 114).below hb2; have e4 : w2.cell? ⟨wr.heap.size, 0, none⟩ = some (.int .i64 (x1 / 18446744073709551616)) := E2.blks.1.at 0; have e5 : w2.cell? ⟨wr.heap.size, 1, none⟩ = some (.int .u64 (x1 % 18446744073709551616)) := E2.blks.1.at 1; have e6 : w2.cell? ⟨w.heap.size, 0, none⟩ = some (.int .i64 (x0 / 18446744073709551616)) := E2.blks.2.1.at 0; have e7 : w2.cell? ⟨w.heap.size, 1, none⟩ = some (.int .u64 (x0 % 18446744073709551616)) := E2.blks.2.1.at 1; have g6 := E2.blks.2.1.fr 0; have g7 := E2.blks.2.1.fr 1; have HE2 := Lib.hid E2.drop; clear E2 hb2)
        have E3 := (HE2.out.setY (Nat.le_refl _) ⟨by simp, by simp only [ne_eq]; omega, trivial⟩ rfl 0 (.int .i64 (x1 / 18446744073709551616))).setY (Nat.le_refl _) ⟨by simp, by simp only [ne_eq]; omega, trivial⟩ rfl 1 (.int .u64 (x1 % 18446744073709551616))
        have HE3 := Lib.hid E3
        clear E3
        go_roundw
        case rel => exact ⟨1, m1, by omega, by go_num, .inr ⟨rfl, rfl⟩, by rw [HM1.out, if_pos (by omega)]; exact HE3.out⟩
        case measure => simp [intOf]
      · have hcm := cmpZ_nneg2 hc
        have e0 : wr.cell? ⟨b, 0, none⟩ = some (.int .i64 (x1 / 18446744073709551616)) := HE.out.blks.2.2.1.at 0
        have e1 : wr.cell? ⟨b, 1, none⟩ = some (.int .u64 (x1 % 18446744073709551616)) := HE.out.blks.2.2.1.at 1
        have e2 : wr.cell? ⟨w.heap.size, 0, none⟩ = some (.int .i64 (x0 / 18446744073709551616)) := HE.out.blks.1.at 0
        have e3 : wr.cell? ⟨w.heap.size, 1, none⟩ = some (.int .u64 (x0 % 18446744073709551616)) := HE.out.blks.1.at 1
        have hl : w.heap.size < wr.heap.size := HE.out.blks.1.lt
        go_wp2_with (go_at_call 113; refine (CC.out _ x1 x0).mono ?_; rintro e w2 ⟨rfl, hb2⟩; have E2 := (HE.out.alloc #[.int .i64 (x1 / 18446744073709551616), .int .u64 (x1 % 18446744073709551616)] 114).below hb2; have e4 : w2.cell? ⟨wr.heap.size, 0, none⟩ = some (.int .i64 (x1 / 18446744073709551616)) := E2.blks.1.at 0; have e5 : w2.cell? ⟨wr.heap.size, 1, none⟩ = some (.int .u64 (x1 % 18446744073709551616)) := E2.blks.1.at 1; have e6 : w2.cell? ⟨w.heap.size, 0, none⟩ = some (.int .i64 (x0 / 18446744073709551616)) := E2.blks.2.1.at 0; have e7 : w2.cell? ⟨w.heap.size, 1, none⟩ = some (.int .u64 (x0 % 18446744073709551616)) := E2.blks.2.1.at 1; have g6 := E2.blks.2.1.fr 0; have g7 := E2.blks.2.1.fr 1; have HE2 := Lib.hid E2.drop; clear E2 hb2)
        go_roundw
        case rel => exact ⟨1, m1, by omega, by go_num, .inr ⟨rfl, rfl⟩, by rw [HM1.out, if_neg (by omega)]; exact HE2.out⟩
        case measure => simp [intOf]
    · rw [hm] at HE
      clear hm m
      have e2 : wr.cell? ⟨w.heap.size, 0, none⟩ = some (.int .i64 (m1 / 18446744073709551616)) := HE.out.blks.1.at 0
      have e3 : wr.cell? ⟨w.heap.size, 1, none⟩ = some (.int .u64 (m1 % 18446744073709551616)) := HE.out.blks.1.at 1
      have f0 : wr.cell? ⟨w.heap.size + 1, 0, none⟩ = some (.int .i64 0) := HE.out.blks.2.1.at 0
      have f1 : wr.cell? ⟨w.heap.size + 1, 1, none⟩ = some (.int .u64 0) := HE.out.blks.2.1.at 1
      have g0 := HE.out.blks.2.1.fr 0
      have g1 := HE.out.blks.2.1.fr 1
      go_wp2
      have E3 := (HE.out.swap.setY (by omega) ⟨by simp, by simp only [ne_eq]; omega, trivial⟩ rfl 0 (.int .i64 (m1 / 18446744073709551616))).setY (by omega) ⟨by simp, by simp only [ne_eq]; omega, trivial⟩ rfl 1 (.int .u64 (m1 % 18446744073709551616))
      have r0 : _ = some (Value.int .i64 (m1 / 18446744073709551616)) := E3.blks.1.at 0
      have r1 : _ = some (Value.int .u64 (m1 % 18446744073709551616)) := E3.blks.1.at 1
      refine bodyPost_ret (v := .agg #[.int .i64 (m1 / 18446744073709551616), .int .u64 (m1 % 18446744073709551616)]) (by simp [results, Tryz.results64, go_sem, r0, r1]) rfl ?_
      exact ⟨rfl, E3.bel⟩

set_option maxRecDepth 100000 in
set_option maxHeartbeats 1000000 in
theorem greatest1_calls (w : World) (b : Nat) (x0 x1 : Int) (t : TypeId) (hs : Blk w b #[.int .i64 (x1 / 18446744073709551616), .int .u64 (x1 % 18446744073709551616)] t) :
    Calls Tryz.prog 66 #[.agg #[.int .i64 (x0 / 18446744073709551616), .int .u64 (x0 % 18446744073709551616)], .slice (some ⟨b, 0, none⟩) 1 1] w (OkPost (twin (hi2 x0 x1)) w) := by
  have hlb := hs.lt
  have E := (((Env.start w).blk hs).alloc #[.int .i64 (x0 / 18446744073709551616), .int .u64 (x0 % 18446744073709551616)] 114).alloc #[.int .i64 0, .int .u64 0] 114
  simp only [World.size_alloc] at E
  have HE0 := Lib.hid E.swap
  clear E hs
  have CC : Hid (∀ (w' : World) (x y : Int), Calls Tryz.prog 113 #[.agg #[.int .i64 (x / 18446744073709551616), .int .u64 (x % 18446744073709551616)], .agg #[.int .i64 (y / 18446744073709551616), .int .u64 (y % 18446744073709551616)]] w' (OkPost (.int .i64 (cmpZ x y)) w')) := Lib.hid tcmp_calls
  obtain ⟨m1, hm1⟩ : ∃ m1, m1 = hi2 x0 x1 := ⟨_, rfl⟩
  rw [← hm1]
  have HM1 : Hid (m1 = if x0 < x1 then x1 else x0) := Lib.hid hm1
  clear hm1
  go_enter Tryz.func66, Tryz.ntmps66
  go_wp2
  go_loopw [9] (fun i wr => ∃ (k : Nat) (m : Int), k ≤ 1 ∧ i = .int .i64 k ∧ ((k = 0 ∧ m = x0) ∨ (k = 1 ∧ m = m1)) ∧ Env w [(w.heap.size, #[.int .i64 (m / 18446744073709551616), .int .u64 (m % 18446744073709551616)], 114), (w.heap.size + 1, #[.int .i64 0, .int .u64 0], 114), (b, #[.int .i64 (x1 / 18446744073709551616), .int .u64 (x1 % 18446744073709551616)], t)] [] wr) (fun i _ => 1 - (intOf i).toNat)
  case atStart => exact ⟨0, x0, by omega, rfl, .inl ⟨rfl, rfl⟩, HE0.out⟩
  case round =>
    clear HE0
    obtain ⟨k, m, hk, rfl, hkm, E⟩ := hrel
    have HE := Lib.hid E
    clear E
    rcases hkm with ⟨rfl, hm⟩ | ⟨rfl, hm⟩
    · rw [hm] at HE
      clear hm m
      by_cases hc : x0 < x1
      · have hcm := cmp_pos' hc
        have e0 : wr.cell? ⟨b, 0, none⟩ = some (.int .i64 (x1 / 18446744073709551616)) := HE.out.blks.2.2.1.at 0
        have e1 : wr.cell? ⟨b, 1, none⟩ = some (.int .u64 (x1 % 18446744073709551616)) := HE.out.blks.2.2.1.at 1
        have e2 : wr.cell? ⟨w.heap.size, 0, none⟩ = some (.int .i64 (x0 / 18446744073709551616)) := HE.out.blks.1.at 0
        have e3 : wr.cell? ⟨w.heap.size, 1, none⟩ = some (.int .u64 (x0 % 18446744073709551616)) := HE.out.blks.1.at 1
        have hl : w.heap.size < wr.heap.size := HE.out.blks.1.lt
        go_wp2_with (go_at_call 113; refine (CC.out _ x1 x0).mono ?_; rintro e w2 ⟨rfl, hb2⟩; have E2 := (HE.out.alloc #[.int .i64 (x1 / 18446744073709551616), .int .u64 (x1 % 18446744073709551616)] 114).below hb2; have e4 : w2.cell? ⟨wr.heap.size, 0, none⟩ = some (.int .i64 (x1 / 18446744073709551616)) := E2.blks.1.at 0; have e5 : w2.cell? ⟨wr.heap.size, 1, none⟩ = some (.int .u64 (x1 % 18446744073709551616)) := E2.blks.1.at 1; have e6 : w2.cell? ⟨w.heap.size, 0, none⟩ = some (.int .i64 (x0 / 18446744073709551616)) := E2.blks.2.1.at 0; have e7 : w2.cell? ⟨w.heap.size, 1, none⟩ = some (.int .u64 (x0 % 18446744073709551616)) := E2.blks.2.1.at 1; have g6 := E2.blks.2.1.fr 0; have g7 := E2.blks.2.1.fr 1; have HE2 := Lib.hid E2.drop; clear E2 hb2)
        have E3 := (HE2.out.setY (Nat.le_refl _) ⟨by simp, by simp only [ne_eq]; omega, trivial⟩ rfl 0 (.int .i64 (x1 / 18446744073709551616))).setY (Nat.le_refl _) ⟨by simp, by simp only [ne_eq]; omega, trivial⟩ rfl 1 (.int .u64 (x1 % 18446744073709551616))
        have HE3 := Lib.hid E3
        clear E3
        go_roundw
        case rel => exact ⟨1, m1, by omega, by go_num, .inr ⟨rfl, rfl⟩, by rw [HM1.out, if_pos (by omega)]; exact HE3.out⟩
        case measure => simp [intOf]
      · have hcm := cmpZ_npos2 hc
        have e0 : wr.cell? ⟨b, 0, none⟩ = some (.int .i64 (x1 / 18446744073709551616)) := HE.out.blks.2.2.1.at 0
        have e1 : wr.cell? ⟨b, 1, none⟩ = some (.int .u64 (x1 % 18446744073709551616)) := HE.out.blks.2.2.1.at 1
        have e2 : wr.cell? ⟨w.heap.size, 0, none⟩ = some (.int .i64 (x0 / 18446744073709551616)) := HE.out.blks.1.at 0
        have e3 : wr.cell? ⟨w.heap.size, 1, none⟩ = some (.int .u64 (x0 % 18446744073709551616)) := HE.out.blks.1.at 1
        have hl : w.heap.size < wr.heap.size := HE.out.blks.1.lt
        go_wp2_with (go_at_call 113; refine (CC.out _ x1 x0).mono ?_; rintro e w2 ⟨rfl, hb2⟩; have E2 := (HE.out.alloc #[.int .i64 (x1 / 18446744073709551616), .int .u64 (x1 % 18446744073709551616)] 114).below hb2; have e4 : w2.cell? ⟨wr.heap.size, 0, none⟩ = some (.int .i64 (x1 / 18446744073709551616)) := E2.blks.1.at 0; have e5 : w2.cell? ⟨wr.heap.size, 1, none⟩ = some (.int .u64 (x1 % 18446744073709551616)) := E2.blks.1.at 1; have e6 : w2.cell? ⟨w.heap.size, 0, none⟩ = some (.int .i64 (x0 / 18446744073709551616)) := E2.blks.2.1.at 0; have e7 : w2.cell? ⟨w.heap.size, 1, none⟩ = some (.int .u64 (x0 % 18446744073709551616)) := E2.blks.2.1.at 1; have g6 := E2.blks.2.1.fr 0; have g7 := E2.blks.2.1.fr 1; have HE2 := Lib.hid E2.drop; clear E2 hb2)
        go_roundw
        case rel => exact ⟨1, m1, by omega, by go_num, .inr ⟨rfl, rfl⟩, by rw [HM1.out, if_neg (by omega)]; exact HE2.out⟩
        case measure => simp [intOf]
    · rw [hm] at HE
      clear hm m
      have e2 : wr.cell? ⟨w.heap.size, 0, none⟩ = some (.int .i64 (m1 / 18446744073709551616)) := HE.out.blks.1.at 0
      have e3 : wr.cell? ⟨w.heap.size, 1, none⟩ = some (.int .u64 (m1 % 18446744073709551616)) := HE.out.blks.1.at 1
      have f0 : wr.cell? ⟨w.heap.size + 1, 0, none⟩ = some (.int .i64 0) := HE.out.blks.2.1.at 0
      have f1 : wr.cell? ⟨w.heap.size + 1, 1, none⟩ = some (.int .u64 0) := HE.out.blks.2.1.at 1
      have g0 := HE.out.blks.2.1.fr 0
      have g1 := HE.out.blks.2.1.fr 1
      go_wp2
      have E3 := (HE.out.swap.setY (by omega) ⟨by simp, by simp only [ne_eq]; omega, trivial⟩ rfl 0 (.int .i64 (m1 / 18446744073709551616))).setY (by omega) ⟨by simp, by simp only [ne_eq]; omega, trivial⟩ rfl 1 (.int .u64 (m1 % 18446744073709551616))
      have r0 : _ = some (Value.int .i64 (m1 / 18446744073709551616)) := E3.blks.1.at 0
      have r1 : _ = some (Value.int .u64 (m1 % 18446744073709551616)) := E3.blks.1.at 1
      refine bodyPost_ret (v := .agg #[.int .i64 (m1 / 18446744073709551616), .int .u64 (m1 % 18446744073709551616)]) (by simp [results, Tryz.results66, go_sem, r0, r1]) rfl ?_
      exact ⟨rfl, E3.bel⟩

/-- What Scale gives, with the denominator 2^40. -/
def scLo (a0 a1 n : Int) : Int := clamp (lo2 (a0 * n) (a1 * n) / 1099511627776)
def scHi (a0 a1 n : Int) : Int := clamp (-(-(hi2 (a0 * n) (a1 * n)) / 1099511627776))
theorem prod_range2 {a c : Int} (ha : -2305843009213693952 ≤ a ∧ a ≤ 2305843009213693952) (hc : -9223372036854775808 ≤ c ∧ c < 9223372036854775808) : -85070591730234615865843651857942052864 ≤ a * c ∧ a * c ≤ 85070591730234615865843651857942052864 := by
  have h : (a * c).natAbs ≤ 2305843009213693952 * 9223372036854775808 := by
    rw [Int.natAbs_mul]
    exact Nat.mul_le_mul (by omega) (by omega)
  omega

set_option maxRecDepth 100000 in
set_option maxHeartbeats 2000000 in
theorem Scale_calls (w : World) (a0 a1 n : Int) (ha : ivB a0 a1 = true) (hn : -9223372036854775808 ≤ n ∧ n < 9223372036854775808) :
    Calls Tryz.prog 16 #[.agg #[.int .i64 a0, .int .i64 a1], .int .i64 n, .int .i64 1099511627776] w (OkPost (ivV (scLo a0 a1 n) (scHi a0 a1 n)) w) := by
  have hA := ivB_spec ha
  have R0 := prod_range2 (a := a0) (c := n) (by omega) hn
  have R1 := prod_range2 (a := a1) (c := n) (by omega) hn
  have RL := lo2_range R0 R1
  have RH := hi2_range R0 R1
  have CM := Lib.hid fun w' => imade_calls w' (scLo a0 a1 n) (scHi a0 a1 n)
  have CD : Hid (∀ w' : World, Calls Tryz.prog 65 #[twin (lo2 (a0 * n) (a1 * n)), .int .u64 1099511627776] w' (OkPost (.int .i64 (scLo a0 a1 n)) w')) := Lib.hid fun w' => down_calls w' _ RL.1 RL.2
  have CU : Hid (∀ w' : World, Calls Tryz.prog 67 #[twin (hi2 (a0 * n) (a1 * n)), .int .u64 1099511627776] w' (OkPost (.int .i64 (scHi a0 a1 n)) w')) := Lib.hid fun w' => up_calls w' _ RH.1 RH.2
  have CL := Lib.hid fun w' b t h => least1_calls w' b (a0 * n) (a1 * n) t h
  have CG := Lib.hid fun w' b t h => greatest1_calls w' b (a0 * n) (a1 * n) t h
  have C0 := Lib.hid fun w' => ttimes_calls w' a0 n (by omega) (by omega) hn.1 hn.2
  have C1 := Lib.hid fun w' => ttimes_calls w' a1 n (by omega) (by omega) hn.1 hn.2
  unfold twin at C0 C1
  generalize twin (lo2 (a0 * n) (a1 * n)) = TL at *
  generalize twin (hi2 (a0 * n) (a1 * n)) = TH at *
  generalize scLo a0 a1 n = ml at *
  generalize scHi a0 a1 n = mh at *
  generalize a0 * n = p0 at *
  generalize a1 * n = p1 at *
  have HV : Hid (ivV ml mh = .tuple #[.agg #[.int .i64 (madL ml mh), .int .i64 (madH ml mh)], .int .i64 (madE ml mh)]) := Lib.hid rfl
  generalize madL ml mh = lo at *
  generalize madH ml mh = hi at *
  generalize madE ml mh = er at *
  rw [HV.out]
  have CK := Lib.hid fun w' b t h => check1_calls w' b a0 a1 t h
  rw [ivE_true ha] at CK
  clear HV RL RH R0 R1 hA ha hn
  have E := ((Env.start w).alloc #[.int .i64 a0, .int .i64 a1] 32).alloc #[.int .i64 0, .int .i64 0] 32
  simp only [World.size_alloc] at E
  have HE := Lib.hid E
  clear E
  go_enter Tryz.func16, Tryz.ntmps16
  go_wp2_with fail
  go_at_call 60
  replace HE := Lib.hid (HE.out.alloc #[.int .i64 a0, .int .i64 a1] 32)
  simp only [World.size_alloc] at HE
  refine (CK.out _ _ _ HE.out.blks.1).mono ?_
  rintro e W1 ⟨rfl, hb1⟩
  replace HE := Lib.hid (HE.out.drop.below hb1)
  clear hb1
  go_wp2_with fail
  have hk3 := HE.out.blks.1.lt
  have hw8 := HE.out.size
  refine wp_region_any (by kernel_rfl) ?_
  refine wpAny_of_held (S := fun W' => Env w [(w.heap.size + 1, #[.int .i64 0, .int .i64 0], 32), (w.heap.size, #[.int .i64 a0, .int .i64 a1], 32)] [] W') _ _ _ _ ?_
  have hS := HE.out.drew
  refine wpAnyH_take (i := 0) (v := .pointer (some ⟨w.heap.size, 0, none⟩)) rfl (by kernel_rfl) (by kernel_rfl) (by kernel_rfl) (fun _ _ _ h => h) (.inl ⟨rfl, fun w0 hw0 => ?a0⟩) hS ?_
  case a0 =>
    have e0 : w0.cell? ⟨w.heap.size, 0, none⟩ = some (.int .i64 a0) := hw0.blks.2.1.at 0; have e1 : w0.cell? ⟨w.heap.size, 1, none⟩ = some (.int .i64 a1) := hw0.blks.2.1.at 1
    go_simp
  refine wpAnyH_take (i := 1) (v := .int .i64 a0) rfl (by kernel_rfl) (by kernel_rfl) (by kernel_rfl) (fun _ _ _ h => h) (.inl ⟨rfl, fun w0 hw0 => ?a1⟩) hS ?_
  case a1 =>
    have e0 : w0.cell? ⟨w.heap.size, 0, none⟩ = some (.int .i64 a0) := hw0.blks.2.1.at 0; have e1 : w0.cell? ⟨w.heap.size, 1, none⟩ = some (.int .i64 a1) := hw0.blks.2.1.at 1
    go_simp
  refine wpAnyH_take (i := 2) (v := .int .i64 n) rfl (by kernel_rfl) (by kernel_rfl) (by kernel_rfl) (fun _ _ _ h => h) (.inl ⟨rfl, fun w0 hw0 => ?a2⟩) hS ?_
  case a2 =>
    have e0 : w0.cell? ⟨w.heap.size, 0, none⟩ = some (.int .i64 a0) := hw0.blks.2.1.at 0; have e1 : w0.cell? ⟨w.heap.size, 1, none⟩ = some (.int .i64 a1) := hw0.blks.2.1.at 1
    go_simp
  refine wpAnyH_take (i := 4) (v := .pointer (some ⟨w.heap.size, 1, none⟩)) rfl (by kernel_rfl) (by kernel_rfl) (by kernel_rfl) (fun _ _ _ h => h) (.inl ⟨rfl, fun w0 hw0 => ?a4⟩) hS ?_
  case a4 =>
    have e0 : w0.cell? ⟨w.heap.size, 0, none⟩ = some (.int .i64 a0) := hw0.blks.2.1.at 0; have e1 : w0.cell? ⟨w.heap.size, 1, none⟩ = some (.int .i64 a1) := hw0.blks.2.1.at 1
    go_simp
  refine wpAnyH_take (i := 5) (v := .int .i64 a1) rfl (by kernel_rfl) (by kernel_rfl) (by kernel_rfl) (fun _ _ _ h => h) (.inl ⟨rfl, fun w0 hw0 => ?a5⟩) hS ?_
  case a5 =>
    have e0 : w0.cell? ⟨w.heap.size, 0, none⟩ = some (.int .i64 a0) := hw0.blks.2.1.at 0; have e1 : w0.cell? ⟨w.heap.size, 1, none⟩ = some (.int .i64 a1) := hw0.blks.2.1.at 1
    go_simp
  refine wpAnyH_take (i := 6) (v := .int .i64 n) rfl (by kernel_rfl) (by kernel_rfl) (by kernel_rfl) (fun _ _ _ h => h) (.inl ⟨rfl, fun w0 hw0 => ?a6⟩) hS ?_
  case a6 =>
    have e0 : w0.cell? ⟨w.heap.size, 0, none⟩ = some (.int .i64 a0) := hw0.blks.2.1.at 0; have e1 : w0.cell? ⟨w.heap.size, 1, none⟩ = some (.int .i64 a1) := hw0.blks.2.1.at 1
    go_simp
  refine Pend.start (A := [⟨8, 9, #[.int .i64 0, .int .u64 0], 114, ptrTo⟩, ⟨9, 10, #[.int .i64 0, .int .u64 0], 114, ptrTo⟩]) (B := W1.heap.size) (S := Env w [] []) ?_ (float2 rfl ⟨_, rfl, rfl, rfl, by kernel_rfl, fun w => by simp only [ptrTo, rowTo]; go_simp⟩ ⟨_, rfl, rfl, rfl, by kernel_rfl, fun w => by simp only [ptrTo, rowTo]; go_simp⟩) hS ⟨trivial, trivial, hS.bel⟩ (by simp)
  clear hS
  refine Pend.step (i := 3) (by kernel_rfl) (by kernel_rfl) rfl (by kernel_rfl) (by kernel_rfl) (by kernel_rfl) (fun _ _ d _ _ h => by cases d <;> exact h) Env.mono Env.mono ?_
  intro Wa h0 h1 hB
  refine wpOp_plain rfl rfl fun K' hK' => ?_
  go_simp
  refine (C0.out _).mono ?_
  rintro e Wb ⟨rfl, hb⟩
  refine hK' _ _ ⟨hb, _, h1.below hb, Env.mono, ?_⟩
  clear hK' K' h0 h1 hB
  clear hb
  refine Pend.step (i := 7) (by kernel_rfl) (by kernel_rfl) rfl (by kernel_rfl) (by kernel_rfl) (by kernel_rfl) (fun _ _ d _ _ h => by cases d <;> exact h) Env.mono Env.mono ?_
  intro Wa h0 h1 hB
  refine wpOp_plain rfl rfl fun K' hK' => ?_
  go_simp
  refine (C1.out _).mono ?_
  rintro e Wb ⟨rfl, hb⟩
  refine hK' _ _ ⟨hb, _, h1.below hb, Env.mono, ?_⟩
  clear hK' K' h0 h1 hB
  clear hb
  refine Pend.done 2 (by kernel_rfl) (by kernel_rfl) (by kernel_rfl) Env.mono Env.mono ?_
  intro bs Wa hl hc h0 h1 hok
  obtain ⟨b, c, rfl, hb, hc, hB1, hB2, hne⟩ := two_al hl hc hok
  replace HE := Lib.hid ((h0.blk hc).blk hb)
  clear hl hok h0 h1 hb hc
  simp only [puts, ptrTo]
  have f0 : Wa.cell? ⟨b, 0, none⟩ = some (.int .i64 0) := HE.out.blks.1.at 0
  have f1 : Wa.cell? ⟨b, 1, none⟩ = some (.int .u64 0) := HE.out.blks.1.at 1
  have g0 := HE.out.blks.1.fr 0
  have g1 := HE.out.blks.1.fr 1
  refine wpAnyH_all (rs := [10]) (by kernel_rfl) (by simp) ?_
  intro i0 hi0
  obtain rfl : i0 = 10 := by simpa using hi0
  refine wpOp_plain rfl rfl fun K' hK' => ?_
  go_simp
  replace HE := Lib.hid ((HE.out.setY (by omega) (by simp [Free] <;> omega) rfl 0 (.int .i64 (p0 / 18446744073709551616))).setY (by omega) (by simp [Free] <;> omega) rfl 1 (.int .u64 (p0 % 18446744073709551616))).swap
  clear f0 f1 g0 g1
  generalize (Wa.setCell ⟨b, 0, none⟩ (.int .i64 (p0 / 18446744073709551616))).setCell ⟨b, 1, none⟩ (.int .u64 (p0 % 18446744073709551616)) = Wd at *
  refine hK' _ _ ⟨HE.out.drop.drop, ?_⟩
  clear hK' K'
  have f0 : Wd.cell? ⟨c, 0, none⟩ = some (.int .i64 0) := HE.out.blks.1.at 0
  have f1 : Wd.cell? ⟨c, 1, none⟩ = some (.int .u64 0) := HE.out.blks.1.at 1
  have g0 := HE.out.blks.1.fr 0
  have g1 := HE.out.blks.1.fr 1
  refine wpAnyH_all (rs := [11]) (by kernel_rfl) (by simp) ?_
  intro i0 hi0
  obtain rfl : i0 = 11 := by simpa using hi0
  refine wpOp_plain rfl rfl fun K' hK' => ?_
  go_simp
  replace HE := Lib.hid ((HE.out.setY (by omega) (by simp [Free] <;> omega) rfl 0 (.int .i64 (p1 / 18446744073709551616))).setY (by omega) (by simp [Free] <;> omega) rfl 1 (.int .u64 (p1 % 18446744073709551616))).swap
  clear f0 f1 g0 g1
  generalize (Wd.setCell ⟨c, 0, none⟩ (.int .i64 (p1 / 18446744073709551616))).setCell ⟨c, 1, none⟩ (.int .u64 (p1 % 18446744073709551616)) = We at *
  refine hK' _ _ ⟨HE.out.drop.drop, wpAnyH_done (by kernel_rfl) ?_ _⟩
  clear hK' K'
  go_wp2_with fail
  have hk3 := HE.out.blks.1.lt
  refine wp_region_any (by kernel_rfl) ?_
  refine wpAny_of_held (S := fun W' => Env w [(b, #[.int .i64 (p0 / 18446744073709551616), .int .u64 (p0 % 18446744073709551616)], 114), (c, #[.int .i64 (p1 / 18446744073709551616), .int .u64 (p1 % 18446744073709551616)], 114)] [] W') _ _ _ _ ?_
  have hS : Env w [(b, #[.int .i64 (p0 / 18446744073709551616), .int .u64 (p0 % 18446744073709551616)], 114), (c, #[.int .i64 (p1 / 18446744073709551616), .int .u64 (p1 % 18446744073709551616)], 114)] [] We.drew := ⟨⟨HE.out.drew.blks.1, HE.out.drew.blks.2.1, trivial⟩, trivial, HE.out.drew.bel⟩
  have hR : Env w [(w.heap.size + 1, #[.int .i64 0, .int .i64 0], 32)] [] We.drew := ⟨⟨HE.out.drew.blks.2.2.1, trivial⟩, trivial, HE.out.drew.bel⟩
  refine wpAnyH_take (i := 0) (v := .agg #[.int .i64 (p0 / 18446744073709551616), .int .u64 (p0 % 18446744073709551616)]) rfl (by kernel_rfl) (by kernel_rfl) (by kernel_rfl) (fun _ _ _ h => h) (.inl ⟨rfl, fun w0 hw0 => ?a0⟩) hS ?_
  case a0 =>
    have e0 : w0.cell? ⟨b, 0, none⟩ = some (.int .i64 (p0 / 18446744073709551616)) := hw0.blks.1.at 0; have e1 : w0.cell? ⟨b, 1, none⟩ = some (.int .u64 (p0 % 18446744073709551616)) := hw0.blks.1.at 1; have e2 : w0.cell? ⟨c, 0, none⟩ = some (.int .i64 (p1 / 18446744073709551616)) := hw0.blks.2.1.at 0; have e3 : w0.cell? ⟨c, 1, none⟩ = some (.int .u64 (p1 % 18446744073709551616)) := hw0.blks.2.1.at 1
    go_simp
  refine wpAnyH_take (i := 1) (v := .agg #[.int .i64 (p1 / 18446744073709551616), .int .u64 (p1 % 18446744073709551616)]) rfl (by kernel_rfl) (by kernel_rfl) (by kernel_rfl) (fun _ _ _ h => h) (.inl ⟨rfl, fun w0 hw0 => ?a1⟩) hS ?_
  case a1 =>
    have e0 : w0.cell? ⟨b, 0, none⟩ = some (.int .i64 (p0 / 18446744073709551616)) := hw0.blks.1.at 0; have e1 : w0.cell? ⟨b, 1, none⟩ = some (.int .u64 (p0 % 18446744073709551616)) := hw0.blks.1.at 1; have e2 : w0.cell? ⟨c, 0, none⟩ = some (.int .i64 (p1 / 18446744073709551616)) := hw0.blks.2.1.at 0; have e3 : w0.cell? ⟨c, 1, none⟩ = some (.int .u64 (p1 % 18446744073709551616)) := hw0.blks.2.1.at 1
    go_simp
  refine wpAnyH_take (i := 4) (v := .int .u64 1099511627776) rfl (by kernel_rfl) (by kernel_rfl) (by kernel_rfl) (fun _ _ _ h => h) (.inl ⟨rfl, fun w0 hw0 => ?a4⟩) hS ?_
  case a4 =>
    have e0 : w0.cell? ⟨b, 0, none⟩ = some (.int .i64 (p0 / 18446744073709551616)) := hw0.blks.1.at 0; have e1 : w0.cell? ⟨b, 1, none⟩ = some (.int .u64 (p0 % 18446744073709551616)) := hw0.blks.1.at 1; have e2 : w0.cell? ⟨c, 0, none⟩ = some (.int .i64 (p1 / 18446744073709551616)) := hw0.blks.2.1.at 0; have e3 : w0.cell? ⟨c, 1, none⟩ = some (.int .u64 (p1 % 18446744073709551616)) := hw0.blks.2.1.at 1
    go_simp
  refine wpAnyH_take (i := 6) (v := .agg #[.int .i64 (p0 / 18446744073709551616), .int .u64 (p0 % 18446744073709551616)]) rfl (by kernel_rfl) (by kernel_rfl) (by kernel_rfl) (fun _ _ _ h => h) (.inl ⟨rfl, fun w0 hw0 => ?a6⟩) hS ?_
  case a6 =>
    have e0 : w0.cell? ⟨b, 0, none⟩ = some (.int .i64 (p0 / 18446744073709551616)) := hw0.blks.1.at 0; have e1 : w0.cell? ⟨b, 1, none⟩ = some (.int .u64 (p0 % 18446744073709551616)) := hw0.blks.1.at 1; have e2 : w0.cell? ⟨c, 0, none⟩ = some (.int .i64 (p1 / 18446744073709551616)) := hw0.blks.2.1.at 0; have e3 : w0.cell? ⟨c, 1, none⟩ = some (.int .u64 (p1 % 18446744073709551616)) := hw0.blks.2.1.at 1
    go_simp
  refine wpAnyH_take (i := 7) (v := .agg #[.int .i64 (p1 / 18446744073709551616), .int .u64 (p1 % 18446744073709551616)]) rfl (by kernel_rfl) (by kernel_rfl) (by kernel_rfl) (fun _ _ _ h => h) (.inl ⟨rfl, fun w0 hw0 => ?a7⟩) hS ?_
  case a7 =>
    have e0 : w0.cell? ⟨b, 0, none⟩ = some (.int .i64 (p0 / 18446744073709551616)) := hw0.blks.1.at 0; have e1 : w0.cell? ⟨b, 1, none⟩ = some (.int .u64 (p0 % 18446744073709551616)) := hw0.blks.1.at 1; have e2 : w0.cell? ⟨c, 0, none⟩ = some (.int .i64 (p1 / 18446744073709551616)) := hw0.blks.2.1.at 0; have e3 : w0.cell? ⟨c, 1, none⟩ = some (.int .u64 (p1 % 18446744073709551616)) := hw0.blks.2.1.at 1
    go_simp
  refine wpAnyH_take (i := 10) (v := .int .u64 1099511627776) rfl (by kernel_rfl) (by kernel_rfl) (by kernel_rfl) (fun _ _ _ h => h) (.inl ⟨rfl, fun w0 hw0 => ?a10⟩) hS ?_
  case a10 =>
    have e0 : w0.cell? ⟨b, 0, none⟩ = some (.int .i64 (p0 / 18446744073709551616)) := hw0.blks.1.at 0; have e1 : w0.cell? ⟨b, 1, none⟩ = some (.int .u64 (p0 % 18446744073709551616)) := hw0.blks.1.at 1; have e2 : w0.cell? ⟨c, 0, none⟩ = some (.int .i64 (p1 / 18446744073709551616)) := hw0.blks.2.1.at 0; have e3 : w0.cell? ⟨c, 1, none⟩ = some (.int .u64 (p1 % 18446744073709551616)) := hw0.blks.2.1.at 1
    go_simp
  refine Pend.start (A := [⟨8, 48, #[.int .i64 (p1 / 18446744073709551616), .int .u64 (p1 % 18446744073709551616)], 114, rowTo 1⟩]) (B := We.heap.size) (S := Env w [(w.heap.size + 1, #[.int .i64 0, .int .i64 0], 32)] []) ?_ (float1 ⟨_, rfl, rfl, rfl, by kernel_rfl, fun w => by simp only [ptrTo, rowTo]; go_simp⟩) hS hR (by simp)
  clear hS hR
  refine Pend.step (i := 2) (by kernel_rfl) (by kernel_rfl) rfl (by kernel_rfl) (by kernel_rfl) (by kernel_rfl) (fun _ _ d _ _ h => by cases d <;> exact h) Env.mono Env.mono ?_
  intro Wa h0 h1 hB
  refine wpOp_plain rfl rfl fun K' hK' => ?_
  go_simp
  refine hK' _ _ ⟨((Below.refl _ _).alloc (Nat.le_refl _) _), _, h1.alloc _ _, Env.mono, ?_⟩
  clear hK' K' h0 h1 hB
  refine Pend.step (i := 3) (by kernel_rfl) (by kernel_rfl) rfl (by kernel_rfl) (by kernel_rfl) (by kernel_rfl) (fun _ _ d _ _ h => by cases d <;> exact h) Env.mono Env.mono ?_
  intro Wa h0 h1 hB
  refine wpOp_plain rfl rfl fun K' hK' => ?_
  go_simp
  refine (CL.out _ _ _ h1.blks.1).mono ?_
  rintro e Wb ⟨rfl, hb⟩
  refine hK' _ _ ⟨hb, _, h1.below hb, Env.mono, ?_⟩
  clear hK' K' h0 h1 hB
  clear hb
  refine Pend.step (i := 5) (by kernel_rfl) (by kernel_rfl) rfl (by kernel_rfl) (by kernel_rfl) (by kernel_rfl) (fun _ _ d _ _ h => by cases d <;> exact h) Env.mono Env.mono ?_
  intro Wa h0 h1 hB
  refine wpOp_plain rfl rfl fun K' hK' => ?_
  go_simp
  refine (CD.out _).mono ?_
  rintro e Wb ⟨rfl, hb⟩
  refine hK' _ _ ⟨hb, _, h1.below hb, Env.mono, ?_⟩
  clear hK' K' h0 h1 hB
  clear hb
  refine Pend.done 7 (by kernel_rfl) (by kernel_rfl) (by kernel_rfl) Env.mono Env.mono ?_
  intro bs Wa hl hc h0 h1 hok
  obtain ⟨d, rfl, hd, hBd⟩ := one_al hl hc hok
  have E : Env w [(d, #[.int .i64 (p1 / 18446744073709551616), .int .u64 (p1 % 18446744073709551616)], 114), (b, #[.int .i64 (p0 / 18446744073709551616), .int .u64 (p0 % 18446744073709551616)], 114), (c, #[.int .i64 (p1 / 18446744073709551616), .int .u64 (p1 % 18446744073709551616)], 114), (w.heap.size + 1, #[.int .i64 0, .int .i64 0], 32)] [] Wa := ⟨⟨hd, h0.blks.1, h0.blks.2.1, h1.blks.2.1, trivial⟩, trivial, h0.bel⟩
  clear hl hok h0 h1 hd
  simp only [puts, rowTo]
  refine wpAnyH_all (rs := [9]) (by kernel_rfl) (by simp) ?_
  intro i0 hi0
  obtain rfl : i0 = 9 := by simpa using hi0
  refine wpOp_plain rfl rfl fun K' hK' => ?_
  go_simp
  refine (CG.out _ _ _ E.blks.1).mono ?_
  rintro e W4 ⟨rfl, hb4⟩
  replace E := E.below hb4
  clear hb4
  refine hK' _ _ ⟨⟨⟨E.blks.2.1, E.blks.2.2.1, trivial⟩, trivial, E.bel⟩, ?_⟩
  clear hK' K'
  refine wpAnyH_all (rs := [11]) (by kernel_rfl) (by simp) ?_
  intro i0 hi0
  obtain rfl : i0 = 11 := by simpa using hi0
  refine wpOp_plain rfl rfl fun K' hK' => ?_
  go_simp
  refine (CU.out _).mono ?_
  rintro e W5 ⟨rfl, hb5⟩
  replace E := E.below hb5
  clear hb5
  refine hK' _ _ ⟨⟨⟨E.blks.2.1, E.blks.2.2.1, trivial⟩, trivial, E.bel⟩, ?_⟩
  clear hK' K'
  refine wpAnyH_all (rs := [12]) (by kernel_rfl) (by simp) ?_
  intro i0 hi0
  obtain rfl : i0 = 12 := by simpa using hi0
  refine wpOp_plain rfl rfl fun K' hK' => ?_
  go_simp
  refine (CM.out _).mono ?_
  rintro e W6 ⟨rfl, hb6⟩
  replace E := (E.below hb6).drop
  clear hb6
  have hS : Env w [(b, #[.int .i64 (p0 / 18446744073709551616), .int .u64 (p0 % 18446744073709551616)], 114), (c, #[.int .i64 (p1 / 18446744073709551616), .int .u64 (p1 % 18446744073709551616)], 114)] [] W6 := ⟨⟨E.blks.1, E.blks.2.1, trivial⟩, trivial, E.bel⟩
  refine hK' _ _ ⟨hS, ?_⟩
  clear hK' K'
  refine wpAnyH_take (i := 13) (v := .agg #[.int .i64 lo, .int .i64 hi]) rfl (by kernel_rfl) (by kernel_rfl) (by kernel_rfl) (fun _ _ _ h => h) (.inl ⟨rfl, fun w0 hw0 => ?a13⟩) hS ?_
  case a13 =>
    skip
    go_simp
  refine wpAnyH_take (i := 14) (v := .int .i64 er) rfl (by kernel_rfl) (by kernel_rfl) (by kernel_rfl) (fun _ _ _ h => h) (.inl ⟨rfl, fun w0 hw0 => ?a14⟩) hS ?_
  case a14 =>
    skip
    go_simp
  clear hS
  have f0 : W6.cell? ⟨w.heap.size + 1, 0, none⟩ = some (.int .i64 0) := E.blks.2.2.1.at 0
  have f1 : W6.cell? ⟨w.heap.size + 1, 1, none⟩ = some (.int .i64 0) := E.blks.2.2.1.at 1
  have g0 := E.blks.2.2.1.fr 0
  have g1 := E.blks.2.2.1.fr 1
  refine wpAnyH_all (rs := [15]) (by kernel_rfl) (by simp) ?_
  intro i0 hi0
  obtain rfl : i0 = 15 := by simpa using hi0
  refine wpOp_plain rfl rfl fun K' hK' => ?_
  go_simp
  have E1 : Env w [(w.heap.size + 1, #[.int .i64 0, .int .i64 0], 32), (b, #[.int .i64 (p0 / 18446744073709551616), .int .u64 (p0 % 18446744073709551616)], 114), (c, #[.int .i64 (p1 / 18446744073709551616), .int .u64 (p1 % 18446744073709551616)], 114)] [] W6 := ⟨⟨E.blks.2.2.1, E.blks.1, E.blks.2.1, trivial⟩, trivial, E.bel⟩
  replace E := ((E1.setY (by omega) (by simp [Free] <;> omega) rfl 0 (.int .i64 lo)).setY (by omega) (by simp [Free] <;> omega) rfl 1 (.int .i64 hi))
  clear f0 f1 g0 g1 E1
  generalize ((W6.setCell ⟨w.heap.size + 1, 0, none⟩ (.int .i64 lo)).setCell ⟨w.heap.size + 1, 1, none⟩ (.int .i64 hi)) = W7 at *
  have hS := E.drop
  refine hK' _ _ ⟨hS, ?_⟩
  clear hK' K'
  refine wpAnyH_take (i := 16) (v := .int .i64 er) rfl (by kernel_rfl) (by kernel_rfl) (by kernel_rfl) (fun _ _ _ h => h) (.inl ⟨rfl, fun w0 hw0 => ?a16⟩) hS ?_
  case a16 =>
    skip
    go_simp
  refine wpAnyH_done (by kernel_rfl) ?_ _
  have r0 : W7.cell? ⟨w.heap.size + 1, 0, none⟩ = some (Value.int .i64 lo) := E.blks.1.at 0
  have r1 : W7.cell? ⟨w.heap.size + 1, 1, none⟩ = some (Value.int .i64 hi) := E.blks.1.at 1
  have HE := Lib.hid E
  clear E hS
  go_wp2
  refine bodyPost_ret (v := .tuple #[.agg #[.int .i64 lo, .int .i64 hi], .int .i64 er]) (by simp [results, Tryz.results16, go_sem, r0, r1]) rfl ?_
  exact ⟨rfl, HE.out.bel⟩

/-- An interval of one number, scaled to the Earth's radius. -/
def scaLo (n : Int) : Int := scLo n n 46878012
def scaHi (n : Int) : Int := scHi n n 46878012
theorem scaled_ok {n : Int} (h : -1116691496960 ≤ n ∧ n ≤ 1116691496960) : scaLo n = n * 46878012 / 1099511627776 ∧ scaHi n = -(-(n * 46878012) / 1099511627776) ∧ -47610481 ≤ scaLo n ∧ scaLo n ≤ scaHi n ∧ scaHi n ≤ 47610481 := by
  have e1 : scaLo n = n * 46878012 / 1099511627776 := by
    unfold scaLo scLo lo2
    rw [if_neg (by omega)]
    unfold clamp
    rw [if_neg (by omega), if_neg (by omega)]
  have e2 : scaHi n = -(-(n * 46878012) / 1099511627776) := by
    unfold scaHi scHi hi2
    rw [if_neg (by omega)]
    unfold clamp
    rw [if_neg (by omega), if_neg (by omega)]
  refine ⟨e1, e2, ?_, ?_, ?_⟩ <;> omega

end Go.Proofs.YtilaheplclaokaaGreatDoor
namespace Go.Proofs.YtilaheplclaokaaGreatDoor
open Go.Shelf
def Tryz.lays160_ren : Go.Shelf.Ren := ⟨fun | 160 => 154 | 232 => 200 | 231 => 199 | 227 => 201 | 234 => 203 | 233 => 202 | 236 => 205 | 235 => 204 | 228 => 227 | 271 => 230 | 151 => 229 | 197 => 228 | 120 => 249 | 152 => 248 | 260 => 247 | 137 => 258 | 119 => 259 | 224 => 260 | 225 => 261 | 217 => 264 | 266 => 265 | n => n, fun | 9 => 9 | 4 => 4 | 3 => 3 | 5 => 5 | 117 => 285 | 116 => 284 | 0 => 0 | 124 => 288 | 21 => 21 | 105 => 306 | 46 => 176 | 119 => 328 | 139 => 331 | 138 => 330 | n => n, fun | 3 => 2 | 4 => 3 | n => n⟩
theorem Tryz.lays160 : Go.Proofs.Lays.n160 Tryz.prog Tryz.lays160_ren := {
  mixed := by kernel_rfl
  f119 := Tryz.func259.trans (congrArg some (by kernel_rfl))
  f120 := Tryz.func249.trans (congrArg some (by kernel_rfl))
  f137 := Tryz.func258.trans (congrArg some (by kernel_rfl))
  f151 := Tryz.func229.trans (congrArg some (by kernel_rfl))
  f152 := Tryz.func248.trans (congrArg some (by kernel_rfl))
  f160 := Tryz.func154.trans (congrArg some (by kernel_rfl))
  f197 := Tryz.func228.trans (congrArg some (by kernel_rfl))
  f217 := Tryz.func264.trans (congrArg some (by kernel_rfl))
  f224 := Tryz.func260.trans (congrArg some (by kernel_rfl))
  f225 := Tryz.func261.trans (congrArg some (by kernel_rfl))
  f227 := Tryz.func201.trans (congrArg some (by kernel_rfl))
  f228 := Tryz.func227.trans (congrArg some (by kernel_rfl))
  f231 := Tryz.func199.trans (congrArg some (by kernel_rfl))
  f232 := Tryz.func200.trans (congrArg some (by kernel_rfl))
  f233 := Tryz.func202.trans (congrArg some (by kernel_rfl))
  f234 := Tryz.func203.trans (congrArg some (by kernel_rfl))
  f235 := Tryz.func204.trans (congrArg some (by kernel_rfl))
  f236 := Tryz.func205.trans (congrArg some (by kernel_rfl))
  f260 := Tryz.func247.trans (congrArg some (by kernel_rfl))
  f266 := Tryz.func265.trans (congrArg some (by kernel_rfl))
  f271 := Tryz.func230.trans (congrArg some (by kernel_rfl))
  t0 := Tryz.underlying0
  a0 := Tryz.isAgg0
  z0 := Tryz.sizeOf0
  v0 := Tryz.zeroValue0
  t3 := Tryz.underlying3
  a3 := Tryz.isAgg3
  z3 := Tryz.sizeOf3
  v3 := Tryz.zeroValue3
  t4 := Tryz.underlying4
  a4 := Tryz.isAgg4
  z4 := Tryz.sizeOf4
  v4 := Tryz.zeroValue4
  t5 := Tryz.underlying5
  a5 := Tryz.isAgg5
  z5 := Tryz.sizeOf5
  v5 := Tryz.zeroValue5
  t9 := Tryz.underlying9
  a9 := Tryz.isAgg9
  z9 := Tryz.sizeOf9
  v9 := Tryz.zeroValue9
  t21 := Tryz.underlying21
  a21 := Tryz.isAgg21
  z21 := Tryz.sizeOf21
  v21 := Tryz.zeroValue21
  t46 := Tryz.underlying176
  a46 := Tryz.isAgg176
  z46 := Tryz.sizeOf176
  v46 := Tryz.zeroValue176
  t105 := Tryz.underlying306
  a105 := Tryz.isAgg306
  z105 := Tryz.sizeOf306
  v105 := Tryz.zeroValue306
  t116 := Tryz.underlying284
  a116 := Tryz.isAgg284
  z116 := Tryz.sizeOf284
  t117 := Tryz.underlying285
  a117 := Tryz.isAgg285
  z117 := Tryz.sizeOf285
  v117 := Tryz.zeroValue285
  t119 := Tryz.underlying328
  a119 := Tryz.isAgg328
  z119 := Tryz.sizeOf328
  t124 := Tryz.underlying288
  a124 := Tryz.isAgg288
  z124 := Tryz.sizeOf288
  v124 := Tryz.zeroValue288
  t138 := Tryz.underlying330
  a138 := Tryz.isAgg330
  z138 := Tryz.sizeOf330
  v138 := Tryz.zeroValue330
  t139 := Tryz.underlying331
  a139 := Tryz.isAgg331
  z139 := Tryz.sizeOf331
  v139 := Tryz.zeroValue331
  g3 := by kernel_rfl
  g4 := by kernel_rfl }
open Go.RowKit Go.Lib in
theorem Tryz.strings_Trim (s cutset : ByteArray) (w : World) (hs : s.size ≤ 9223372036854775807) (hcs : cutset.size < 4294967281) (hascii : ∀ (j : Nat) b, cutset.data.toList[j]? = some b → b.toNat < 128) :
    Calls Tryz.prog 154 #[.string s, .string cutset] w fun e w' => e = .returned (.string ⟨(Lib.trimS s.data.toList cutset.data.toList).toArray⟩) ∧ Below w.heap.size w w' := Any.strings_Trim_laid Tryz.lays160 (by kernel_rfl) s cutset w hs hcs hascii
end Go.Proofs.YtilaheplclaokaaGreatDoor
namespace Go.Proofs.YtilaheplclaokaaGreatDoor
open Go.RowKit Go.Shelf
attribute [local go_sem] Oper.semAt_some

set_option maxRecDepth 100000 in
theorem just_calls (w : World) (n : Int) :
    Calls Tryz.prog 106 #[.int .i64 n] w (OkPost (.agg #[.int .i64 n, .int .i64 n]) w) := by
  go_enter Tryz.func106, Tryz.ntmps106
  go_wp2
  refine bodyPost_ret (v := .agg #[.int .i64 n, .int .i64 n]) (by simp [results, Tryz.results106, go_sem]) rfl ?_
  exact ⟨rfl, (Below.refl _ _).alloc (Nat.le_refl _) _⟩

set_option maxRecDepth 100000 in
set_option maxHeartbeats 1000000 in
theorem scaled_calls (w : World) (n : Int) (h : -1116691496960 ≤ n ∧ n ≤ 1116691496960) :
    Calls Tryz.prog 54 #[.int .i64 n] w (OkPost (.agg #[.int .i64 (scaLo n), .int .i64 (scaHi n)]) w) := by
  have hs := scaled_ok h
  have hm : madB (scaLo n) (scaHi n) = true := decide_eq_true (by omega)
  have CS := Lib.hid fun w' => Scale_calls w' n n 46878012 (decide_eq_true (by omega)) (by omega)
  have e0 : scLo n n 46878012 = scaLo n := rfl
  have e1 : scHi n n 46878012 = scaHi n := rfl
  rw [e0, e1] at CS
  have e2 : ivV (scaLo n) (scaHi n) = .tuple #[.agg #[.int .i64 (scaLo n), .int .i64 (scaHi n)], .int .i64 0] := by
    unfold ivV madL madH madE
    rw [if_pos hm, if_pos hm, if_pos hm]
  rw [e2] at CS
  clear e0 e1 e2 hm hs h
  generalize scaLo n = lo at *
  generalize scaHi n = hi at *
  have HE := Lib.hid ((Env.start w).alloc #[.int .i64 0, .int .i64 0] 32)
  go_enter Tryz.func54, Tryz.ntmps54
  go_wp2_with fail
  go_at_call 106
  refine (just_calls _ n).mono ?_
  rintro e W1 ⟨rfl, hb⟩
  replace HE := Lib.hid (HE.out.below hb)
  clear hb
  go_wp2_with fail
  go_at_call 16
  refine (CS.out _).mono ?_
  rintro e W2 ⟨rfl, hb⟩
  replace HE := Lib.hid (HE.out.below hb)
  clear hb
  have f0 : W2.cell? ⟨w.heap.size, 0, none⟩ = some (.int .i64 0) := HE.out.blks.1.at 0
  have f1 : W2.cell? ⟨w.heap.size, 1, none⟩ = some (.int .i64 0) := HE.out.blks.1.at 1
  have g0 := HE.out.blks.1.fr 0
  have g1 := HE.out.blks.1.fr 1
  have hlt := HE.out.blks.1.lt
  go_wp2
  have E := ((HE.out.setY (Nat.le_refl _) trivial rfl 0 (.int .i64 lo)).setY (Nat.le_refl _) trivial rfl 1 (.int .i64 hi)).alloc #[.int .i64 lo, .int .i64 hi] 32
  have r0 : _ = some (Value.int .i64 lo) := E.blks.2.1.at 0
  have r1 : _ = some (Value.int .i64 hi) := E.blks.2.1.at 1
  refine bodyPost_ret (v := .agg #[.int .i64 lo, .int .i64 hi]) (by simp [results, Tryz.results54, go_sem, r0, r1]) rfl ?_
  exact ⟨rfl, E.bel⟩

/-- A byte of a code. -/
def codeByte (x : Nat) : Prop := (48 ≤ x ∧ x ≤ 57) ∨ (65 ≤ x ∧ x ≤ 90)
/-- A valid code. -/
structure CodeOk (s : ByteArray) : Prop where
  sz : s.size = 3
  all : ∀ i (h : i < s.size), codeByte (s[i]'h).toNat

/-- A valid site. -/
structure SiteOk (s : ByteArray) (lg c z : Int) : Prop where
  code : CodeOk s
  l0 : 0 ≤ lg
  l1 : lg < 1296000000000
  c0 : 0 ≤ c
  c1 : c ≤ 1116691496960
  z0 : -1116691496960 ≤ z
  z1 : z ≤ 1116691496960
  nz : ¬ (c = 0 ∧ z = 0)

def codeSet : ByteArray := ⟨#[48, 49, 50, 51, 52, 53, 54, 55, 56, 57, 65, 66, 67, 68, 69, 70, 71, 72, 73, 74, 75, 76, 77, 78, 79, 80, 81, 82, 83, 84, 85, 86, 87, 88, 89, 90]⟩
theorem codeSet_has (b : UInt8) (h : codeByte b.toNat) : codeSet.data.toList.contains b = true := by
  have h1 : ∀ n : Fin 256, ((48 ≤ n.val ∧ n.val ≤ 57) ∨ (65 ≤ n.val ∧ n.val ≤ 90)) → codeSet.data.toList.contains (UInt8.ofNat n.val) = true := by decide +kernel
  have h2 := h1 ⟨b.toNat, UInt8.toNat_lt b⟩ h
  rwa [show UInt8.ofNat (⟨b.toNat, UInt8.toNat_lt b⟩ : Fin 256).val = b from UInt8.ofNat_toNat] at h2
theorem dropAll {α : Type} (p : α → Bool) : ∀ l : List α, (∀ b ∈ l, p b = true) → l.dropWhile p = []
  | [], _ => rfl
  | a :: l, h => by
    rw [List.dropWhile_cons, if_pos (h a (by simp))]
    exact dropAll p l fun b hb => h b (by simp [hb])
theorem dropNone {α : Type} (p : α → Bool) : ∀ l : List α, l.dropWhile p = [] → ∀ b ∈ l, p b = true
  | [], _, b, hb => nomatch hb
  | a :: l, h, b, hb => by
    by_cases ha : p a = true
    · rw [List.dropWhile_cons, if_pos ha] at h
      rcases List.mem_cons.1 hb with e | e
      · rw [e]; exact ha
      · exact dropNone p l h b e
    · rw [List.dropWhile_cons, if_neg ha] at h
      cases h
theorem trim_none (l cs : List UInt8) (h : ∀ b ∈ l, cs.contains b = true) : Go.Lib.trimS l cs = [] := by
  have e : Go.Lib.trimRightS l cs = [] := by
    unfold Go.Lib.trimRightS
    rw [List.reverse_eq_nil_iff]
    exact dropAll _ _ fun x hx => h x (by simpa using hx)
  unfold Go.Lib.trimS
  rw [e]
  rfl

/-- Go's test of a site. -/
def siteB (s : ByteArray) (lg c z : Int) : Bool :=
  (Go.Lib.trimS s.data.toList codeSet.data.toList == []) && decide ((s.size : Int) = 3 ∧ 0 ≤ lg ∧ lg < 1296000000000 ∧ 0 ≤ c ∧ c ≤ 1116691496960 ∧ (-1116691496960 ≤ z ∨ z = -9223372036854775808) ∧ z ≤ 1116691496960 ∧ ¬ (c = 0 ∧ z = 0))
theorem SiteOk.site {s : ByteArray} {lg c z : Int} (h : SiteOk s lg c z) : siteB s lg c z = true := by
  unfold siteB
  rw [trim_none]
  · have := h.code.sz
    simp only [beq_self_eq_true, Bool.true_and, decide_eq_true_eq]
    exact ⟨by omega, h.l0, h.l1, h.c0, h.c1, .inl h.z0, h.z1, h.nz⟩
  · intro b hb
    obtain ⟨i, hi, rfl⟩ := List.mem_iff_getElem.1 hb
    exact codeSet_has _ (h.code.all i (by simpa using hi))

theorem eq2 (w : World) (a b c d : Int) :
    (Op.equalIn 10000 62 (.agg #[.int .i64 a, .int .i64 b]) (.agg #[.int .i64 c, .int .i64 d])).run Tryz.prog w = .ok ((a == c) && (b == d)) w := by
  obtain ⟨i, hi⟩ : ∃ i, Tryz.prog.info? 2 = some i := Option.isSome_iff_exists.1 (by kernel_rfl)
  have hu : Tryz.prog.underlying 62 = some (.array 2 2) := Tryz.underlying62
  have hc : Tryz.prog.cellsOf 2 = 1 := by kernel_rfl
  rw [run_equalIn_array w 9999 _ _ hu hi, hc]
  simp only [List.range, List.range.loop, Op.eqItems]
  go_simp
  by_cases h1 : a = c <;> by_cases h2 : b = d <;> simp [h1, h2]

/-- The error of a site. -/
def siteE (s : ByteArray) (lg c z : Int) : Int := if siteB s lg c z = true then 0 else 8
theorem siteE_bad {s : ByteArray} {lg c z : Int} (h : ¬ ((s.size : Int) = 3 ∧ 0 ≤ lg ∧ lg < 1296000000000 ∧ 0 ≤ c ∧ c ≤ 1116691496960 ∧ (-1116691496960 ≤ z ∨ z = -9223372036854775808) ∧ z ≤ 1116691496960 ∧ ¬ (c = 0 ∧ z = 0))) : siteE s lg c z = 8 := by
  unfold siteE siteB
  rw [decide_eq_false h, Bool.and_false]
  rfl
theorem siteE_trim {s : ByteArray} {lg c z : Int} (h : ¬ Go.Lib.trimS s.data.toList codeSet.data.toList = []) : siteE s lg c z = 8 := by
  unfold siteE siteB
  rw [show (Go.Lib.trimS s.data.toList codeSet.data.toList == []) = false from by simpa using h, Bool.false_and]
  rfl
theorem siteE_good {s : ByteArray} {lg c z : Int} (h0 : Go.Lib.trimS s.data.toList codeSet.data.toList = []) (h : (s.size : Int) = 3 ∧ 0 ≤ lg ∧ lg < 1296000000000 ∧ 0 ≤ c ∧ c ≤ 1116691496960 ∧ (-1116691496960 ≤ z ∨ z = -9223372036854775808) ∧ z ≤ 1116691496960 ∧ ¬ (c = 0 ∧ z = 0)) : siteE s lg c z = 0 := by
  unfold siteE siteB
  rw [h0, decide_eq_true h]
  rfl
theorem SiteOk.zero {s : ByteArray} {lg c z : Int} (h : SiteOk s lg c z) : siteE s lg c z = 0 := by
  unfold siteE
  rw [if_pos h.site]

set_option maxRecDepth 100000 in
set_option maxHeartbeats 2000000 in
theorem siteCheck_calls (w : World) (s : ByteArray) (lg c z : Int) (hs : s.size ≤ 9223372036854775807) (hz0 : -9223372036854775808 ≤ z) (hz1 : z < 9223372036854775808) :
    Calls Tryz.prog 105 #[.agg #[.string s, .int .i64 lg, .int .i64 c, .int .i64 z]] w (OkPost (.int .i64 (siteE s lg c z)) w) := by
  have CT := Lib.hid fun w' => Tryz.strings_Trim s codeSet w' hs (by decide) (fun j b h => by
    have h1 : ∀ b ∈ codeSet.data.toList, b.toNat < 128 := by decide
    exact h1 b (List.mem_of_getElem? h))
  have HE := Lib.hid ((Env.start w).alloc #[.string s, .int .i64 lg, .int .i64 c, .int .i64 z] 23)
  have HX := Lib.hid fun h => siteE_bad (s := s) (lg := lg) (c := c) (z := z) h
  have HY := Lib.hid fun h => siteE_trim (s := s) (lg := lg) (c := c) (z := z) h
  have HZ := Lib.hid fun h0 h => siteE_good (s := s) (lg := lg) (c := c) (z := z) h0 h
  generalize siteE s lg c z = cd at *
  clear hs
  by_cases ht : Go.Lib.trimS s.data.toList codeSet.data.toList = []
  case neg =>
    have HB := Lib.hid (HY.out ht)
    generalize Go.Lib.trimS s.data.toList codeSet.data.toList = r at *
    have hr : r.isEmpty = false := by simpa using ht
    clear ht HX HY HZ
    go_enter Tryz.func105, Tryz.ntmps105
    go_wp2_with fail
    go_at_call 154
    refine (CT.out _).mono ?_
    rintro e W1 ⟨rfl, hb⟩
    replace HE := Lib.hid (HE.out.below hb)
    clear hb CT
    have k0 : W1.cell? ⟨w.heap.size, 0, none⟩ = some (.string s) := HE.out.blks.1.at 0
    by_cases h3 : (s.size : Int) = 3
    all_goals
      go_wp2
      go_ret
      exact ⟨by rw [HB.out]; rfl, HE.out.bel⟩
  have HX2 := Lib.hid fun h => HZ.out ht h
  rw [ht] at CT
  clear HY HZ ht
  go_enter Tryz.func105, Tryz.ntmps105
  go_wp2_with fail
  go_at_call 154
  refine (CT.out _).mono ?_
  rintro e W1 ⟨rfl, hb⟩
  replace HE := Lib.hid (HE.out.below hb)
  clear hb CT
  have k0 : W1.cell? ⟨w.heap.size, 0, none⟩ = some (.string s) := HE.out.blks.1.at 0
  have k1 : W1.cell? ⟨w.heap.size, 1, none⟩ = some (.int .i64 lg) := HE.out.blks.1.at 1
  have k2 : W1.cell? ⟨w.heap.size, 2, none⟩ = some (.int .i64 c) := HE.out.blks.1.at 2
  have k3 : W1.cell? ⟨w.heap.size, 3, none⟩ = some (.int .i64 z) := HE.out.blks.1.at 3
  by_cases h3 : (s.size : Int) = 3
  case neg =>
    have HB := Lib.hid (HX.out (by omega))
    go_wp2
    all_goals (try (exfalso; omega))
    go_ret
    exact ⟨by rw [HB.out]; rfl, HE.out.bel⟩
  by_cases h4 : lg < 0
  case pos =>
    have HB := Lib.hid (HX.out (by omega))
    go_wp2
    all_goals (try (exfalso; omega))
    go_ret
    exact ⟨by rw [HB.out]; rfl, HE.out.bel⟩
  by_cases h5 : 1296000000000 ≤ lg
  case pos =>
    have HB := Lib.hid (HX.out (by omega))
    go_wp2
    all_goals (try (exfalso; omega))
    go_ret
    exact ⟨by rw [HB.out]; rfl, HE.out.bel⟩
  by_cases h6 : c < 0
  case pos =>
    have HB := Lib.hid (HX.out (by omega))
    go_wp2
    all_goals (try (exfalso; omega))
    go_ret
    exact ⟨by rw [HB.out]; rfl, HE.out.bel⟩
  by_cases h7 : 1116691496960 < c
  case pos =>
    have HB := Lib.hid (HX.out (by omega))
    go_wp2
    all_goals (try (exfalso; omega))
    go_ret
    exact ⟨by rw [HB.out]; rfl, HE.out.bel⟩
  by_cases h8 : 1116691496960 < z
  case pos =>
    have hm : IntKind.i64.wrap (-z) = -z := wrap_i64 _ (by omega) (by omega)
    have HB := Lib.hid (HX.out (by omega))
    go_wp2
    all_goals (try (exfalso; omega))
    go_ret
    exact ⟨by rw [HB.out]; rfl, HE.out.bel⟩
  by_cases h9 : z = -9223372036854775808
  case pos =>
    have hm : IntKind.i64.wrap (-z) = z := by subst h9; decide
    have hl : z < -1116691496960 := by omega
    have HB := Lib.hid (HX2.out (by omega))
    have HZ9 := Lib.hid h9
    clear h9
    have q : ∀ W, _ = Result.ok false W := fun W => (eq2 W c z 0 0).trans (by simp [show ¬ z = 0 by omega])
    go_wp2
    all_goals (try (exfalso; omega))
    go_ret
    exact ⟨by rw [HB.out]; rfl, HE.out.bel⟩
  have hm : IntKind.i64.wrap (-z) = -z := wrap_i64 _ (by omega) (by omega)
  by_cases h10 : z < -1116691496960
  case pos =>
    have HB := Lib.hid (HX.out (by omega))
    go_wp2
    all_goals (try (exfalso; omega))
    go_ret
    exact ⟨by rw [HB.out]; rfl, HE.out.bel⟩
  by_cases h11 : c = 0 ∧ z = 0
  case pos =>
    have q : ∀ W, _ = Result.ok true W := fun W => (eq2 W c z 0 0).trans (by simp [h11])
    have HB := Lib.hid (HX.out (by omega))
    have H11 := Lib.hid h11
    have h12 : 0 ≤ z ∧ z ≤ 0 := by omega
    clear h11
    go_wp2
    all_goals (try (exfalso; omega))
    all_goals (go_ret; exact ⟨by rw [HB.out]; rfl, HE.out.bel⟩)
  have q : ∀ W, _ = Result.ok false W := fun W => (eq2 W c z 0 0).trans (by
    by_cases e : c = 0
    · have : ¬ z = 0 := fun e2 => h11 ⟨e, e2⟩
      simp [this]
    · simp [e])
  have HB := Lib.hid (HX2.out (by omega))
  clear h11
  by_cases h12 : z < 0
  all_goals
    go_wp2
    all_goals (try (exfalso; omega))
    all_goals (go_ret; exact ⟨by rw [HB.out]; rfl, HE.out.bel⟩)

end Go.Proofs.YtilaheplclaokaaGreatDoor
namespace Go.Proofs.YtilaheplclaokaaGreatDoor
open Go.RowKit Go.Shelf
attribute [local go_sem] Oper.semAt_some

theorem ivV_ok {lo hi : Int} (h : madB lo hi = true) : ivV lo hi = .tuple #[.agg #[.int .i64 lo, .int .i64 hi], .int .i64 0] := by
  unfold ivV madL madH madE
  simp [h]
theorem lo2_le (x y : Int) : lo2 x y ≤ x ∧ lo2 x y ≤ y ∧ (lo2 x y = x ∨ lo2 x y = y) := by unfold lo2; split <;> omega
theorem hi2_ge (x y : Int) : x ≤ hi2 x y ∧ y ≤ hi2 x y ∧ (hi2 x y = x ∨ hi2 x y = y) := by unfold hi2; split <;> omega
theorem small_prod {a c : Int} (ha : -1099511627776 ≤ a ∧ a ≤ 1099511627776) (hc : -1099511627776 ≤ c ∧ c ≤ 1099511627776) : -1208925819614629174706176 ≤ a * c ∧ a * c ≤ 1208925819614629174706176 := by
  have h : (a * c).natAbs ≤ 1099511627776 * 1099511627776 := by
    rw [Int.natAbs_mul]
    exact Nat.mul_le_mul (by omega) (by omega)
  omega
/-- Products of numbers of at most 1. -/
theorem mul_small {a0 a1 c0 c1 : Int} (h0 : -1099511627776 ≤ a0 ∧ a0 ≤ 1099511627776) (h1 : -1099511627776 ≤ a1 ∧ a1 ≤ 1099511627776) (h2 : -1099511627776 ≤ c0 ∧ c0 ≤ 1099511627776) (h3 : -1099511627776 ≤ c1 ∧ c1 ≤ 1099511627776) :
    -1099511627776 ≤ mulLo a0 a1 c0 c1 ∧ mulLo a0 a1 c0 c1 ≤ mulHi a0 a1 c0 c1 ∧ mulHi a0 a1 c0 c1 ≤ 1099511627776 ∧ (a0 ≤ a1 → a1 ≤ a0 + 1 → c0 ≤ c1 → c1 ≤ c0 + 1 → mulHi a0 a1 c0 c1 ≤ mulLo a0 a1 c0 c1 + 4) := by
  have p0 := small_prod h0 h2
  have p1 := small_prod h0 h3
  have p2 := small_prod h1 h2
  have p3 := small_prod h1 h3
  have hw : a0 ≤ a1 → a1 ≤ a0 + 1 → c0 ≤ c1 → c1 ≤ c0 + 1 → ∀ x y : Int, (x = a0 * c0 ∨ x = a0 * c1 ∨ x = a1 * c0 ∨ x = a1 * c1) → (y = a0 * c0 ∨ y = a0 * c1 ∨ y = a1 * c0 ∨ y = a1 * c1) → x - y ≤ 2199023255553 := by
    intro k0 k1 k2 k3 x y hx hy
    have ea : a1 = a0 ∨ a1 = a0 + 1 := by omega
    have ec : c1 = c0 ∨ c1 = c0 + 1 := by omega
    rcases ea with rfl | rfl <;> rcases ec with rfl | rfl
    · rcases hx with rfl | rfl | rfl | rfl <;> rcases hy with rfl | rfl | rfl | rfl <;> omega
    · simp only [Int.mul_add, Int.mul_one] at hx hy
      generalize a1 * c0 = P at *
      omega
    · simp only [Int.add_mul, Int.one_mul] at hx hy
      generalize a0 * c1 = P at *
      omega
    · simp only [Int.mul_add, Int.mul_one, Int.add_mul, Int.one_mul] at hx hy
      generalize a0 * c0 = P at *
      omega
  have l1 := lo2_le (a0 * c0) (a0 * c1)
  have l2 := lo2_le (lo2 (a0 * c0) (a0 * c1)) (a1 * c0)
  have l3 := lo2_le (lo2 (lo2 (a0 * c0) (a0 * c1)) (a1 * c0)) (a1 * c1)
  have g1 := hi2_ge (a0 * c0) (a0 * c1)
  have g2 := hi2_ge (hi2 (a0 * c0) (a0 * c1)) (a1 * c0)
  have g3 := hi2_ge (hi2 (hi2 (a0 * c0) (a0 * c1)) (a1 * c0)) (a1 * c1)
  have hw2 : a0 ≤ a1 → a1 ≤ a0 + 1 → c0 ≤ c1 → c1 ≤ c0 + 1 → hi2 (hi2 (hi2 (a0 * c0) (a0 * c1)) (a1 * c0)) (a1 * c1) - lo2 (lo2 (lo2 (a0 * c0) (a0 * c1)) (a1 * c0)) (a1 * c1) ≤ 2199023255553 := by
    intro k0 k1 k2 k3
    exact hw k0 k1 k2 k3 _ _ (by omega) (by omega)
  unfold mulLo mulHi
  generalize lo2 (lo2 (lo2 (a0 * c0) (a0 * c1)) (a1 * c0)) (a1 * c1) = l at *
  generalize hi2 (hi2 (hi2 (a0 * c0) (a0 * c1)) (a1 * c0)) (a1 * c1) = h at *
  have hlb : -1208925819614629174706176 ≤ l ∧ l ≤ h ∧ h ≤ 1208925819614629174706176 := by omega
  clear hw l1 l2 l3 g1 g2 g3 p0 p1 p2 p3
  have e1 : clamp (l / 1099511627776) = l / 1099511627776 := by unfold clamp; rw [if_neg (by omega), if_neg (by omega)]
  have e2 : clamp (-(-h / 1099511627776)) = -(-h / 1099511627776) := by unfold clamp; rw [if_neg (by omega), if_neg (by omega)]
  rw [e1, e2]
  refine ⟨by omega, by omega, by omega, fun k0 k1 k2 k3 => ?_⟩
  have := hw2 k0 k1 k2 k3
  omega

theorem sinB (a : Int) : ivB (sinLo a) (sinHi a) = true := by
  have := sin_bounds a
  exact ivB_of (by omega) (by omega) (by omega)
/-- The parts of the unit vector. -/
def unXl (ra dec : Int) : Int := mulLo (sinLo (cosA dec)) (sinHi (cosA dec)) (sinLo (cosA ra)) (sinHi (cosA ra))
def unXh (ra dec : Int) : Int := mulHi (sinLo (cosA dec)) (sinHi (cosA dec)) (sinLo (cosA ra)) (sinHi (cosA ra))
def unYl (ra dec : Int) : Int := mulLo (sinLo (cosA dec)) (sinHi (cosA dec)) (sinLo ra) (sinHi ra)
def unYh (ra dec : Int) : Int := mulHi (sinLo (cosA dec)) (sinHi (cosA dec)) (sinLo ra) (sinHi ra)
theorem prod_sin (a b : Int) : -1099511627776 ≤ mulLo (sinLo a) (sinHi a) (sinLo b) (sinHi b) ∧ mulLo (sinLo a) (sinHi a) (sinLo b) (sinHi b) ≤ mulHi (sinLo a) (sinHi a) (sinLo b) (sinHi b) ∧ mulHi (sinLo a) (sinHi a) (sinLo b) (sinHi b) ≤ 1099511627776 ∧ mulHi (sinLo a) (sinHi a) (sinLo b) (sinHi b) ≤ mulLo (sinLo a) (sinHi a) (sinLo b) (sinHi b) + 4 := by
  have ha := sin_bounds a
  have hb := sin_bounds b
  have h := mul_small (a0 := sinLo a) (a1 := sinHi a) (c0 := sinLo b) (c1 := sinHi b) (by omega) (by omega) (by omega) (by omega)
  exact ⟨h.1, h.2.1, h.2.2.1, h.2.2.2 (by omega) (by omega) (by omega) (by omega)⟩

set_option maxRecDepth 100000 in
set_option maxHeartbeats 2000000 in
theorem unit0_calls (w : World) (ra dec : Int) (hr0 : -9223372036854775808 ≤ ra) (hr1 : ra < 9223372036854775808) (hd0 : -9223372036854775808 ≤ dec) (hd1 : dec < 9223372036854775808) :
    Calls Tryz.prog 135 #[.int .i64 ra, .int .i64 dec] w (OkPost (.agg #[.int .i64 (unXl ra dec), .int .i64 (unXh ra dec), .int .i64 (unYl ra dec), .int .i64 (unYh ra dec), .int .i64 (sinLo dec), .int .i64 (sinHi dec)]) w) := by
  have C1 := Lib.hid fun w' => Cos_calls w' dec hd0 hd1
  have C2 := Lib.hid fun w' => Cos_calls w' ra hr0 hr1
  have C3 := Lib.hid fun w' => Sin_calls w' ra hr0 hr1
  have C4 := Lib.hid fun w' => Sin_calls w' dec hd0 hd1
  have p1 := prod_sin (cosA dec) (cosA ra)
  have p2 := prod_sin (cosA dec) ra
  have M1 : Hid (∀ w' : World, Calls Tryz.prog 107 #[.agg #[.int .i64 (sinLo (cosA dec)), .int .i64 (sinHi (cosA dec))], .agg #[.int .i64 (sinLo (cosA ra)), .int .i64 (sinHi (cosA ra))]] w' (OkPost (.tuple #[.agg #[.int .i64 (unXl ra dec), .int .i64 (unXh ra dec)], .int .i64 0]) w')) := Lib.hid fun w' => by
    have h := ivMul_calls w' _ _ _ _ (sinB (cosA dec)) (sinB (cosA ra))
    rw [ivV_ok (decide_eq_true (by omega))] at h
    exact h
  have M2 : Hid (∀ w' : World, Calls Tryz.prog 107 #[.agg #[.int .i64 (sinLo (cosA dec)), .int .i64 (sinHi (cosA dec))], .agg #[.int .i64 (sinLo ra), .int .i64 (sinHi ra)]] w' (OkPost (.tuple #[.agg #[.int .i64 (unYl ra dec), .int .i64 (unYh ra dec)], .int .i64 0]) w')) := Lib.hid fun w' => by
    have h := ivMul_calls w' _ _ _ _ (sinB (cosA dec)) (sinB ra)
    rw [ivV_ok (decide_eq_true (by omega))] at h
    exact h
  clear p1 p2
  generalize unXl ra dec = xl at *
  generalize unXh ra dec = xh at *
  generalize unYl ra dec = yl at *
  generalize unYh ra dec = yh at *
  generalize sinLo (cosA dec) = dl at *
  generalize sinHi (cosA dec) = dh at *
  generalize sinLo (cosA ra) = rl at *
  generalize sinHi (cosA ra) = rh at *
  generalize sinLo ra = sl at *
  generalize sinHi ra = sh at *
  generalize sinLo dec = zl at *
  generalize sinHi dec = zh at *
  have HE := Lib.hid ((Env.start w).alloc #[.int .i64 0, .int .i64 0, .int .i64 0, .int .i64 0, .int .i64 0, .int .i64 0] 34)
  go_enter Tryz.func135, Tryz.ntmps135
  go_wp2_with fail
  go_at_call 57
  refine (begin_calls _).mono ?_
  rintro e W1 ⟨bs, rfl, hbs, hsh, hb1⟩
  have hbs2 : w.heap.size < bs := Nat.lt_of_lt_of_le HE.out.blks.1.lt hbs
  replace HE := Lib.hid ((HE.out.below hb1).blk hsh)
  clear hb1 hsh hbs
  go_wp2_with fail
  go_at_call 108
  refine (C1.out _).mono ?_
  rintro e W2 ⟨rfl, hb2⟩
  replace HE := Lib.hid (HE.out.below hb2)
  clear hb2 C1
  go_wp2_with fail
  have E := HE.out.alloc #[.int .i64 dl, .int .i64 dh] 32
  have hb6 : bs < W2.heap.size := HE.out.blks.1.lt
  clear HE
  generalize W2.alloc (.cells #[.int .i64 dl, .int .i64 dh] 32) = V at *
  generalize W2.heap.size = b6 at *
  have HE := Lib.hid E
  clear E
  refine region_start (S := fun W' => Blk W' bs sheetC 110 ∧ Blk W' b6 #[.int .i64 dl, .int .i64 dh] 32) (by kernel_rfl) ?_
  intro W hW
  have E := HE.out.drew.swap
  rw [← hW] at E
  clear hW HE
  have hS := And.intro E.blks.1 E.blks.2.1
  refine wpAnyH_take (i := 0) (v := .pointer (some ⟨bs, 0, none⟩)) rfl (by kernel_rfl) (by kernel_rfl) (by kernel_rfl) (fun _ _ _ h => h) (.inl ⟨rfl, fun w0 hw0 => ?a0⟩) hS ?_
  case a0 =>
    have e0 : w0.cell? ⟨bs, 2, none⟩ = some (.func (.func 107) #[] #[]) := hw0.1.at 2; have e1 : w0.cell? ⟨b6, 0, none⟩ = some (.int .i64 dl) := hw0.2.at 0; have e2 : w0.cell? ⟨b6, 1, none⟩ = some (.int .i64 dh) := hw0.2.at 1
    go_simp
  refine wpAnyH_take (i := 1) (v := .pointer (some ⟨bs, 0, none⟩)) rfl (by kernel_rfl) (by kernel_rfl) (by kernel_rfl) (fun _ _ _ h => h) (.inl ⟨rfl, fun w0 hw0 => ?a1⟩) hS ?_
  case a1 =>
    have e0 : w0.cell? ⟨bs, 2, none⟩ = some (.func (.func 107) #[] #[]) := hw0.1.at 2; have e1 : w0.cell? ⟨b6, 0, none⟩ = some (.int .i64 dl) := hw0.2.at 0; have e2 : w0.cell? ⟨b6, 1, none⟩ = some (.int .i64 dh) := hw0.2.at 1
    go_simp
  refine wpAnyH_take (i := 2) (v := .pointer (some ⟨bs, 0, none⟩)) rfl (by kernel_rfl) (by kernel_rfl) (by kernel_rfl) (fun _ _ _ h => h) (.inl ⟨rfl, fun w0 hw0 => ?a2⟩) hS ?_
  case a2 =>
    have e0 : w0.cell? ⟨bs, 2, none⟩ = some (.func (.func 107) #[] #[]) := hw0.1.at 2; have e1 : w0.cell? ⟨b6, 0, none⟩ = some (.int .i64 dl) := hw0.2.at 0; have e2 : w0.cell? ⟨b6, 1, none⟩ = some (.int .i64 dh) := hw0.2.at 1
    go_simp
  refine wpAnyH_take (i := 3) (v := .pointer (some ⟨bs, 2, none⟩)) rfl (by kernel_rfl) (by kernel_rfl) (by kernel_rfl) (fun _ _ _ h => h) (.inl ⟨rfl, fun w0 hw0 => ?a3⟩) hS ?_
  case a3 =>
    have e0 : w0.cell? ⟨bs, 2, none⟩ = some (.func (.func 107) #[] #[]) := hw0.1.at 2; have e1 : w0.cell? ⟨b6, 0, none⟩ = some (.int .i64 dl) := hw0.2.at 0; have e2 : w0.cell? ⟨b6, 1, none⟩ = some (.int .i64 dh) := hw0.2.at 1
    go_simp
  refine wpAnyH_take (i := 4) (v := .func (.func 107) #[] #[]) rfl (by kernel_rfl) (by kernel_rfl) (by kernel_rfl) (fun _ _ _ h => h) (.inl ⟨rfl, fun w0 hw0 => ?a4⟩) hS ?_
  case a4 =>
    have e0 : w0.cell? ⟨bs, 2, none⟩ = some (.func (.func 107) #[] #[]) := hw0.1.at 2; have e1 : w0.cell? ⟨b6, 0, none⟩ = some (.int .i64 dl) := hw0.2.at 0; have e2 : w0.cell? ⟨b6, 1, none⟩ = some (.int .i64 dh) := hw0.2.at 1
    go_simp
  refine wpAnyH_take (i := 5) (v := .agg #[.int .i64 dl, .int .i64 dh]) rfl (by kernel_rfl) (by kernel_rfl) (by kernel_rfl) (fun _ _ _ h => h) (.inl ⟨rfl, fun w0 hw0 => ?a5⟩) hS ?_
  case a5 =>
    have e0 : w0.cell? ⟨bs, 2, none⟩ = some (.func (.func 107) #[] #[]) := hw0.1.at 2; have e1 : w0.cell? ⟨b6, 0, none⟩ = some (.int .i64 dl) := hw0.2.at 0; have e2 : w0.cell? ⟨b6, 1, none⟩ = some (.int .i64 dh) := hw0.2.at 1
    go_simp
  refine wpAnyH_take (i := 6) (v := .int .i64 ra) rfl (by kernel_rfl) (by kernel_rfl) (by kernel_rfl) (fun _ _ _ h => h) (.inl ⟨rfl, fun w0 hw0 => ?a6⟩) hS ?_
  case a6 =>
    have e0 : w0.cell? ⟨bs, 2, none⟩ = some (.func (.func 107) #[] #[]) := hw0.1.at 2; have e1 : w0.cell? ⟨b6, 0, none⟩ = some (.int .i64 dl) := hw0.2.at 0; have e2 : w0.cell? ⟨b6, 1, none⟩ = some (.int .i64 dh) := hw0.2.at 1
    go_simp
  refine wpAnyH_take (i := 9) (v := .pointer (some ⟨bs, 0, none⟩)) rfl (by kernel_rfl) (by kernel_rfl) (by kernel_rfl) (fun _ _ _ h => h) (.inl ⟨rfl, fun w0 hw0 => ?a9⟩) hS ?_
  case a9 =>
    have e0 : w0.cell? ⟨bs, 2, none⟩ = some (.func (.func 107) #[] #[]) := hw0.1.at 2; have e1 : w0.cell? ⟨b6, 0, none⟩ = some (.int .i64 dl) := hw0.2.at 0; have e2 : w0.cell? ⟨b6, 1, none⟩ = some (.int .i64 dh) := hw0.2.at 1
    go_simp
  refine wpAnyH_take (i := 10) (v := .pointer (some ⟨bs, 0, none⟩)) rfl (by kernel_rfl) (by kernel_rfl) (by kernel_rfl) (fun _ _ _ h => h) (.inl ⟨rfl, fun w0 hw0 => ?a10⟩) hS ?_
  case a10 =>
    have e0 : w0.cell? ⟨bs, 2, none⟩ = some (.func (.func 107) #[] #[]) := hw0.1.at 2; have e1 : w0.cell? ⟨b6, 0, none⟩ = some (.int .i64 dl) := hw0.2.at 0; have e2 : w0.cell? ⟨b6, 1, none⟩ = some (.int .i64 dh) := hw0.2.at 1
    go_simp
  refine wpAnyH_take (i := 11) (v := .pointer (some ⟨bs, 0, none⟩)) rfl (by kernel_rfl) (by kernel_rfl) (by kernel_rfl) (fun _ _ _ h => h) (.inl ⟨rfl, fun w0 hw0 => ?a11⟩) hS ?_
  case a11 =>
    have e0 : w0.cell? ⟨bs, 2, none⟩ = some (.func (.func 107) #[] #[]) := hw0.1.at 2; have e1 : w0.cell? ⟨b6, 0, none⟩ = some (.int .i64 dl) := hw0.2.at 0; have e2 : w0.cell? ⟨b6, 1, none⟩ = some (.int .i64 dh) := hw0.2.at 1
    go_simp
  refine wpAnyH_take (i := 12) (v := .pointer (some ⟨bs, 2, none⟩)) rfl (by kernel_rfl) (by kernel_rfl) (by kernel_rfl) (fun _ _ _ h => h) (.inl ⟨rfl, fun w0 hw0 => ?a12⟩) hS ?_
  case a12 =>
    have e0 : w0.cell? ⟨bs, 2, none⟩ = some (.func (.func 107) #[] #[]) := hw0.1.at 2; have e1 : w0.cell? ⟨b6, 0, none⟩ = some (.int .i64 dl) := hw0.2.at 0; have e2 : w0.cell? ⟨b6, 1, none⟩ = some (.int .i64 dh) := hw0.2.at 1
    go_simp
  refine wpAnyH_take (i := 13) (v := .func (.func 107) #[] #[]) rfl (by kernel_rfl) (by kernel_rfl) (by kernel_rfl) (fun _ _ _ h => h) (.inl ⟨rfl, fun w0 hw0 => ?a13⟩) hS ?_
  case a13 =>
    have e0 : w0.cell? ⟨bs, 2, none⟩ = some (.func (.func 107) #[] #[]) := hw0.1.at 2; have e1 : w0.cell? ⟨b6, 0, none⟩ = some (.int .i64 dl) := hw0.2.at 0; have e2 : w0.cell? ⟨b6, 1, none⟩ = some (.int .i64 dh) := hw0.2.at 1
    go_simp
  refine wpAnyH_take (i := 14) (v := .agg #[.int .i64 dl, .int .i64 dh]) rfl (by kernel_rfl) (by kernel_rfl) (by kernel_rfl) (fun _ _ _ h => h) (.inl ⟨rfl, fun w0 hw0 => ?a14⟩) hS ?_
  case a14 =>
    have e0 : w0.cell? ⟨bs, 2, none⟩ = some (.func (.func 107) #[] #[]) := hw0.1.at 2; have e1 : w0.cell? ⟨b6, 0, none⟩ = some (.int .i64 dl) := hw0.2.at 0; have e2 : w0.cell? ⟨b6, 1, none⟩ = some (.int .i64 dh) := hw0.2.at 1
    go_simp
  refine wpAnyH_take (i := 15) (v := .int .i64 ra) rfl (by kernel_rfl) (by kernel_rfl) (by kernel_rfl) (fun _ _ _ h => h) (.inl ⟨rfl, fun w0 hw0 => ?a15⟩) hS ?_
  case a15 =>
    have e0 : w0.cell? ⟨bs, 2, none⟩ = some (.func (.func 107) #[] #[]) := hw0.1.at 2; have e1 : w0.cell? ⟨b6, 0, none⟩ = some (.int .i64 dl) := hw0.2.at 0; have e2 : w0.cell? ⟨b6, 1, none⟩ = some (.int .i64 dh) := hw0.2.at 1
    go_simp
  refine wpAnyH_take (i := 18) (v := .int .i64 dec) rfl (by kernel_rfl) (by kernel_rfl) (by kernel_rfl) (fun _ _ _ h => h) (.inl ⟨rfl, fun w0 hw0 => ?a18⟩) hS ?_
  case a18 =>
    have e0 : w0.cell? ⟨bs, 2, none⟩ = some (.func (.func 107) #[] #[]) := hw0.1.at 2; have e1 : w0.cell? ⟨b6, 0, none⟩ = some (.int .i64 dl) := hw0.2.at 0; have e2 : w0.cell? ⟨b6, 1, none⟩ = some (.int .i64 dh) := hw0.2.at 1
    go_simp
  clear hS
  refine wpAnyH_all (rs := [7]) (by kernel_rfl) (by simp) ?_
  intro i0 hi0
  obtain rfl : i0 = 7 := by simpa using hi0
  refine wpOp_plain rfl rfl fun K' hK' => ?_
  go_simp
  refine (C2.out _).mono ?_
  rintro e W3 ⟨rfl, hb3⟩
  replace E := E.below hb3
  clear hb3
  refine hK' _ _ ⟨⟨E.blks.1, E.blks.2.1⟩, ?_⟩
  clear hK' K'
  refine wpAnyH_all (rs := [8]) (by kernel_rfl) (by simp) ?_
  intro i0 hi0
  obtain rfl : i0 = 8 := by simpa using hi0
  refine wpOp_plain rfl rfl fun K' hK' => ?_
  go_simp
  refine (doMul_calls _ bs dl dh rl rh xl xh E.blks.1 M1.out).mono ?_
  rintro e W4 ⟨rfl, hs4, hk4⟩
  replace E := E.keeps (by omega) (by simp [Free] <;> omega) hk4 hs4
  clear hs4 hk4
  refine hK' _ _ ⟨⟨E.blks.1, E.blks.2.1⟩, ?_⟩
  clear hK' K'
  refine wpAnyH_all (rs := [16]) (by kernel_rfl) (by simp) ?_
  intro i0 hi0
  obtain rfl : i0 = 16 := by simpa using hi0
  refine wpOp_plain rfl rfl fun K' hK' => ?_
  go_simp
  refine (C3.out _).mono ?_
  rintro e W5 ⟨rfl, hb5⟩
  replace E := E.below hb5
  clear hb5
  refine hK' _ _ ⟨⟨E.blks.1, E.blks.2.1⟩, ?_⟩
  clear hK' K'
  refine wpAnyH_all (rs := [17]) (by kernel_rfl) (by simp) ?_
  intro i0 hi0
  obtain rfl : i0 = 17 := by simpa using hi0
  refine wpOp_plain rfl rfl fun K' hK' => ?_
  go_simp
  refine (doMul_calls _ bs dl dh sl sh yl yh E.blks.1 M2.out).mono ?_
  rintro e W6 ⟨rfl, hs6, hk6⟩
  replace E := E.keeps (by omega) (by simp [Free] <;> omega) hk6 hs6
  clear hs6 hk6
  refine hK' _ _ ⟨⟨E.blks.1, E.blks.2.1⟩, ?_⟩
  clear hK' K'
  refine wpAnyH_all (rs := [19]) (by kernel_rfl) (by simp) ?_
  intro i0 hi0
  obtain rfl : i0 = 19 := by simpa using hi0
  refine wpOp_plain rfl rfl fun K' hK' => ?_
  go_simp
  refine (C4.out _).mono ?_
  rintro e W7 ⟨rfl, hb7⟩
  replace E := E.below hb7
  clear hb7
  refine hK' _ _ ⟨⟨E.blks.1, E.blks.2.1⟩, ?_⟩
  clear hK' K'
  have hS := And.intro E.blks.1 E.blks.2.1
  refine wpAnyH_take (i := 20) (v := .agg #[.int .i64 xl, .int .i64 xh, .int .i64 yl, .int .i64 yh, .int .i64 zl, .int .i64 zh]) rfl (by kernel_rfl) (by kernel_rfl) (by kernel_rfl) (fun _ _ _ h => h) (.inl ⟨rfl, fun w0 hw0 => ?a20⟩) hS ?_
  case a20 =>
    have e0 : w0.cell? ⟨bs, 2, none⟩ = some (.func (.func 107) #[] #[]) := hw0.1.at 2; have e1 : w0.cell? ⟨b6, 0, none⟩ = some (.int .i64 dl) := hw0.2.at 0; have e2 : w0.cell? ⟨b6, 1, none⟩ = some (.int .i64 dh) := hw0.2.at 1
    go_simp
  clear hS
  have f0 : W7.cell? ⟨w.heap.size, 0, none⟩ = some (.int .i64 0) := E.blks.2.2.1.at 0
  have g0 := E.blks.2.2.1.fr 0
  have f1 : W7.cell? ⟨w.heap.size, 1, none⟩ = some (.int .i64 0) := E.blks.2.2.1.at 1
  have g1 := E.blks.2.2.1.fr 1
  have f2 : W7.cell? ⟨w.heap.size, 2, none⟩ = some (.int .i64 0) := E.blks.2.2.1.at 2
  have g2 := E.blks.2.2.1.fr 2
  have f3 : W7.cell? ⟨w.heap.size, 3, none⟩ = some (.int .i64 0) := E.blks.2.2.1.at 3
  have g3 := E.blks.2.2.1.fr 3
  have f4 : W7.cell? ⟨w.heap.size, 4, none⟩ = some (.int .i64 0) := E.blks.2.2.1.at 4
  have g4 := E.blks.2.2.1.fr 4
  have f5 : W7.cell? ⟨w.heap.size, 5, none⟩ = some (.int .i64 0) := E.blks.2.2.1.at 5
  have g5 := E.blks.2.2.1.fr 5
  refine wpAnyH_all (rs := [21]) (by kernel_rfl) (by simp) ?_
  intro i0 hi0
  obtain rfl : i0 = 21 := by simpa using hi0
  refine wpOp_plain rfl rfl fun K' hK' => ?_
  go_simp
  obtain ⟨⟨q1, q2, q3, _⟩, _, ql⟩ := E
  have E : Env w [(w.heap.size, #[.int .i64 0, .int .i64 0, .int .i64 0, .int .i64 0, .int .i64 0, .int .i64 0], 34), (bs, sheetC, 110), (b6, #[.int .i64 dl, .int .i64 dh], 32)] [] W7 := ⟨⟨q3, q1, q2, trivial⟩, trivial, ql⟩
  replace E := ((((((E.setY (by omega) (by simp [Free] <;> omega) rfl 0 (.int .i64 xl)).setY (by omega) (by simp [Free] <;> omega) rfl 1 (.int .i64 xh)).setY (by omega) (by simp [Free] <;> omega) rfl 2 (.int .i64 yl)).setY (by omega) (by simp [Free] <;> omega) rfl 3 (.int .i64 yh)).setY (by omega) (by simp [Free] <;> omega) rfl 4 (.int .i64 zl)).setY (by omega) (by simp [Free] <;> omega) rfl 5 (.int .i64 zh))
  clear q1 q2 q3 ql f0 f1 f2 f3 f4 f5 g0 g1 g2 g3 g4 g5
  generalize ((((((W7.setCell ⟨w.heap.size, 0, none⟩ (.int .i64 xl)).setCell ⟨w.heap.size, 1, none⟩ (.int .i64 xh)).setCell ⟨w.heap.size, 2, none⟩ (.int .i64 yl)).setCell ⟨w.heap.size, 3, none⟩ (.int .i64 yh)).setCell ⟨w.heap.size, 4, none⟩ (.int .i64 zl)).setCell ⟨w.heap.size, 5, none⟩ (.int .i64 zh)) = W8 at *
  refine hK' _ _ ⟨⟨E.blks.2.1, E.blks.2.2.1⟩, wpAnyH_done (by kernel_rfl) ?_ _⟩
  clear hK' K'
  have r0 : W8.cell? ⟨w.heap.size, 0, none⟩ = some (Value.int .i64 xl) := E.blks.1.at 0
  have r1 : W8.cell? ⟨w.heap.size, 1, none⟩ = some (Value.int .i64 xh) := E.blks.1.at 1
  have r2 : W8.cell? ⟨w.heap.size, 2, none⟩ = some (Value.int .i64 yl) := E.blks.1.at 2
  have r3 : W8.cell? ⟨w.heap.size, 3, none⟩ = some (Value.int .i64 yh) := E.blks.1.at 3
  have r4 : W8.cell? ⟨w.heap.size, 4, none⟩ = some (Value.int .i64 zl) := E.blks.1.at 4
  have r5 : W8.cell? ⟨w.heap.size, 5, none⟩ = some (Value.int .i64 zh) := E.blks.1.at 5
  have HE := Lib.hid E.bel
  clear E
  go_wp2
  refine bodyPost_ret (v := .agg #[.int .i64 xl, .int .i64 xh, .int .i64 yl, .int .i64 yh, .int .i64 zl, .int .i64 zh]) (by simp [results, Tryz.results135, go_sem, r0, r1, r2, r3, r4, r5]) rfl ?_
  exact ⟨rfl, HE.out⟩

set_option maxRecDepth 100000 in
set_option maxHeartbeats 1000000 in
theorem Unit_calls (w : World) (ra dec : Int) (hr0 : -9223372036854775808 ≤ ra) (hr1 : ra < 9223372036854775808) (hd0 : -324000000000 ≤ dec) (hd1 : dec ≤ 324000000000) :
    Calls Tryz.prog 84 #[.int .i64 ra, .int .i64 dec] w (OkPost (.tuple #[.agg #[.int .i64 (unXl ra dec), .int .i64 (unXh ra dec), .int .i64 (unYl ra dec), .int .i64 (unYh ra dec), .int .i64 (sinLo dec), .int .i64 (sinHi dec)], .int .i64 0]) w) := by
  have CU := Lib.hid fun w' => unit0_calls w' ra dec hr0 hr1 (by omega) (by omega)
  have HE := Lib.hid ((Env.start w).alloc #[.int .i64 0, .int .i64 0, .int .i64 0, .int .i64 0, .int .i64 0, .int .i64 0] 34)
  have hno : decide (dec < -324000000000 ∨ 324000000000 < dec) = false := decide_eq_false (by omega)
  have CO : Hid (∀ w' : World, Calls Tryz.prog 134 #[.int .i64 dec] w' (RetPost (.bool false) w')) := Lib.hid fun w' => by
    have h := outside_calls w' dec
    rw [hno] at h
    exact h
  clear hno
  generalize unXl ra dec = xl at *
  generalize unXh ra dec = xh at *
  generalize unYl ra dec = yl at *
  generalize unYh ra dec = yh at *
  generalize sinLo dec = zl at *
  generalize sinHi dec = zh at *
  go_enter Tryz.func84, Tryz.ntmps84
  go_wp2_with fail
  go_at_call 134
  refine (CO.out _).mono ?_
  rintro e W1 ⟨rfl, rfl⟩
  go_wp2_with fail
  go_at_call 135
  refine (CU.out _).mono ?_
  rintro e W2 ⟨rfl, hb2⟩
  replace HE := Lib.hid (HE.out.below hb2)
  clear hb2 CU CO
  have f0 : W2.cell? ⟨w.heap.size, 0, none⟩ = some (.int .i64 0) := HE.out.blks.1.at 0
  have g0 := HE.out.blks.1.fr 0
  have f1 : W2.cell? ⟨w.heap.size, 1, none⟩ = some (.int .i64 0) := HE.out.blks.1.at 1
  have g1 := HE.out.blks.1.fr 1
  have f2 : W2.cell? ⟨w.heap.size, 2, none⟩ = some (.int .i64 0) := HE.out.blks.1.at 2
  have g2 := HE.out.blks.1.fr 2
  have f3 : W2.cell? ⟨w.heap.size, 3, none⟩ = some (.int .i64 0) := HE.out.blks.1.at 3
  have g3 := HE.out.blks.1.fr 3
  have f4 : W2.cell? ⟨w.heap.size, 4, none⟩ = some (.int .i64 0) := HE.out.blks.1.at 4
  have g4 := HE.out.blks.1.fr 4
  have f5 : W2.cell? ⟨w.heap.size, 5, none⟩ = some (.int .i64 0) := HE.out.blks.1.at 5
  have g5 := HE.out.blks.1.fr 5
  go_wp2
  have E := ((((((HE.out.setY (by omega) (by simp [Free] <;> omega) rfl 0 (.int .i64 xl)).setY (by omega) (by simp [Free] <;> omega) rfl 1 (.int .i64 xh)).setY (by omega) (by simp [Free] <;> omega) rfl 2 (.int .i64 yl)).setY (by omega) (by simp [Free] <;> omega) rfl 3 (.int .i64 yh)).setY (by omega) (by simp [Free] <;> omega) rfl 4 (.int .i64 zl)).setY (by omega) (by simp [Free] <;> omega) rfl 5 (.int .i64 zh))
  have r0 : _ = some (Value.int .i64 xl) := E.blks.1.at 0
  have r1 : _ = some (Value.int .i64 xh) := E.blks.1.at 1
  have r2 : _ = some (Value.int .i64 yl) := E.blks.1.at 2
  have r3 : _ = some (Value.int .i64 yh) := E.blks.1.at 3
  have r4 : _ = some (Value.int .i64 zl) := E.blks.1.at 4
  have r5 : _ = some (Value.int .i64 zh) := E.blks.1.at 5
  refine bodyPost_ret (v := .tuple #[.agg #[.int .i64 xl, .int .i64 xh, .int .i64 yl, .int .i64 yh, .int .i64 zl, .int .i64 zh], .int .i64 0]) (by simp [results, Tryz.results84, go_sem, r0, r1, r2, r3, r4, r5]) rfl ?_
  exact ⟨rfl, E.bel⟩

end Go.Proofs.YtilaheplclaokaaGreatDoor

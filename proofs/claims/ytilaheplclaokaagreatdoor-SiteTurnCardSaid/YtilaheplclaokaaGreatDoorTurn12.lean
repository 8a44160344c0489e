/-
Walks of package span: the least and the greatest of four numbers of two words.
Walks of package span: Sub, Mul, at valid intervals.
Walks of package sphere: Check, look, begin, do, vec.
-/
import Derived.Test.YtilaheplclaokaaGreatDoorTurn11
set_option linter.unusedVariables false
set_option linter.unusedSimpArgs false
namespace Go.Proofs.YtilaheplclaokaaGreatDoor
open Go.RowKit Go.Shelf
attribute [local go_sem] Oper.semAt_some

/-- The lesser one, the greater one. -/
def lo2 (t u : Int) : Int := if u < t then u else t
def hi2 (t u : Int) : Int := if t < u then u else t
theorem cmp_neg' {x y : Int} (h : x < y) : cmpZ x y < 0 := by rw [cmpZ_lt h]; omega
theorem cmpZ_nneg2 {x y : Int} (h : ¬ x < y) : ¬ cmpZ x y < 0 := by
  unfold cmpZ
  rw [if_neg h]
  split <;> omega
theorem cmpZ_npos2 {x y : Int} (h : ¬ y < x) : ¬ 0 < cmpZ x y := by
  unfold cmpZ
  rw [if_neg h]
  split <;> omega
theorem cmp_pos' {x y : Int} (h : y < x) : 0 < cmpZ x y := by rw [cmpZ_gt h]; omega


set_option maxRecDepth 100000 in
set_option maxHeartbeats 1000000 in
theorem least_calls (w : World) (b : Nat) (x0 x1 x2 x3 : Int) (t : TypeId) (hs : Blk w b #[.int .i64 (x0 / 18446744073709551616), .int .u64 (x0 % 18446744073709551616), .int .i64 (x1 / 18446744073709551616), .int .u64 (x1 % 18446744073709551616), .int .i64 (x2 / 18446744073709551616), .int .u64 (x2 % 18446744073709551616), .int .i64 (x3 / 18446744073709551616), .int .u64 (x3 % 18446744073709551616)] t) :
    Calls Tryz.prog 64 #[.agg #[.int .i64 (x0 / 18446744073709551616), .int .u64 (x0 % 18446744073709551616)], .slice (some ⟨b, 2, none⟩) 3 3] w (OkPost (twin (lo2 (lo2 (lo2 x0 x1) x2) x3)) w) := by
  have hlb := hs.lt
  obtain ⟨CS, hCS⟩ : ∃ CS : Array Value, CS = #[.int .i64 (x0 / 18446744073709551616), .int .u64 (x0 % 18446744073709551616), .int .i64 (x1 / 18446744073709551616), .int .u64 (x1 % 18446744073709551616), .int .i64 (x2 / 18446744073709551616), .int .u64 (x2 % 18446744073709551616), .int .i64 (x3 / 18446744073709551616), .int .u64 (x3 % 18446744073709551616)] := ⟨_, rfl⟩
  have E := (((Env.start w).blk hs).alloc #[.int .i64 (x0 / 18446744073709551616), .int .u64 (x0 % 18446744073709551616)] 114).alloc #[.int .i64 0, .int .u64 0] 114
  simp only [World.size_alloc] at E
  have HE0 := Lib.hid E.swap
  clear E hs hCS CS
  have CC : Hid (∀ (w' : World) (x y : Int), Calls Tryz.prog 113 #[.agg #[.int .i64 (x / 18446744073709551616), .int .u64 (x % 18446744073709551616)], .agg #[.int .i64 (y / 18446744073709551616), .int .u64 (y % 18446744073709551616)]] w' (OkPost (.int .i64 (cmpZ x y)) w')) := Lib.hid tcmp_calls
  have HR : Hid (lo2 (lo2 (lo2 x0 x1) x2) x3 = lo2 (lo2 (lo2 x0 x1) x2) x3) := Lib.hid rfl
  obtain ⟨m1, hm1⟩ : ∃ m1, m1 = lo2 x0 x1 := ⟨_, rfl⟩
  obtain ⟨m2, hm2⟩ : ∃ m2, m2 = lo2 m1 x2 := ⟨_, rfl⟩
  obtain ⟨m3, hm3⟩ : ∃ m3, m3 = lo2 m2 x3 := ⟨_, rfl⟩
  rw [← hm1, ← hm2, ← hm3]
  have HM1 := Lib.hid hm1
  have HM2 := Lib.hid hm2
  have HM3 := Lib.hid hm3
  clear hm1 hm2 hm3 HR
  go_enter Tryz.func64, Tryz.ntmps64
  go_wp2
  go_loopw [9] (fun i wr => ∃ (k : Nat) (m : Int), k ≤ 3 ∧ i = .int .i64 k ∧ ((k = 0 ∧ m = x0) ∨ (k = 1 ∧ m = m1) ∨ (k = 2 ∧ m = m2) ∨ (k = 3 ∧ m = m3)) ∧ Env w [(w.heap.size, #[.int .i64 (m / 18446744073709551616), .int .u64 (m % 18446744073709551616)], 114), (w.heap.size + 1, #[.int .i64 0, .int .u64 0], 114), (b, #[.int .i64 (x0 / 18446744073709551616), .int .u64 (x0 % 18446744073709551616), .int .i64 (x1 / 18446744073709551616), .int .u64 (x1 % 18446744073709551616), .int .i64 (x2 / 18446744073709551616), .int .u64 (x2 % 18446744073709551616), .int .i64 (x3 / 18446744073709551616), .int .u64 (x3 % 18446744073709551616)], t)] [] wr) (fun i _ => 3 - (intOf i).toNat)
  case atStart => exact ⟨0, x0, by omega, rfl, .inl ⟨rfl, rfl⟩, HE0.out⟩
  case round =>
    clear HE0
    obtain ⟨k, m, hk, rfl, hkm, E⟩ := hrel
    have HE := Lib.hid E
    clear E
    rcases hkm with ⟨rfl, hm⟩ | ⟨rfl, hm⟩ | ⟨rfl, hm⟩ | ⟨rfl, hm⟩
    · rw [hm] at HE
      clear hm m
      have HST : Hid (m1 = if x1 < x0 then x1 else x0) := Lib.hid HM1.out
      by_cases hc : x1 < x0
      · have hcm : cmpZ x1 x0 < 0 := cmp_neg' hc
        have e0 : wr.cell? ⟨b, 2, none⟩ = some (.int .i64 (x1 / 18446744073709551616)) := HE.out.blks.2.2.1.at 2
        have e1 : wr.cell? ⟨b, 3, none⟩ = some (.int .u64 (x1 % 18446744073709551616)) := HE.out.blks.2.2.1.at 3
        have e2 : wr.cell? ⟨w.heap.size, 0, none⟩ = some (.int .i64 (x0 / 18446744073709551616)) := HE.out.blks.1.at 0
        have e3 : wr.cell? ⟨w.heap.size, 1, none⟩ = some (.int .u64 (x0 % 18446744073709551616)) := HE.out.blks.1.at 1
        have hl : w.heap.size < wr.heap.size := HE.out.blks.1.lt
        go_wp2_with (go_at_call 113; refine (CC.out _ x1 x0).mono ?_; rintro e w2 ⟨rfl, hb2⟩; have E2 := (HE.out.alloc #[.int .i64 (x1 / 18446744073709551616), .int .u64 (x1 % 18446744073709551616)] 114).below hb2; have e4 : w2.cell? ⟨wr.heap.size, 0, none⟩ = some (.int .i64 (x1 / 18446744073709551616)) := E2.blks.1.at 0; have e5 : w2.cell? ⟨wr.heap.size, 1, none⟩ = some (.int .u64 (x1 % 18446744073709551616)) := E2.blks.1.at 1; have e6 : w2.cell? ⟨w.heap.size, 0, none⟩ = some (.int .i64 (x0 / 18446744073709551616)) := E2.blks.2.1.at 0; have e7 : w2.cell? ⟨w.heap.size, 1, none⟩ = some (.int .u64 (x0 % 18446744073709551616)) := E2.blks.2.1.at 1; have g6 := E2.blks.2.1.fr 0; have g7 := E2.blks.2.1.fr 1; have HE2 := Lib.hid E2.drop; clear E2 hb2)
        have E3 := (HE2.out.setY (Nat.le_refl _) ⟨by simp, by simp only [ne_eq]; omega, trivial⟩ rfl 0 (.int .i64 (x1 / 18446744073709551616))).setY (Nat.le_refl _) ⟨by simp, by simp only [ne_eq]; omega, trivial⟩ rfl 1 (.int .u64 (x1 % 18446744073709551616))
        have HE3 := Lib.hid E3
        clear E3
        go_roundw
        case rel => exact ⟨1, m1, by omega, by go_num, .inr (.inl ⟨rfl, rfl⟩), by rw [HST.out, if_pos (by omega)]; exact HE3.out⟩
        case measure => simp [intOf]
      · have hcm : ¬ cmpZ x1 x0 < 0 := cmpZ_nneg2 hc
        have e0 : wr.cell? ⟨b, 2, none⟩ = some (.int .i64 (x1 / 18446744073709551616)) := HE.out.blks.2.2.1.at 2
        have e1 : wr.cell? ⟨b, 3, none⟩ = some (.int .u64 (x1 % 18446744073709551616)) := HE.out.blks.2.2.1.at 3
        have e2 : wr.cell? ⟨w.heap.size, 0, none⟩ = some (.int .i64 (x0 / 18446744073709551616)) := HE.out.blks.1.at 0
        have e3 : wr.cell? ⟨w.heap.size, 1, none⟩ = some (.int .u64 (x0 % 18446744073709551616)) := HE.out.blks.1.at 1
        have hl : w.heap.size < wr.heap.size := HE.out.blks.1.lt
        go_wp2_with (go_at_call 113; refine (CC.out _ x1 x0).mono ?_; rintro e w2 ⟨rfl, hb2⟩; have E2 := (HE.out.alloc #[.int .i64 (x1 / 18446744073709551616), .int .u64 (x1 % 18446744073709551616)] 114).below hb2; have e4 : w2.cell? ⟨wr.heap.size, 0, none⟩ = some (.int .i64 (x1 / 18446744073709551616)) := E2.blks.1.at 0; have e5 : w2.cell? ⟨wr.heap.size, 1, none⟩ = some (.int .u64 (x1 % 18446744073709551616)) := E2.blks.1.at 1; have e6 : w2.cell? ⟨w.heap.size, 0, none⟩ = some (.int .i64 (x0 / 18446744073709551616)) := E2.blks.2.1.at 0; have e7 : w2.cell? ⟨w.heap.size, 1, none⟩ = some (.int .u64 (x0 % 18446744073709551616)) := E2.blks.2.1.at 1; have g6 := E2.blks.2.1.fr 0; have g7 := E2.blks.2.1.fr 1; have HE2 := Lib.hid E2.drop; clear E2 hb2)
        go_roundw
        case rel => exact ⟨1, m1, by omega, by go_num, .inr (.inl ⟨rfl, rfl⟩), by rw [HST.out, if_neg (by omega)]; exact HE2.out⟩
        case measure => simp [intOf]
    · rw [hm] at HE
      clear hm m
      have HST : Hid (m2 = if x2 < m1 then x2 else m1) := Lib.hid HM2.out
      by_cases hc : x2 < m1
      · have hcm : cmpZ x2 m1 < 0 := cmp_neg' hc
        have e0 : wr.cell? ⟨b, 4, none⟩ = some (.int .i64 (x2 / 18446744073709551616)) := HE.out.blks.2.2.1.at 4
        have e1 : wr.cell? ⟨b, 5, none⟩ = some (.int .u64 (x2 % 18446744073709551616)) := HE.out.blks.2.2.1.at 5
        have e2 : wr.cell? ⟨w.heap.size, 0, none⟩ = some (.int .i64 (m1 / 18446744073709551616)) := HE.out.blks.1.at 0
        have e3 : wr.cell? ⟨w.heap.size, 1, none⟩ = some (.int .u64 (m1 % 18446744073709551616)) := HE.out.blks.1.at 1
        have hl : w.heap.size < wr.heap.size := HE.out.blks.1.lt
        go_wp2_with (go_at_call 113; refine (CC.out _ x2 m1).mono ?_; rintro e w2 ⟨rfl, hb2⟩; have E2 := (HE.out.alloc #[.int .i64 (x2 / 18446744073709551616), .int .u64 (x2 % 18446744073709551616)] 114).below hb2; have e4 : w2.cell? ⟨wr.heap.size, 0, none⟩ = some (.int .i64 (x2 / 18446744073709551616)) := E2.blks.1.at 0; have e5 : w2.cell? ⟨wr.heap.size, 1, none⟩ = some (.int .u64 (x2 % 18446744073709551616)) := E2.blks.1.at 1; have e6 : w2.cell? ⟨w.heap.size, 0, none⟩ = some (.int .i64 (m1 / 18446744073709551616)) := E2.blks.2.1.at 0; have e7 : w2.cell? ⟨w.heap.size, 1, none⟩ = some (.int .u64 (m1 % 18446744073709551616)) := E2.blks.2.1.at 1; have g6 := E2.blks.2.1.fr 0; have g7 := E2.blks.2.1.fr 1; have HE2 := Lib.hid E2.drop; clear E2 hb2)
        have E3 := (HE2.out.setY (Nat.le_refl _) ⟨by simp, by simp only [ne_eq]; omega, trivial⟩ rfl 0 (.int .i64 (x2 / 18446744073709551616))).setY (Nat.le_refl _) ⟨by simp, by simp only [ne_eq]; omega, trivial⟩ rfl 1 (.int .u64 (x2 % 18446744073709551616))
        have HE3 := Lib.hid E3
        clear E3
        go_roundw
        case rel => exact ⟨2, m2, by omega, by go_num, .inr (.inr (.inl ⟨rfl, rfl⟩)), by rw [HST.out, if_pos (by omega)]; exact HE3.out⟩
        case measure => simp [intOf]
      · have hcm : ¬ cmpZ x2 m1 < 0 := cmpZ_nneg2 hc
        have e0 : wr.cell? ⟨b, 4, none⟩ = some (.int .i64 (x2 / 18446744073709551616)) := HE.out.blks.2.2.1.at 4
        have e1 : wr.cell? ⟨b, 5, none⟩ = some (.int .u64 (x2 % 18446744073709551616)) := HE.out.blks.2.2.1.at 5
        have e2 : wr.cell? ⟨w.heap.size, 0, none⟩ = some (.int .i64 (m1 / 18446744073709551616)) := HE.out.blks.1.at 0
        have e3 : wr.cell? ⟨w.heap.size, 1, none⟩ = some (.int .u64 (m1 % 18446744073709551616)) := HE.out.blks.1.at 1
        have hl : w.heap.size < wr.heap.size := HE.out.blks.1.lt
        go_wp2_with (go_at_call 113; refine (CC.out _ x2 m1).mono ?_; rintro e w2 ⟨rfl, hb2⟩; have E2 := (HE.out.alloc #[.int .i64 (x2 / 18446744073709551616), .int .u64 (x2 % 18446744073709551616)] 114).below hb2; have e4 : w2.cell? ⟨wr.heap.size, 0, none⟩ = some (.int .i64 (x2 / 18446744073709551616)) := E2.blks.1.at 0; have e5 : w2.cell? ⟨wr.heap.size, 1, none⟩ = some (.int .u64 (x2 % 18446744073709551616)) := E2.blks.1.at 1; have e6 : w2.cell? ⟨w.heap.size, 0, none⟩ = some (.int .i64 (m1 / 18446744073709551616)) := E2.blks.2.1.at 0; have e7 : w2.cell? ⟨w.heap.size, 1, none⟩ = some (.int .u64 (m1 % 18446744073709551616)) := E2.blks.2.1.at 1; have g6 := E2.blks.2.1.fr 0; have g7 := E2.blks.2.1.fr 1; have HE2 := Lib.hid E2.drop; clear E2 hb2)
        go_roundw
        case rel => exact ⟨2, m2, by omega, by go_num, .inr (.inr (.inl ⟨rfl, rfl⟩)), by rw [HST.out, if_neg (by omega)]; exact HE2.out⟩
        case measure => simp [intOf]
    · rw [hm] at HE
      clear hm m
      have HST : Hid (m3 = if x3 < m2 then x3 else m2) := Lib.hid HM3.out
      by_cases hc : x3 < m2
      · have hcm : cmpZ x3 m2 < 0 := cmp_neg' hc
        have e0 : wr.cell? ⟨b, 6, none⟩ = some (.int .i64 (x3 / 18446744073709551616)) := HE.out.blks.2.2.1.at 6
        have e1 : wr.cell? ⟨b, 7, none⟩ = some (.int .u64 (x3 % 18446744073709551616)) := HE.out.blks.2.2.1.at 7
        have e2 : wr.cell? ⟨w.heap.size, 0, none⟩ = some (.int .i64 (m2 / 18446744073709551616)) := HE.out.blks.1.at 0
        have e3 : wr.cell? ⟨w.heap.size, 1, none⟩ = some (.int .u64 (m2 % 18446744073709551616)) := HE.out.blks.1.at 1
        have hl : w.heap.size < wr.heap.size := HE.out.blks.1.lt
        go_wp2_with (go_at_call 113; refine (CC.out _ x3 m2).mono ?_; rintro e w2 ⟨rfl, hb2⟩; have E2 := (HE.out.alloc #[.int .i64 (x3 / 18446744073709551616), .int .u64 (x3 % 18446744073709551616)] 114).below hb2; have e4 : w2.cell? ⟨wr.heap.size, 0, none⟩ = some (.int .i64 (x3 / 18446744073709551616)) := E2.blks.1.at 0; have e5 : w2.cell? ⟨wr.heap.size, 1, none⟩ = some (.int .u64 (x3 % 18446744073709551616)) := E2.blks.1.at 1; have e6 : w2.cell? ⟨w.heap.size, 0, none⟩ = some (.int .i64 (m2 / 18446744073709551616)) := E2.blks.2.1.at 0; have e7 : w2.cell? ⟨w.heap.size, 1, none⟩ = some (.int .u64 (m2 % 18446744073709551616)) := E2.blks.2.1.at 1; have g6 := E2.blks.2.1.fr 0; have g7 := E2.blks.2.1.fr 1; have HE2 := Lib.hid E2.drop; clear E2 hb2)
        have E3 := (HE2.out.setY (Nat.le_refl _) ⟨by simp, by simp only [ne_eq]; omega, trivial⟩ rfl 0 (.int .i64 (x3 / 18446744073709551616))).setY (Nat.le_refl _) ⟨by simp, by simp only [ne_eq]; omega, trivial⟩ rfl 1 (.int .u64 (x3 % 18446744073709551616))
        have HE3 := Lib.hid E3
        clear E3
        go_roundw
        case rel => exact ⟨3, m3, by omega, by go_num, .inr (.inr (.inr ⟨rfl, rfl⟩)), by rw [HST.out, if_pos (by omega)]; exact HE3.out⟩
        case measure => simp [intOf]
      · have hcm : ¬ cmpZ x3 m2 < 0 := cmpZ_nneg2 hc
        have e0 : wr.cell? ⟨b, 6, none⟩ = some (.int .i64 (x3 / 18446744073709551616)) := HE.out.blks.2.2.1.at 6
        have e1 : wr.cell? ⟨b, 7, none⟩ = some (.int .u64 (x3 % 18446744073709551616)) := HE.out.blks.2.2.1.at 7
        have e2 : wr.cell? ⟨w.heap.size, 0, none⟩ = some (.int .i64 (m2 / 18446744073709551616)) := HE.out.blks.1.at 0
        have e3 : wr.cell? ⟨w.heap.size, 1, none⟩ = some (.int .u64 (m2 % 18446744073709551616)) := HE.out.blks.1.at 1
        have hl : w.heap.size < wr.heap.size := HE.out.blks.1.lt
        go_wp2_with (go_at_call 113; refine (CC.out _ x3 m2).mono ?_; rintro e w2 ⟨rfl, hb2⟩; have E2 := (HE.out.alloc #[.int .i64 (x3 / 18446744073709551616), .int .u64 (x3 % 18446744073709551616)] 114).below hb2; have e4 : w2.cell? ⟨wr.heap.size, 0, none⟩ = some (.int .i64 (x3 / 18446744073709551616)) := E2.blks.1.at 0; have e5 : w2.cell? ⟨wr.heap.size, 1, none⟩ = some (.int .u64 (x3 % 18446744073709551616)) := E2.blks.1.at 1; have e6 : w2.cell? ⟨w.heap.size, 0, none⟩ = some (.int .i64 (m2 / 18446744073709551616)) := E2.blks.2.1.at 0; have e7 : w2.cell? ⟨w.heap.size, 1, none⟩ = some (.int .u64 (m2 % 18446744073709551616)) := E2.blks.2.1.at 1; have g6 := E2.blks.2.1.fr 0; have g7 := E2.blks.2.1.fr 1; have HE2 := Lib.hid E2.drop; clear E2 hb2)
        go_roundw
        case rel => exact ⟨3, m3, by omega, by go_num, .inr (.inr (.inr ⟨rfl, rfl⟩)), by rw [HST.out, if_neg (by omega)]; exact HE2.out⟩
        case measure => simp [intOf]
    · rw [hm] at HE
      clear hm m
      have e2 : wr.cell? ⟨w.heap.size, 0, none⟩ = some (.int .i64 (m3 / 18446744073709551616)) := HE.out.blks.1.at 0
      have e3 : wr.cell? ⟨w.heap.size, 1, none⟩ = some (.int .u64 (m3 % 18446744073709551616)) := HE.out.blks.1.at 1
      have f0 : wr.cell? ⟨w.heap.size + 1, 0, none⟩ = some (.int .i64 0) := HE.out.blks.2.1.at 0
      have f1 : wr.cell? ⟨w.heap.size + 1, 1, none⟩ = some (.int .u64 0) := HE.out.blks.2.1.at 1
      have g0 := HE.out.blks.2.1.fr 0
      have g1 := HE.out.blks.2.1.fr 1
      go_wp2
      have E3 := (HE.out.swap.setY (by omega) ⟨by simp, by simp only [ne_eq]; omega, trivial⟩ rfl 0 (.int .i64 (m3 / 18446744073709551616))).setY (by omega) ⟨by simp, by simp only [ne_eq]; omega, trivial⟩ rfl 1 (.int .u64 (m3 % 18446744073709551616))
      have r0 : _ = some (Value.int .i64 (m3 / 18446744073709551616)) := E3.blks.1.at 0
      have r1 : _ = some (Value.int .u64 (m3 % 18446744073709551616)) := E3.blks.1.at 1
      refine bodyPost_ret (v := .agg #[.int .i64 (m3 / 18446744073709551616), .int .u64 (m3 % 18446744073709551616)]) (by simp [results, Tryz.results64, go_sem, r0, r1]) rfl ?_
      exact ⟨rfl, E3.bel⟩


set_option maxRecDepth 100000 in
set_option maxHeartbeats 1000000 in
theorem greatest_calls (w : World) (b : Nat) (x0 x1 x2 x3 : Int) (t : TypeId) (hs : Blk w b #[.int .i64 (x0 / 18446744073709551616), .int .u64 (x0 % 18446744073709551616), .int .i64 (x1 / 18446744073709551616), .int .u64 (x1 % 18446744073709551616), .int .i64 (x2 / 18446744073709551616), .int .u64 (x2 % 18446744073709551616), .int .i64 (x3 / 18446744073709551616), .int .u64 (x3 % 18446744073709551616)] t) :
    Calls Tryz.prog 66 #[.agg #[.int .i64 (x0 / 18446744073709551616), .int .u64 (x0 % 18446744073709551616)], .slice (some ⟨b, 2, none⟩) 3 3] w (OkPost (twin (hi2 (hi2 (hi2 x0 x1) x2) x3)) w) := by
  have hlb := hs.lt
  obtain ⟨CS, hCS⟩ : ∃ CS : Array Value, CS = #[.int .i64 (x0 / 18446744073709551616), .int .u64 (x0 % 18446744073709551616), .int .i64 (x1 / 18446744073709551616), .int .u64 (x1 % 18446744073709551616), .int .i64 (x2 / 18446744073709551616), .int .u64 (x2 % 18446744073709551616), .int .i64 (x3 / 18446744073709551616), .int .u64 (x3 % 18446744073709551616)] := ⟨_, rfl⟩
  have E := (((Env.start w).blk hs).alloc #[.int .i64 (x0 / 18446744073709551616), .int .u64 (x0 % 18446744073709551616)] 114).alloc #[.int .i64 0, .int .u64 0] 114
  simp only [World.size_alloc] at E
  have HE0 := Lib.hid E.swap
  clear E hs hCS CS
  have CC : Hid (∀ (w' : World) (x y : Int), Calls Tryz.prog 113 #[.agg #[.int .i64 (x / 18446744073709551616), .int .u64 (x % 18446744073709551616)], .agg #[.int .i64 (y / 18446744073709551616), .int .u64 (y % 18446744073709551616)]] w' (OkPost (.int .i64 (cmpZ x y)) w')) := Lib.hid tcmp_calls
  have HR : Hid (hi2 (hi2 (hi2 x0 x1) x2) x3 = hi2 (hi2 (hi2 x0 x1) x2) x3) := Lib.hid rfl
  obtain ⟨m1, hm1⟩ : ∃ m1, m1 = hi2 x0 x1 := ⟨_, rfl⟩
  obtain ⟨m2, hm2⟩ : ∃ m2, m2 = hi2 m1 x2 := ⟨_, rfl⟩
  obtain ⟨m3, hm3⟩ : ∃ m3, m3 = hi2 m2 x3 := ⟨_, rfl⟩
  rw [← hm1, ← hm2, ← hm3]
  have HM1 := Lib.hid hm1
  have HM2 := Lib.hid hm2
  have HM3 := Lib.hid hm3
  clear hm1 hm2 hm3 HR
  go_enter Tryz.func66, Tryz.ntmps66
  go_wp2
  go_loopw [9] (fun i wr => ∃ (k : Nat) (m : Int), k ≤ 3 ∧ i = .int .i64 k ∧ ((k = 0 ∧ m = x0) ∨ (k = 1 ∧ m = m1) ∨ (k = 2 ∧ m = m2) ∨ (k = 3 ∧ m = m3)) ∧ Env w [(w.heap.size, #[.int .i64 (m / 18446744073709551616), .int .u64 (m % 18446744073709551616)], 114), (w.heap.size + 1, #[.int .i64 0, .int .u64 0], 114), (b, #[.int .i64 (x0 / 18446744073709551616), .int .u64 (x0 % 18446744073709551616), .int .i64 (x1 / 18446744073709551616), .int .u64 (x1 % 18446744073709551616), .int .i64 (x2 / 18446744073709551616), .int .u64 (x2 % 18446744073709551616), .int .i64 (x3 / 18446744073709551616), .int .u64 (x3 % 18446744073709551616)], t)] [] wr) (fun i _ => 3 - (intOf i).toNat)
  case atStart => exact ⟨0, x0, by omega, rfl, .inl ⟨rfl, rfl⟩, HE0.out⟩
  case round =>
    clear HE0
    obtain ⟨k, m, hk, rfl, hkm, E⟩ := hrel
    have HE := Lib.hid E
    clear E
    rcases hkm with ⟨rfl, hm⟩ | ⟨rfl, hm⟩ | ⟨rfl, hm⟩ | ⟨rfl, hm⟩
    · rw [hm] at HE
      clear hm m
      have HST : Hid (m1 = if x0 < x1 then x1 else x0) := Lib.hid HM1.out
      by_cases hc : x0 < x1
      · have hcm : 0 < cmpZ x1 x0 := cmp_pos' hc
        have e0 : wr.cell? ⟨b, 2, none⟩ = some (.int .i64 (x1 / 18446744073709551616)) := HE.out.blks.2.2.1.at 2
        have e1 : wr.cell? ⟨b, 3, none⟩ = some (.int .u64 (x1 % 18446744073709551616)) := HE.out.blks.2.2.1.at 3
        have e2 : wr.cell? ⟨w.heap.size, 0, none⟩ = some (.int .i64 (x0 / 18446744073709551616)) := HE.out.blks.1.at 0
        have e3 : wr.cell? ⟨w.heap.size, 1, none⟩ = some (.int .u64 (x0 % 18446744073709551616)) := HE.out.blks.1.at 1
        have hl : w.heap.size < wr.heap.size := HE.out.blks.1.lt
        go_wp2_with (go_at_call 113; refine (CC.out _ x1 x0).mono ?_; rintro e w2 ⟨rfl, hb2⟩; have E2 := (HE.out.alloc #[.int .i64 (x1 / 18446744073709551616), .int .u64 (x1 % 18446744073709551616)] 114).below hb2; have e4 : w2.cell? ⟨wr.heap.size, 0, none⟩ = some (.int .i64 (x1 / 18446744073709551616)) := E2.blks.1.at 0; have e5 : w2.cell? ⟨wr.heap.size, 1, none⟩ = some (.int .u64 (x1 % 18446744073709551616)) := E2.blks.1.at 1; have e6 : w2.cell? ⟨w.heap.size, 0, none⟩ = some (.int .i64 (x0 / 18446744073709551616)) := E2.blks.2.1.at 0; have e7 : w2.cell? ⟨w.heap.size, 1, none⟩ = some (.int .u64 (x0 % 18446744073709551616)) := E2.blks.2.1.at 1; have g6 := E2.blks.2.1.fr 0; have g7 := E2.blks.2.1.fr 1; have HE2 := Lib.hid E2.drop; clear E2 hb2)
        have E3 := (HE2.out.setY (Nat.le_refl _) ⟨by simp, by simp only [ne_eq]; omega, trivial⟩ rfl 0 (.int .i64 (x1 / 18446744073709551616))).setY (Nat.le_refl _) ⟨by simp, by simp only [ne_eq]; omega, trivial⟩ rfl 1 (.int .u64 (x1 % 18446744073709551616))
        have HE3 := Lib.hid E3
        clear E3
        go_roundw
        case rel => exact ⟨1, m1, by omega, by go_num, .inr (.inl ⟨rfl, rfl⟩), by rw [HST.out, if_pos (by omega)]; exact HE3.out⟩
        case measure => simp [intOf]
      · have hcm : ¬ 0 < cmpZ x1 x0 := cmpZ_npos2 hc
        have e0 : wr.cell? ⟨b, 2, none⟩ = some (.int .i64 (x1 / 18446744073709551616)) := HE.out.blks.2.2.1.at 2
        have e1 : wr.cell? ⟨b, 3, none⟩ = some (.int .u64 (x1 % 18446744073709551616)) := HE.out.blks.2.2.1.at 3
        have e2 : wr.cell? ⟨w.heap.size, 0, none⟩ = some (.int .i64 (x0 / 18446744073709551616)) := HE.out.blks.1.at 0
        have e3 : wr.cell? ⟨w.heap.size, 1, none⟩ = some (.int .u64 (x0 % 18446744073709551616)) := HE.out.blks.1.at 1
        have hl : w.heap.size < wr.heap.size := HE.out.blks.1.lt
        go_wp2_with (go_at_call 113; refine (CC.out _ x1 x0).mono ?_; rintro e w2 ⟨rfl, hb2⟩; have E2 := (HE.out.alloc #[.int .i64 (x1 / 18446744073709551616), .int .u64 (x1 % 18446744073709551616)] 114).below hb2; have e4 : w2.cell? ⟨wr.heap.size, 0, none⟩ = some (.int .i64 (x1 / 18446744073709551616)) := E2.blks.1.at 0; have e5 : w2.cell? ⟨wr.heap.size, 1, none⟩ = some (.int .u64 (x1 % 18446744073709551616)) := E2.blks.1.at 1; have e6 : w2.cell? ⟨w.heap.size, 0, none⟩ = some (.int .i64 (x0 / 18446744073709551616)) := E2.blks.2.1.at 0; have e7 : w2.cell? ⟨w.heap.size, 1, none⟩ = some (.int .u64 (x0 % 18446744073709551616)) := E2.blks.2.1.at 1; have g6 := E2.blks.2.1.fr 0; have g7 := E2.blks.2.1.fr 1; have HE2 := Lib.hid E2.drop; clear E2 hb2)
        go_roundw
        case rel => exact ⟨1, m1, by omega, by go_num, .inr (.inl ⟨rfl, rfl⟩), by rw [HST.out, if_neg (by omega)]; exact HE2.out⟩
        case measure => simp [intOf]
    · rw [hm] at HE
      clear hm m
      have HST : Hid (m2 = if m1 < x2 then x2 else m1) := Lib.hid HM2.out
      by_cases hc : m1 < x2
      · have hcm : 0 < cmpZ x2 m1 := cmp_pos' hc
        have e0 : wr.cell? ⟨b, 4, none⟩ = some (.int .i64 (x2 / 18446744073709551616)) := HE.out.blks.2.2.1.at 4
        have e1 : wr.cell? ⟨b, 5, none⟩ = some (.int .u64 (x2 % 18446744073709551616)) := HE.out.blks.2.2.1.at 5
        have e2 : wr.cell? ⟨w.heap.size, 0, none⟩ = some (.int .i64 (m1 / 18446744073709551616)) := HE.out.blks.1.at 0
        have e3 : wr.cell? ⟨w.heap.size, 1, none⟩ = some (.int .u64 (m1 % 18446744073709551616)) := HE.out.blks.1.at 1
        have hl : w.heap.size < wr.heap.size := HE.out.blks.1.lt
        go_wp2_with (go_at_call 113; refine (CC.out _ x2 m1).mono ?_; rintro e w2 ⟨rfl, hb2⟩; have E2 := (HE.out.alloc #[.int .i64 (x2 / 18446744073709551616), .int .u64 (x2 % 18446744073709551616)] 114).below hb2; have e4 : w2.cell? ⟨wr.heap.size, 0, none⟩ = some (.int .i64 (x2 / 18446744073709551616)) := E2.blks.1.at 0; have e5 : w2.cell? ⟨wr.heap.size, 1, none⟩ = some (.int .u64 (x2 % 18446744073709551616)) := E2.blks.1.at 1; have e6 : w2.cell? ⟨w.heap.size, 0, none⟩ = some (.int .i64 (m1 / 18446744073709551616)) := E2.blks.2.1.at 0; have e7 : w2.cell? ⟨w.heap.size, 1, none⟩ = some (.int .u64 (m1 % 18446744073709551616)) := E2.blks.2.1.at 1; have g6 := E2.blks.2.1.fr 0; have g7 := E2.blks.2.1.fr 1; have HE2 := Lib.hid E2.drop; clear E2 hb2)
        have E3 := (HE2.out.setY (Nat.le_refl _) ⟨by simp, by simp only [ne_eq]; omega, trivial⟩ rfl 0 (.int .i64 (x2 / 18446744073709551616))).setY (Nat.le_refl _) ⟨by simp, by simp only [ne_eq]; omega, trivial⟩ rfl 1 (.int .u64 (x2 % 18446744073709551616))
        have HE3 := Lib.hid E3
        clear E3
        go_roundw
        case rel => exact ⟨2, m2, by omega, by go_num, .inr (.inr (.inl ⟨rfl, rfl⟩)), by rw [HST.out, if_pos (by omega)]; exact HE3.out⟩
        case measure => simp [intOf]
      · have hcm : ¬ 0 < cmpZ x2 m1 := cmpZ_npos2 hc
        have e0 : wr.cell? ⟨b, 4, none⟩ = some (.int .i64 (x2 / 18446744073709551616)) := HE.out.blks.2.2.1.at 4
        have e1 : wr.cell? ⟨b, 5, none⟩ = some (.int .u64 (x2 % 18446744073709551616)) := HE.out.blks.2.2.1.at 5
        have e2 : wr.cell? ⟨w.heap.size, 0, none⟩ = some (.int .i64 (m1 / 18446744073709551616)) := HE.out.blks.1.at 0
        have e3 : wr.cell? ⟨w.heap.size, 1, none⟩ = some (.int .u64 (m1 % 18446744073709551616)) := HE.out.blks.1.at 1
        have hl : w.heap.size < wr.heap.size := HE.out.blks.1.lt
        go_wp2_with (go_at_call 113; refine (CC.out _ x2 m1).mono ?_; rintro e w2 ⟨rfl, hb2⟩; have E2 := (HE.out.alloc #[.int .i64 (x2 / 18446744073709551616), .int .u64 (x2 % 18446744073709551616)] 114).below hb2; have e4 : w2.cell? ⟨wr.heap.size, 0, none⟩ = some (.int .i64 (x2 / 18446744073709551616)) := E2.blks.1.at 0; have e5 : w2.cell? ⟨wr.heap.size, 1, none⟩ = some (.int .u64 (x2 % 18446744073709551616)) := E2.blks.1.at 1; have e6 : w2.cell? ⟨w.heap.size, 0, none⟩ = some (.int .i64 (m1 / 18446744073709551616)) := E2.blks.2.1.at 0; have e7 : w2.cell? ⟨w.heap.size, 1, none⟩ = some (.int .u64 (m1 % 18446744073709551616)) := E2.blks.2.1.at 1; have g6 := E2.blks.2.1.fr 0; have g7 := E2.blks.2.1.fr 1; have HE2 := Lib.hid E2.drop; clear E2 hb2)
        go_roundw
        case rel => exact ⟨2, m2, by omega, by go_num, .inr (.inr (.inl ⟨rfl, rfl⟩)), by rw [HST.out, if_neg (by omega)]; exact HE2.out⟩
        case measure => simp [intOf]
    · rw [hm] at HE
      clear hm m
      have HST : Hid (m3 = if m2 < x3 then x3 else m2) := Lib.hid HM3.out
      by_cases hc : m2 < x3
      · have hcm : 0 < cmpZ x3 m2 := cmp_pos' hc
        have e0 : wr.cell? ⟨b, 6, none⟩ = some (.int .i64 (x3 / 18446744073709551616)) := HE.out.blks.2.2.1.at 6
        have e1 : wr.cell? ⟨b, 7, none⟩ = some (.int .u64 (x3 % 18446744073709551616)) := HE.out.blks.2.2.1.at 7
        have e2 : wr.cell? ⟨w.heap.size, 0, none⟩ = some (.int .i64 (m2 / 18446744073709551616)) := HE.out.blks.1.at 0
        have e3 : wr.cell? ⟨w.heap.size, 1, none⟩ = some (.int .u64 (m2 % 18446744073709551616)) := HE.out.blks.1.at 1
        have hl : w.heap.size < wr.heap.size := HE.out.blks.1.lt
        go_wp2_with (go_at_call 113; refine (CC.out _ x3 m2).mono ?_; rintro e w2 ⟨rfl, hb2⟩; have E2 := (HE.out.alloc #[.int .i64 (x3 / 18446744073709551616), .int .u64 (x3 % 18446744073709551616)] 114).below hb2; have e4 : w2.cell? ⟨wr.heap.size, 0, none⟩ = some (.int .i64 (x3 / 18446744073709551616)) := E2.blks.1.at 0; have e5 : w2.cell? ⟨wr.heap.size, 1, none⟩ = some (.int .u64 (x3 % 18446744073709551616)) := E2.blks.1.at 1; have e6 : w2.cell? ⟨w.heap.size, 0, none⟩ = some (.int .i64 (m2 / 18446744073709551616)) := E2.blks.2.1.at 0; have e7 : w2.cell? ⟨w.heap.size, 1, none⟩ = some (.int .u64 (m2 % 18446744073709551616)) := E2.blks.2.1.at 1; have g6 := E2.blks.2.1.fr 0; have g7 := E2.blks.2.1.fr 1; have HE2 := Lib.hid E2.drop; clear E2 hb2)
        have E3 := (HE2.out.setY (Nat.le_refl _) ⟨by simp, by simp only [ne_eq]; omega, trivial⟩ rfl 0 (.int .i64 (x3 / 18446744073709551616))).setY (Nat.le_refl _) ⟨by simp, by simp only [ne_eq]; omega, trivial⟩ rfl 1 (.int .u64 (x3 % 18446744073709551616))
        have HE3 := Lib.hid E3
        clear E3
        go_roundw
        case rel => exact ⟨3, m3, by omega, by go_num, .inr (.inr (.inr ⟨rfl, rfl⟩)), by rw [HST.out, if_pos (by omega)]; exact HE3.out⟩
        case measure => simp [intOf]
      · have hcm : ¬ 0 < cmpZ x3 m2 := cmpZ_npos2 hc
        have e0 : wr.cell? ⟨b, 6, none⟩ = some (.int .i64 (x3 / 18446744073709551616)) := HE.out.blks.2.2.1.at 6
        have e1 : wr.cell? ⟨b, 7, none⟩ = some (.int .u64 (x3 % 18446744073709551616)) := HE.out.blks.2.2.1.at 7
        have e2 : wr.cell? ⟨w.heap.size, 0, none⟩ = some (.int .i64 (m2 / 18446744073709551616)) := HE.out.blks.1.at 0
        have e3 : wr.cell? ⟨w.heap.size, 1, none⟩ = some (.int .u64 (m2 % 18446744073709551616)) := HE.out.blks.1.at 1
        have hl : w.heap.size < wr.heap.size := HE.out.blks.1.lt
        go_wp2_with (go_at_call 113; refine (CC.out _ x3 m2).mono ?_; rintro e w2 ⟨rfl, hb2⟩; have E2 := (HE.out.alloc #[.int .i64 (x3 / 18446744073709551616), .int .u64 (x3 % 18446744073709551616)] 114).below hb2; have e4 : w2.cell? ⟨wr.heap.size, 0, none⟩ = some (.int .i64 (x3 / 18446744073709551616)) := E2.blks.1.at 0; have e5 : w2.cell? ⟨wr.heap.size, 1, none⟩ = some (.int .u64 (x3 % 18446744073709551616)) := E2.blks.1.at 1; have e6 : w2.cell? ⟨w.heap.size, 0, none⟩ = some (.int .i64 (m2 / 18446744073709551616)) := E2.blks.2.1.at 0; have e7 : w2.cell? ⟨w.heap.size, 1, none⟩ = some (.int .u64 (m2 % 18446744073709551616)) := E2.blks.2.1.at 1; have g6 := E2.blks.2.1.fr 0; have g7 := E2.blks.2.1.fr 1; have HE2 := Lib.hid E2.drop; clear E2 hb2)
        go_roundw
        case rel => exact ⟨3, m3, by omega, by go_num, .inr (.inr (.inr ⟨rfl, rfl⟩)), by rw [HST.out, if_neg (by omega)]; exact HE2.out⟩
        case measure => simp [intOf]
    · rw [hm] at HE
      clear hm m
      have e2 : wr.cell? ⟨w.heap.size, 0, none⟩ = some (.int .i64 (m3 / 18446744073709551616)) := HE.out.blks.1.at 0
      have e3 : wr.cell? ⟨w.heap.size, 1, none⟩ = some (.int .u64 (m3 % 18446744073709551616)) := HE.out.blks.1.at 1
      have f0 : wr.cell? ⟨w.heap.size + 1, 0, none⟩ = some (.int .i64 0) := HE.out.blks.2.1.at 0
      have f1 : wr.cell? ⟨w.heap.size + 1, 1, none⟩ = some (.int .u64 0) := HE.out.blks.2.1.at 1
      have g0 := HE.out.blks.2.1.fr 0
      have g1 := HE.out.blks.2.1.fr 1
      go_wp2
      have E3 := (HE.out.swap.setY (by omega) ⟨by simp, by simp only [ne_eq]; omega, trivial⟩ rfl 0 (.int .i64 (m3 / 18446744073709551616))).setY (by omega) ⟨by simp, by simp only [ne_eq]; omega, trivial⟩ rfl 1 (.int .u64 (m3 % 18446744073709551616))
      have r0 : _ = some (Value.int .i64 (m3 / 18446744073709551616)) := E3.blks.1.at 0
      have r1 : _ = some (Value.int .u64 (m3 % 18446744073709551616)) := E3.blks.1.at 1
      refine bodyPost_ret (v := .agg #[.int .i64 (m3 / 18446744073709551616), .int .u64 (m3 % 18446744073709551616)]) (by simp [results, Tryz.results66, go_sem, r0, r1]) rfl ?_
      exact ⟨rfl, E3.bel⟩

end Go.Proofs.YtilaheplclaokaaGreatDoor
namespace Go.Proofs.YtilaheplclaokaaGreatDoor
open Go.RowKit Go.Shelf
attribute [local go_sem] Oper.semAt_some

theorem ivB_spec {lo hi : Int} (h : ivB lo hi = true) : lo ≤ hi ∧ -2305843009213693952 ≤ lo ∧ hi ≤ 2305843009213693952 := of_decide_eq_true h
theorem ivE_ok {a0 a1 c0 c1 : Int} (ha : ivB a0 a1 = true) (hc : ivB c0 c1 = true) : ivE (ivB a0 a1 && ivB c0 c1) = 0 := by rw [ha, hc]; rfl
/-- What an operation of intervals returns: the interval that 'made' makes, and its error. -/
def ivV (lo hi : Int) : Value := .tuple #[.agg #[.int .i64 (madL lo hi), .int .i64 (madH lo hi)], .int .i64 (madE lo hi)]


set_option maxRecDepth 100000 in
set_option maxHeartbeats 1000000 in
theorem ivSub_calls (w : World) (a0 a1 c0 c1 : Int) (ha : ivB a0 a1 = true) (hc : ivB c0 c1 = true) :
    Calls Tryz.prog 110 #[.agg #[.int .i64 a0, .int .i64 a1], .agg #[.int .i64 c0, .int .i64 c1]] w (OkPost (ivV (a0 - c1) (a1 - c0)) w) := by
  have E := (((Env.start w).alloc #[.int .i64 a0, .int .i64 a1] 32).alloc #[.int .i64 c0, .int .i64 c1] 32).alloc #[.int .i64 0, .int .i64 0] 32
  simp only [World.size_alloc] at E
  have E' := E.alloc #[.int .i64 a0, .int .i64 a1, .int .i64 c0, .int .i64 c1] 32
  simp only [World.size_alloc] at E'
  have HE := Lib.hid E'
  clear E E'
  have hok := ivE_ok ha hc
  have HA := Lib.hid (ivB_spec ha)
  have HC := Lib.hid (ivB_spec hc)
  clear ha hc
  have hw1 : IntKind.i64.wrap (a0 - c1) = a0 - c1 := by have := HA.out; have := HC.out; exact wrap_i64 _ (by omega) (by omega)
  have hw2 : IntKind.i64.wrap (a1 - c0) = a1 - c0 := by have := HA.out; have := HC.out; exact wrap_i64 _ (by omega) (by omega)
  have CM := Lib.hid fun w' => imade_calls w' (a0 - c1) (a1 - c0)
  have HV : Hid (ivV (a0 - c1) (a1 - c0) = .tuple #[.agg #[.int .i64 (madL (a0 - c1) (a1 - c0)), .int .i64 (madH (a0 - c1) (a1 - c0))], .int .i64 (madE (a0 - c1) (a1 - c0))]) := Lib.hid rfl
  generalize madL (a0 - c1) (a1 - c0) = lo at *
  generalize madH (a0 - c1) (a1 - c0) = hi at *
  generalize madE (a0 - c1) (a1 - c0) = er at *
  rw [HV.out]
  clear HV
  go_enter Tryz.func110, Tryz.ntmps110
  go_wp2_with fail
  go_at_call 60
  refine (check2_calls _ (w.heap.size + 1 + 1 + 1) a0 a1 c0 c1 _ HE.out.blks.1).mono ?_
  rw [hok]
  rintro e W1 ⟨rfl, hb1⟩
  replace HE := Lib.hid (HE.out.drop.below hb1)
  clear hb1
  have e0 : W1.cell? ⟨w.heap.size, 0, none⟩ = some (.int .i64 a0) := HE.out.blks.2.2.1.at 0
  have e1 : W1.cell? ⟨w.heap.size, 1, none⟩ = some (.int .i64 a1) := HE.out.blks.2.2.1.at 1
  have e2 : W1.cell? ⟨w.heap.size + 1, 0, none⟩ = some (.int .i64 c0) := HE.out.blks.2.1.at 0
  have e3 : W1.cell? ⟨w.heap.size + 1, 1, none⟩ = some (.int .i64 c1) := HE.out.blks.2.1.at 1
  go_wp2_with (go_at_call 63; refine (CM.out _).mono ?_; rintro e W2 ⟨rfl, hb2⟩; have E2 := HE.out.below hb2; have f0 : W2.cell? ⟨w.heap.size + 1 + 1, 0, none⟩ = some (.int .i64 0) := E2.blks.1.at 0; have f1 : W2.cell? ⟨w.heap.size + 1 + 1, 1, none⟩ = some (.int .i64 0) := E2.blks.1.at 1; have g0 := E2.blks.1.fr 0; have g1 := E2.blks.1.fr 1; have HE2 := Lib.hid E2; clear E2 hb2)
  have E := (HE2.out.setY (by omega) (by simp [Free] <;> omega) rfl 0 (.int .i64 lo)).setY (by omega) (by simp [Free] <;> omega) rfl 1 (.int .i64 hi)
  have r0 : _ = some (Value.int .i64 lo) := E.blks.1.at 0
  have r1 : _ = some (Value.int .i64 hi) := E.blks.1.at 1
  refine bodyPost_ret (v := .tuple #[.agg #[.int .i64 lo, .int .i64 hi], .int .i64 er]) (by simp [results, Tryz.results110, go_sem, r0, r1]) rfl ?_
  exact ⟨rfl, E.bel⟩

/-- A product's ends. -/
def mulLo (a0 a1 c0 c1 : Int) : Int := clamp (lo2 (lo2 (lo2 (a0 * c0) (a0 * c1)) (a1 * c0)) (a1 * c1) / 1099511627776)
def mulHi (a0 a1 c0 c1 : Int) : Int := clamp (-(-(hi2 (hi2 (hi2 (a0 * c0) (a0 * c1)) (a1 * c0)) (a1 * c1)) / 1099511627776))
theorem prod_range {a c : Int} (ha : -2305843009213693952 ≤ a ∧ a ≤ 2305843009213693952) (hc : -2305843009213693952 ≤ c ∧ c ≤ 2305843009213693952) : -85070591730234615865843651857942052864 ≤ a * c ∧ a * c ≤ 85070591730234615865843651857942052864 := by
  have h : (a * c).natAbs ≤ 2305843009213693952 * 2305843009213693952 := by
    rw [Int.natAbs_mul]
    exact Nat.mul_le_mul (by omega) (by omega)
  omega
theorem lo2_range {x y b : Int} (hx : -b ≤ x ∧ x ≤ b) (hy : -b ≤ y ∧ y ≤ b) : -b ≤ lo2 x y ∧ lo2 x y ≤ b := by unfold lo2; split <;> omega
theorem hi2_range {x y b : Int} (hx : -b ≤ x ∧ x ≤ b) (hy : -b ≤ y ∧ y ≤ b) : -b ≤ hi2 x y ∧ hi2 x y ≤ b := by unfold hi2; split <;> omega


set_option maxRecDepth 100000 in
set_option maxHeartbeats 2000000 in
theorem ivMul_calls (w : World) (a0 a1 c0 c1 : Int) (ha : ivB a0 a1 = true) (hc : ivB c0 c1 = true) :
    Calls Tryz.prog 107 #[.agg #[.int .i64 a0, .int .i64 a1], .agg #[.int .i64 c0, .int .i64 c1]] w (OkPost (ivV (mulLo a0 a1 c0 c1) (mulHi a0 a1 c0 c1)) w) := by
  have E := (((Env.start w).alloc #[.int .i64 a0, .int .i64 a1] 32).alloc #[.int .i64 c0, .int .i64 c1] 32).alloc #[.int .i64 0, .int .i64 0] 32
  simp only [World.size_alloc] at E
  have E' := E.alloc #[.int .i64 a0, .int .i64 a1, .int .i64 c0, .int .i64 c1] 32
  simp only [World.size_alloc] at E'
  have HE := Lib.hid E'
  clear E E'
  have hok := ivE_ok ha hc
  have HA := Lib.hid (ivB_spec ha)
  have HC := Lib.hid (ivB_spec hc)
  clear ha hc
  have hA := HA.out
  have hC := HC.out
  have R0 := prod_range (a := a0) (c := c0) (by omega) (by omega)
  have R1 := prod_range (a := a0) (c := c1) (by omega) (by omega)
  have R2 := prod_range (a := a1) (c := c0) (by omega) (by omega)
  have R3 := prod_range (a := a1) (c := c1) (by omega) (by omega)
  have RL := lo2_range (lo2_range (lo2_range R0 R1) R2) R3
  have RH := hi2_range (hi2_range (hi2_range R0 R1) R2) R3
  have CM := Lib.hid fun w' => imade_calls w' (mulLo a0 a1 c0 c1) (mulHi a0 a1 c0 c1)
  have CD : Hid (∀ w' : World, Calls Tryz.prog 65 #[twin (lo2 (lo2 (lo2 (a0 * c0) (a0 * c1)) (a1 * c0)) (a1 * c1)), .int .u64 1099511627776] w' (OkPost (.int .i64 (mulLo a0 a1 c0 c1)) w')) := Lib.hid fun w' => down_calls w' _ RL.1 RL.2
  have CU : Hid (∀ w' : World, Calls Tryz.prog 67 #[twin (hi2 (hi2 (hi2 (a0 * c0) (a0 * c1)) (a1 * c0)) (a1 * c1)), .int .u64 1099511627776] w' (OkPost (.int .i64 (mulHi a0 a1 c0 c1)) w')) := Lib.hid fun w' => up_calls w' _ RH.1 RH.2
  have CL := Lib.hid fun w' b t h => least_calls w' b (a0 * c0) (a0 * c1) (a1 * c0) (a1 * c1) t h
  have CG := Lib.hid fun w' b t h => greatest_calls w' b (a0 * c0) (a0 * c1) (a1 * c0) (a1 * c1) t h
  generalize twin (lo2 (lo2 (lo2 (a0 * c0) (a0 * c1)) (a1 * c0)) (a1 * c1)) = TL at *
  generalize twin (hi2 (hi2 (hi2 (a0 * c0) (a0 * c1)) (a1 * c0)) (a1 * c1)) = TH at *
  generalize mulLo a0 a1 c0 c1 = ml at *
  generalize mulHi a0 a1 c0 c1 = mh at *
  have HV : Hid (ivV ml mh = .tuple #[.agg #[.int .i64 (madL ml mh), .int .i64 (madH ml mh)], .int .i64 (madE ml mh)]) := Lib.hid rfl
  generalize madL ml mh = lo at *
  generalize madH ml mh = hi at *
  generalize madE ml mh = er at *
  rw [HV.out]
  clear HV RL RH R0 R1 R2 R3
  have hix0 : ∀ (x y : Value) (w : World), (Instr.index 62 (.agg #[x, y]) (.int .i64 0)).run Tryz.prog w = .ok x w := fun _ _ _ => by kernel_rfl
  have hix1 : ∀ (x y : Value) (w : World), (Instr.index 62 (.agg #[x, y]) (.int .i64 1)).run Tryz.prog w = .ok y w := fun _ _ _ => by kernel_rfl
  have hk0 : IntKind.i64.wrap 0 = 0 := by decide
  have hk1 : IntKind.i64.wrap 1 = 1 := by decide
  have hk2 : IntKind.i64.wrap 2 = 2 := by decide
  have hk3 : IntKind.i64.wrap 3 = 3 := by decide
  clear hA hC
  go_enter Tryz.func107, Tryz.ntmps107
  go_wp2_with fail
  go_at_call 60
  refine (check2_calls _ (w.heap.size + 1 + 1 + 1) a0 a1 c0 c1 _ HE.out.blks.1).mono ?_
  rw [hok]
  rintro e W1 ⟨rfl, hb1⟩
  replace HE := Lib.hid (HE.out.drop.below hb1)
  clear hb1 hok
  have e0 : W1.cell? ⟨w.heap.size, 0, none⟩ = some (.int .i64 a0) := HE.out.blks.2.2.1.at 0
  have e1 : W1.cell? ⟨w.heap.size, 1, none⟩ = some (.int .i64 a1) := HE.out.blks.2.2.1.at 1
  have hl : w.heap.size < W1.heap.size := HE.out.blks.2.2.1.lt
  go_wp2_with fail
  have hb7 : w.heap.size + 1 + 1 < W1.heap.size := HE.out.blks.1.lt
  have E := HE.out.alloc #[.int .i64 0, .int .u64 0, .int .i64 0, .int .u64 0, .int .i64 0, .int .u64 0, .int .i64 0, .int .u64 0] 236
  clear HE e0 e1 hl
  generalize W1.alloc (.cells #[.int .i64 0, .int .u64 0, .int .i64 0, .int .u64 0, .int .i64 0, .int .u64 0, .int .i64 0, .int .u64 0] 236) = V at *
  generalize W1.heap.size = b7 at *
  have HE : Hid (Env w [(b7, #[.int .i64 (0 / 18446744073709551616), .int .u64 (0 % 18446744073709551616), .int .i64 (0 / 18446744073709551616), .int .u64 (0 % 18446744073709551616), .int .i64 (0 / 18446744073709551616), .int .u64 (0 % 18446744073709551616), .int .i64 (0 / 18446744073709551616), .int .u64 (0 % 18446744073709551616)], 236), (w.heap.size + 1 + 1, #[.int .i64 0, .int .i64 0], 32), (w.heap.size + 1, #[.int .i64 c0, .int .i64 c1], 32)] [] V) := Lib.hid (by
    obtain ⟨⟨g1, g2, g3, g4, _⟩, hn, hb⟩ := E
    exact ⟨⟨g1, g2, g3, trivial⟩, hn, hb⟩)
  clear E
  go_loopw [23] (fun i wr => ∃ (k : Nat) (y0 y1 y2 y3 : Int), k ≤ 2 ∧ i = .int .i64 k ∧ ((k = 0 ∧ y0 = 0 ∧ y1 = 0 ∧ y2 = 0 ∧ y3 = 0) ∨ (k = 1 ∧ y0 = a0 * c0 ∧ y1 = a0 * c1 ∧ y2 = 0 ∧ y3 = 0) ∨ (k = 2 ∧ y0 = a0 * c0 ∧ y1 = a0 * c1 ∧ y2 = a1 * c0 ∧ y3 = a1 * c1)) ∧ Env w [(b7, #[.int .i64 (y0 / 18446744073709551616), .int .u64 (y0 % 18446744073709551616), .int .i64 (y1 / 18446744073709551616), .int .u64 (y1 % 18446744073709551616), .int .i64 (y2 / 18446744073709551616), .int .u64 (y2 % 18446744073709551616), .int .i64 (y3 / 18446744073709551616), .int .u64 (y3 % 18446744073709551616)], 236), (w.heap.size + 1 + 1, #[.int .i64 0, .int .i64 0], 32), (w.heap.size + 1, #[.int .i64 c0, .int .i64 c1], 32)] [] wr) (fun i _ => 2 - (intOf i).toNat)
  case atStart => exact ⟨0, 0, 0, 0, 0, by omega, rfl, .inl ⟨rfl, rfl, rfl, rfl, rfl⟩, HE.out⟩
  case round =>
    clear HE
    obtain ⟨k, y0, y1, y2, y3, hk, rfl, hy, E⟩ := hrel
    have HE := Lib.hid E
    have hA := HA.out
    have hC := HC.out
    clear E
    rcases hy with ⟨rfl, h0, h1, h2, h3⟩ | ⟨rfl, h0, h1, h2, h3⟩ | ⟨rfl, h0, h1, h2, h3⟩
    · rw [h0, h1, h2, h3] at HE
      clear h0 h1 h2 h3
      go_wp2_with fail
      refine region_start (S := fun W' => Env w [(w.heap.size + 1, #[.int .i64 c0, .int .i64 c1], 32)] [] W') (by kernel_rfl) ?_
      intro W hW
      have E := HE.out.drew
      rw [← hW] at E
      clear hW HE
      have hS := E.drop.drop
      refine wpAnyH_take (i := 0) (v := .int .i64 0) rfl (by kernel_rfl) (by kernel_rfl) (by kernel_rfl) (fun _ _ _ h => h) (.inl ⟨rfl, fun w0 hw0 => ?a0⟩) hS ?_
      case a0 =>
        have e0 : w0.cell? ⟨w.heap.size + 1, 0, none⟩ = some (.int .i64 c0) := hw0.blks.1.at 0; have e1 : w0.cell? ⟨w.heap.size + 1, 1, none⟩ = some (.int .i64 c1) := hw0.blks.1.at 1
        go_simp
      refine wpAnyH_take (i := 1) (v := .int .i64 0) rfl (by kernel_rfl) (by kernel_rfl) (by kernel_rfl) (fun _ _ _ h => h) (.inl ⟨rfl, fun w0 hw0 => ?a1⟩) hS ?_
      case a1 =>
        have e0 : w0.cell? ⟨w.heap.size + 1, 0, none⟩ = some (.int .i64 c0) := hw0.blks.1.at 0; have e1 : w0.cell? ⟨w.heap.size + 1, 1, none⟩ = some (.int .i64 c1) := hw0.blks.1.at 1
        go_simp
      refine wpAnyH_take (i := 2) (v := .int .i64 0) rfl (by kernel_rfl) (by kernel_rfl) (by kernel_rfl) (fun _ _ _ h => h) (.inl ⟨rfl, fun w0 hw0 => ?a2⟩) hS ?_
      case a2 =>
        have e0 : w0.cell? ⟨w.heap.size + 1, 0, none⟩ = some (.int .i64 c0) := hw0.blks.1.at 0; have e1 : w0.cell? ⟨w.heap.size + 1, 1, none⟩ = some (.int .i64 c1) := hw0.blks.1.at 1
        go_simp
      refine wpAnyH_take (i := 3) (v := .int .i64 0) rfl (by kernel_rfl) (by kernel_rfl) (by kernel_rfl) (fun _ _ _ h => h) (.inl ⟨rfl, fun w0 hw0 => ?a3⟩) hS ?_
      case a3 =>
        have e0 : w0.cell? ⟨w.heap.size + 1, 0, none⟩ = some (.int .i64 c0) := hw0.blks.1.at 0; have e1 : w0.cell? ⟨w.heap.size + 1, 1, none⟩ = some (.int .i64 c1) := hw0.blks.1.at 1
        go_simp
      refine wpAnyH_take (i := 4) (v := .int .i64 1) rfl (by kernel_rfl) (by kernel_rfl) (by kernel_rfl) (fun _ _ _ h => h) (.inl ⟨rfl, fun w0 hw0 => ?a4⟩) hS ?_
      case a4 =>
        have e0 : w0.cell? ⟨w.heap.size + 1, 0, none⟩ = some (.int .i64 c0) := hw0.blks.1.at 0; have e1 : w0.cell? ⟨w.heap.size + 1, 1, none⟩ = some (.int .i64 c1) := hw0.blks.1.at 1
        go_simp
      refine wpAnyH_take (i := 5) (v := .int .i64 a0) rfl (by kernel_rfl) (by kernel_rfl) (by kernel_rfl) (fun _ _ _ h => h) (.inl ⟨rfl, fun w0 hw0 => ?a5⟩) hS ?_
      case a5 =>
        have e0 : w0.cell? ⟨w.heap.size + 1, 0, none⟩ = some (.int .i64 c0) := hw0.blks.1.at 0; have e1 : w0.cell? ⟨w.heap.size + 1, 1, none⟩ = some (.int .i64 c1) := hw0.blks.1.at 1
        go_simp
      refine wpAnyH_take (i := 6) (v := .pointer (some ⟨w.heap.size + 1, 0, none⟩)) rfl (by kernel_rfl) (by kernel_rfl) (by kernel_rfl) (fun _ _ _ h => h) (.inl ⟨rfl, fun w0 hw0 => ?a6⟩) hS ?_
      case a6 =>
        have e0 : w0.cell? ⟨w.heap.size + 1, 0, none⟩ = some (.int .i64 c0) := hw0.blks.1.at 0; have e1 : w0.cell? ⟨w.heap.size + 1, 1, none⟩ = some (.int .i64 c1) := hw0.blks.1.at 1
        go_simp
      refine wpAnyH_take (i := 7) (v := .int .i64 c0) rfl (by kernel_rfl) (by kernel_rfl) (by kernel_rfl) (fun _ _ _ h => h) (.inl ⟨rfl, fun w0 hw0 => ?a7⟩) hS ?_
      case a7 =>
        have e0 : w0.cell? ⟨w.heap.size + 1, 0, none⟩ = some (.int .i64 c0) := hw0.blks.1.at 0; have e1 : w0.cell? ⟨w.heap.size + 1, 1, none⟩ = some (.int .i64 c1) := hw0.blks.1.at 1
        go_simp
      refine wpAnyH_take (i := 9) (v := .int .i64 a0) rfl (by kernel_rfl) (by kernel_rfl) (by kernel_rfl) (fun _ _ _ h => h) (.inl ⟨rfl, fun w0 hw0 => ?a9⟩) hS ?_
      case a9 =>
        have e0 : w0.cell? ⟨w.heap.size + 1, 0, none⟩ = some (.int .i64 c0) := hw0.blks.1.at 0; have e1 : w0.cell? ⟨w.heap.size + 1, 1, none⟩ = some (.int .i64 c1) := hw0.blks.1.at 1
        go_simp
      refine wpAnyH_take (i := 10) (v := .pointer (some ⟨w.heap.size + 1, 1, none⟩)) rfl (by kernel_rfl) (by kernel_rfl) (by kernel_rfl) (fun _ _ _ h => h) (.inl ⟨rfl, fun w0 hw0 => ?a10⟩) hS ?_
      case a10 =>
        have e0 : w0.cell? ⟨w.heap.size + 1, 0, none⟩ = some (.int .i64 c0) := hw0.blks.1.at 0; have e1 : w0.cell? ⟨w.heap.size + 1, 1, none⟩ = some (.int .i64 c1) := hw0.blks.1.at 1
        go_simp
      refine wpAnyH_take (i := 11) (v := .int .i64 c1) rfl (by kernel_rfl) (by kernel_rfl) (by kernel_rfl) (fun _ _ _ h => h) (.inl ⟨rfl, fun w0 hw0 => ?a11⟩) hS ?_
      case a11 =>
        have e0 : w0.cell? ⟨w.heap.size + 1, 0, none⟩ = some (.int .i64 c0) := hw0.blks.1.at 0; have e1 : w0.cell? ⟨w.heap.size + 1, 1, none⟩ = some (.int .i64 c1) := hw0.blks.1.at 1
        go_simp
      clear hS
      refine wpAnyH_all (rs := [8]) (by kernel_rfl) (by simp) ?_
      intro i0 hi0
      obtain rfl : i0 = 8 := by simpa using hi0
      refine wpOp_plain rfl rfl fun K' hK' => ?_
      go_simp
      refine (ttimes_calls _ a0 c0 (by omega) (by omega) (by omega) (by omega)).mono ?_
      rintro e W2 ⟨rfl, hb2⟩
      replace E := E.below hb2
      clear hb2
      refine hK' _ _ ⟨E.drop.drop, ?_⟩
      clear hK' K'
      refine wpAnyH_all (rs := [12]) (by kernel_rfl) (by simp) ?_
      intro i0 hi0
      obtain rfl : i0 = 12 := by simpa using hi0
      refine wpOp_plain rfl rfl fun K' hK' => ?_
      go_simp
      refine (ttimes_calls _ a0 c1 (by omega) (by omega) (by omega) (by omega)).mono ?_
      rintro e W3 ⟨rfl, hb3⟩
      replace E := E.below hb3
      clear hb3
      refine hK' _ _ ⟨E.drop.drop, ?_⟩
      clear hK' K'
      have f0 : W3.cell? ⟨b7, 0, none⟩ = some (.int .i64 (0 / 18446744073709551616)) := E.blks.1.at 0
      have f1 : W3.cell? ⟨b7, 1, none⟩ = some (.int .u64 (0 % 18446744073709551616)) := E.blks.1.at 1
      have g0 := E.blks.1.fr 0
      have g1 := E.blks.1.fr 1
      unfold twin
      have hS := E.drop.drop
      refine wpAnyH_take (i := 13) (v := .pointer (some ⟨b7, 0, none⟩)) rfl (by kernel_rfl) (by kernel_rfl) (by kernel_rfl) (fun _ _ _ h => h) (.inl ⟨rfl, fun w0 hw0 => ?a13⟩) hS ?_
      case a13 =>
        have e0 : w0.cell? ⟨w.heap.size + 1, 0, none⟩ = some (.int .i64 c0) := hw0.blks.1.at 0; have e1 : w0.cell? ⟨w.heap.size + 1, 1, none⟩ = some (.int .i64 c1) := hw0.blks.1.at 1
        go_simp
      clear hS
      refine wpAnyH_all (rs := [14]) (by kernel_rfl) (by simp) ?_
      intro i0 hi0
      obtain rfl : i0 = 14 := by simpa using hi0
      refine wpOp_plain rfl rfl fun K' hK' => ?_
      go_simp
      replace E := (E.setY (by omega) (by simp [Free] <;> omega) rfl 0 (.int .i64 (a0 * c0 / 18446744073709551616))).setY (by omega) (by simp [Free] <;> omega) rfl 1 (.int .u64 (a0 * c0 % 18446744073709551616))
      clear f0 f1 g0 g1
      refine hK' _ _ ⟨E.drop.drop, ?_⟩
      clear hK' K'
      have f0 : ((W3.setCell ⟨b7, 0, none⟩ (.int .i64 (a0 * c0 / 18446744073709551616))).setCell ⟨b7, 1, none⟩ (.int .u64 (a0 * c0 % 18446744073709551616))).cell? ⟨b7, 2, none⟩ = some (.int .i64 (0 / 18446744073709551616)) := E.blks.1.at 2
      have f1 : ((W3.setCell ⟨b7, 0, none⟩ (.int .i64 (a0 * c0 / 18446744073709551616))).setCell ⟨b7, 1, none⟩ (.int .u64 (a0 * c0 % 18446744073709551616))).cell? ⟨b7, 3, none⟩ = some (.int .u64 (0 % 18446744073709551616)) := E.blks.1.at 3
      have g0 := E.blks.1.fr 2
      have g1 := E.blks.1.fr 3
      generalize ((W3.setCell ⟨b7, 0, none⟩ (.int .i64 (a0 * c0 / 18446744073709551616))).setCell ⟨b7, 1, none⟩ (.int .u64 (a0 * c0 % 18446744073709551616))) = W4 at *
      have hS := E.drop.drop
      refine wpAnyH_take (i := 15) (v := .pointer (some ⟨b7, 2, none⟩)) rfl (by kernel_rfl) (by kernel_rfl) (by kernel_rfl) (fun _ _ _ h => h) (.inl ⟨rfl, fun w0 hw0 => ?a15⟩) hS ?_
      case a15 =>
        have e0 : w0.cell? ⟨w.heap.size + 1, 0, none⟩ = some (.int .i64 c0) := hw0.blks.1.at 0; have e1 : w0.cell? ⟨w.heap.size + 1, 1, none⟩ = some (.int .i64 c1) := hw0.blks.1.at 1
        go_simp
      clear hS
      refine wpAnyH_all (rs := [16]) (by kernel_rfl) (by simp) ?_
      intro i0 hi0
      obtain rfl : i0 = 16 := by simpa using hi0
      refine wpOp_plain rfl rfl fun K' hK' => ?_
      go_simp
      replace E := (E.setY (by omega) (by simp [Free] <;> omega) rfl 2 (.int .i64 (a0 * c1 / 18446744073709551616))).setY (by omega) (by simp [Free] <;> omega) rfl 3 (.int .u64 (a0 * c1 % 18446744073709551616))
      clear f0 f1 g0 g1
      refine hK' _ _ ⟨E.drop.drop, wpAnyH_done (by kernel_rfl) ?_ _⟩
      clear hK' K'
      have HE := Lib.hid E
      clear E
      go_wp2
      go_roundw
      case rel => exact ⟨1, a0 * c0, a0 * c1, 0, 0, by omega, by go_num, .inr (.inl ⟨rfl, rfl, rfl, rfl, rfl⟩), HE.out⟩
      case measure => simp [intOf]
    · rw [h0, h1, h2, h3] at HE
      clear h0 h1 h2 h3
      go_wp2_with fail
      refine region_start (S := fun W' => Env w [(w.heap.size + 1, #[.int .i64 c0, .int .i64 c1], 32)] [] W') (by kernel_rfl) ?_
      intro W hW
      have E := HE.out.drew
      rw [← hW] at E
      clear hW HE
      have hS := E.drop.drop
      refine wpAnyH_take (i := 0) (v := .int .i64 1) rfl (by kernel_rfl) (by kernel_rfl) (by kernel_rfl) (fun _ _ _ h => h) (.inl ⟨rfl, fun w0 hw0 => ?a0⟩) hS ?_
      case a0 =>
        have e0 : w0.cell? ⟨w.heap.size + 1, 0, none⟩ = some (.int .i64 c0) := hw0.blks.1.at 0; have e1 : w0.cell? ⟨w.heap.size + 1, 1, none⟩ = some (.int .i64 c1) := hw0.blks.1.at 1
        go_simp
      refine wpAnyH_take (i := 1) (v := .int .i64 2) rfl (by kernel_rfl) (by kernel_rfl) (by kernel_rfl) (fun _ _ _ h => h) (.inl ⟨rfl, fun w0 hw0 => ?a1⟩) hS ?_
      case a1 =>
        have e0 : w0.cell? ⟨w.heap.size + 1, 0, none⟩ = some (.int .i64 c0) := hw0.blks.1.at 0; have e1 : w0.cell? ⟨w.heap.size + 1, 1, none⟩ = some (.int .i64 c1) := hw0.blks.1.at 1
        go_simp
      refine wpAnyH_take (i := 2) (v := .int .i64 1) rfl (by kernel_rfl) (by kernel_rfl) (by kernel_rfl) (fun _ _ _ h => h) (.inl ⟨rfl, fun w0 hw0 => ?a2⟩) hS ?_
      case a2 =>
        have e0 : w0.cell? ⟨w.heap.size + 1, 0, none⟩ = some (.int .i64 c0) := hw0.blks.1.at 0; have e1 : w0.cell? ⟨w.heap.size + 1, 1, none⟩ = some (.int .i64 c1) := hw0.blks.1.at 1
        go_simp
      refine wpAnyH_take (i := 3) (v := .int .i64 2) rfl (by kernel_rfl) (by kernel_rfl) (by kernel_rfl) (fun _ _ _ h => h) (.inl ⟨rfl, fun w0 hw0 => ?a3⟩) hS ?_
      case a3 =>
        have e0 : w0.cell? ⟨w.heap.size + 1, 0, none⟩ = some (.int .i64 c0) := hw0.blks.1.at 0; have e1 : w0.cell? ⟨w.heap.size + 1, 1, none⟩ = some (.int .i64 c1) := hw0.blks.1.at 1
        go_simp
      refine wpAnyH_take (i := 4) (v := .int .i64 3) rfl (by kernel_rfl) (by kernel_rfl) (by kernel_rfl) (fun _ _ _ h => h) (.inl ⟨rfl, fun w0 hw0 => ?a4⟩) hS ?_
      case a4 =>
        have e0 : w0.cell? ⟨w.heap.size + 1, 0, none⟩ = some (.int .i64 c0) := hw0.blks.1.at 0; have e1 : w0.cell? ⟨w.heap.size + 1, 1, none⟩ = some (.int .i64 c1) := hw0.blks.1.at 1
        go_simp
      refine wpAnyH_take (i := 5) (v := .int .i64 a1) rfl (by kernel_rfl) (by kernel_rfl) (by kernel_rfl) (fun _ _ _ h => h) (.inl ⟨rfl, fun w0 hw0 => ?a5⟩) hS ?_
      case a5 =>
        have e0 : w0.cell? ⟨w.heap.size + 1, 0, none⟩ = some (.int .i64 c0) := hw0.blks.1.at 0; have e1 : w0.cell? ⟨w.heap.size + 1, 1, none⟩ = some (.int .i64 c1) := hw0.blks.1.at 1
        go_simp
      refine wpAnyH_take (i := 6) (v := .pointer (some ⟨w.heap.size + 1, 0, none⟩)) rfl (by kernel_rfl) (by kernel_rfl) (by kernel_rfl) (fun _ _ _ h => h) (.inl ⟨rfl, fun w0 hw0 => ?a6⟩) hS ?_
      case a6 =>
        have e0 : w0.cell? ⟨w.heap.size + 1, 0, none⟩ = some (.int .i64 c0) := hw0.blks.1.at 0; have e1 : w0.cell? ⟨w.heap.size + 1, 1, none⟩ = some (.int .i64 c1) := hw0.blks.1.at 1
        go_simp
      refine wpAnyH_take (i := 7) (v := .int .i64 c0) rfl (by kernel_rfl) (by kernel_rfl) (by kernel_rfl) (fun _ _ _ h => h) (.inl ⟨rfl, fun w0 hw0 => ?a7⟩) hS ?_
      case a7 =>
        have e0 : w0.cell? ⟨w.heap.size + 1, 0, none⟩ = some (.int .i64 c0) := hw0.blks.1.at 0; have e1 : w0.cell? ⟨w.heap.size + 1, 1, none⟩ = some (.int .i64 c1) := hw0.blks.1.at 1
        go_simp
      refine wpAnyH_take (i := 9) (v := .int .i64 a1) rfl (by kernel_rfl) (by kernel_rfl) (by kernel_rfl) (fun _ _ _ h => h) (.inl ⟨rfl, fun w0 hw0 => ?a9⟩) hS ?_
      case a9 =>
        have e0 : w0.cell? ⟨w.heap.size + 1, 0, none⟩ = some (.int .i64 c0) := hw0.blks.1.at 0; have e1 : w0.cell? ⟨w.heap.size + 1, 1, none⟩ = some (.int .i64 c1) := hw0.blks.1.at 1
        go_simp
      refine wpAnyH_take (i := 10) (v := .pointer (some ⟨w.heap.size + 1, 1, none⟩)) rfl (by kernel_rfl) (by kernel_rfl) (by kernel_rfl) (fun _ _ _ h => h) (.inl ⟨rfl, fun w0 hw0 => ?a10⟩) hS ?_
      case a10 =>
        have e0 : w0.cell? ⟨w.heap.size + 1, 0, none⟩ = some (.int .i64 c0) := hw0.blks.1.at 0; have e1 : w0.cell? ⟨w.heap.size + 1, 1, none⟩ = some (.int .i64 c1) := hw0.blks.1.at 1
        go_simp
      refine wpAnyH_take (i := 11) (v := .int .i64 c1) rfl (by kernel_rfl) (by kernel_rfl) (by kernel_rfl) (fun _ _ _ h => h) (.inl ⟨rfl, fun w0 hw0 => ?a11⟩) hS ?_
      case a11 =>
        have e0 : w0.cell? ⟨w.heap.size + 1, 0, none⟩ = some (.int .i64 c0) := hw0.blks.1.at 0; have e1 : w0.cell? ⟨w.heap.size + 1, 1, none⟩ = some (.int .i64 c1) := hw0.blks.1.at 1
        go_simp
      clear hS
      refine wpAnyH_all (rs := [8]) (by kernel_rfl) (by simp) ?_
      intro i0 hi0
      obtain rfl : i0 = 8 := by simpa using hi0
      refine wpOp_plain rfl rfl fun K' hK' => ?_
      go_simp
      refine (ttimes_calls _ a1 c0 (by omega) (by omega) (by omega) (by omega)).mono ?_
      rintro e W2 ⟨rfl, hb2⟩
      replace E := E.below hb2
      clear hb2
      refine hK' _ _ ⟨E.drop.drop, ?_⟩
      clear hK' K'
      refine wpAnyH_all (rs := [12]) (by kernel_rfl) (by simp) ?_
      intro i0 hi0
      obtain rfl : i0 = 12 := by simpa using hi0
      refine wpOp_plain rfl rfl fun K' hK' => ?_
      go_simp
      refine (ttimes_calls _ a1 c1 (by omega) (by omega) (by omega) (by omega)).mono ?_
      rintro e W3 ⟨rfl, hb3⟩
      replace E := E.below hb3
      clear hb3
      refine hK' _ _ ⟨E.drop.drop, ?_⟩
      clear hK' K'
      have f0 : W3.cell? ⟨b7, 4, none⟩ = some (.int .i64 (0 / 18446744073709551616)) := E.blks.1.at 4
      have f1 : W3.cell? ⟨b7, 5, none⟩ = some (.int .u64 (0 % 18446744073709551616)) := E.blks.1.at 5
      have g0 := E.blks.1.fr 4
      have g1 := E.blks.1.fr 5
      unfold twin
      have hS := E.drop.drop
      refine wpAnyH_take (i := 13) (v := .pointer (some ⟨b7, 4, none⟩)) rfl (by kernel_rfl) (by kernel_rfl) (by kernel_rfl) (fun _ _ _ h => h) (.inl ⟨rfl, fun w0 hw0 => ?a13⟩) hS ?_
      case a13 =>
        have e0 : w0.cell? ⟨w.heap.size + 1, 0, none⟩ = some (.int .i64 c0) := hw0.blks.1.at 0; have e1 : w0.cell? ⟨w.heap.size + 1, 1, none⟩ = some (.int .i64 c1) := hw0.blks.1.at 1
        go_simp
      clear hS
      refine wpAnyH_all (rs := [14]) (by kernel_rfl) (by simp) ?_
      intro i0 hi0
      obtain rfl : i0 = 14 := by simpa using hi0
      refine wpOp_plain rfl rfl fun K' hK' => ?_
      go_simp
      replace E := (E.setY (by omega) (by simp [Free] <;> omega) rfl 4 (.int .i64 (a1 * c0 / 18446744073709551616))).setY (by omega) (by simp [Free] <;> omega) rfl 5 (.int .u64 (a1 * c0 % 18446744073709551616))
      clear f0 f1 g0 g1
      refine hK' _ _ ⟨E.drop.drop, ?_⟩
      clear hK' K'
      have f0 : ((W3.setCell ⟨b7, 4, none⟩ (.int .i64 (a1 * c0 / 18446744073709551616))).setCell ⟨b7, 5, none⟩ (.int .u64 (a1 * c0 % 18446744073709551616))).cell? ⟨b7, 6, none⟩ = some (.int .i64 (0 / 18446744073709551616)) := E.blks.1.at 6
      have f1 : ((W3.setCell ⟨b7, 4, none⟩ (.int .i64 (a1 * c0 / 18446744073709551616))).setCell ⟨b7, 5, none⟩ (.int .u64 (a1 * c0 % 18446744073709551616))).cell? ⟨b7, 7, none⟩ = some (.int .u64 (0 % 18446744073709551616)) := E.blks.1.at 7
      have g0 := E.blks.1.fr 6
      have g1 := E.blks.1.fr 7
      generalize ((W3.setCell ⟨b7, 4, none⟩ (.int .i64 (a1 * c0 / 18446744073709551616))).setCell ⟨b7, 5, none⟩ (.int .u64 (a1 * c0 % 18446744073709551616))) = W4 at *
      have hS := E.drop.drop
      refine wpAnyH_take (i := 15) (v := .pointer (some ⟨b7, 6, none⟩)) rfl (by kernel_rfl) (by kernel_rfl) (by kernel_rfl) (fun _ _ _ h => h) (.inl ⟨rfl, fun w0 hw0 => ?a15⟩) hS ?_
      case a15 =>
        have e0 : w0.cell? ⟨w.heap.size + 1, 0, none⟩ = some (.int .i64 c0) := hw0.blks.1.at 0; have e1 : w0.cell? ⟨w.heap.size + 1, 1, none⟩ = some (.int .i64 c1) := hw0.blks.1.at 1
        go_simp
      clear hS
      refine wpAnyH_all (rs := [16]) (by kernel_rfl) (by simp) ?_
      intro i0 hi0
      obtain rfl : i0 = 16 := by simpa using hi0
      refine wpOp_plain rfl rfl fun K' hK' => ?_
      go_simp
      replace E := (E.setY (by omega) (by simp [Free] <;> omega) rfl 6 (.int .i64 (a1 * c1 / 18446744073709551616))).setY (by omega) (by simp [Free] <;> omega) rfl 7 (.int .u64 (a1 * c1 % 18446744073709551616))
      clear f0 f1 g0 g1
      refine hK' _ _ ⟨E.drop.drop, wpAnyH_done (by kernel_rfl) ?_ _⟩
      clear hK' K'
      have HE := Lib.hid E
      clear E
      go_wp2
      go_roundw
      case rel => exact ⟨2, a0 * c0, a0 * c1, a1 * c0, a1 * c1, by omega, by go_num, .inr (.inr ⟨rfl, rfl, rfl, rfl, rfl⟩), HE.out⟩
      case measure => simp [intOf]
    · rw [h0, h1, h2, h3] at HE
      clear h0 h1 h2 h3 hA hC
      go_wp2_with fail
      refine region_start (S := fun W' => Blk W' b7 #[.int .i64 ((a0 * c0) / 18446744073709551616), .int .u64 ((a0 * c0) % 18446744073709551616), .int .i64 ((a0 * c1) / 18446744073709551616), .int .u64 ((a0 * c1) % 18446744073709551616), .int .i64 ((a1 * c0) / 18446744073709551616), .int .u64 ((a1 * c0) % 18446744073709551616), .int .i64 ((a1 * c1) / 18446744073709551616), .int .u64 ((a1 * c1) % 18446744073709551616)] 236) (by kernel_rfl) ?_
      intro W hW
      have E := HE.out.drew
      rw [← hW] at E
      clear hW HE
      have hS := E.blks.1
      refine wpAnyH_take (i := 0) (v := .pointer (some ⟨b7, 0, none⟩)) rfl (by kernel_rfl) (by kernel_rfl) (by kernel_rfl) (fun _ _ _ h => h) (.inl ⟨rfl, fun w0 hw0 => ?a0⟩) hS ?_
      case a0 =>
        have e0 : w0.cell? ⟨b7, 0, none⟩ = some (.int .i64 ((a0 * c0) / 18446744073709551616)) := hw0.at 0; have e1 : w0.cell? ⟨b7, 1, none⟩ = some (.int .u64 ((a0 * c0) % 18446744073709551616)) := hw0.at 1
        go_simp
      refine wpAnyH_take (i := 1) (v := .agg #[.int .i64 ((a0 * c0) / 18446744073709551616), .int .u64 ((a0 * c0) % 18446744073709551616)]) rfl (by kernel_rfl) (by kernel_rfl) (by kernel_rfl) (fun _ _ _ h => h) (.inl ⟨rfl, fun w0 hw0 => ?a1⟩) hS ?_
      case a1 =>
        have e0 : w0.cell? ⟨b7, 0, none⟩ = some (.int .i64 ((a0 * c0) / 18446744073709551616)) := hw0.at 0; have e1 : w0.cell? ⟨b7, 1, none⟩ = some (.int .u64 ((a0 * c0) % 18446744073709551616)) := hw0.at 1
        go_simp
      refine wpAnyH_take (i := 2) (v := .slice (some ⟨b7, 2, none⟩) 3 3) rfl (by kernel_rfl) (by kernel_rfl) (by kernel_rfl) (fun _ _ _ h => h) (.inl ⟨rfl, fun w0 hw0 => ?a2⟩) hS ?_
      case a2 =>
        have e0 : w0.cell? ⟨b7, 0, none⟩ = some (.int .i64 ((a0 * c0) / 18446744073709551616)) := hw0.at 0; have e1 : w0.cell? ⟨b7, 1, none⟩ = some (.int .u64 ((a0 * c0) % 18446744073709551616)) := hw0.at 1
        go_simp
      refine wpAnyH_take (i := 5) (v := .pointer (some ⟨b7, 0, none⟩)) rfl (by kernel_rfl) (by kernel_rfl) (by kernel_rfl) (fun _ _ _ h => h) (.inl ⟨rfl, fun w0 hw0 => ?a5⟩) hS ?_
      case a5 =>
        have e0 : w0.cell? ⟨b7, 0, none⟩ = some (.int .i64 ((a0 * c0) / 18446744073709551616)) := hw0.at 0; have e1 : w0.cell? ⟨b7, 1, none⟩ = some (.int .u64 ((a0 * c0) % 18446744073709551616)) := hw0.at 1
        go_simp
      refine wpAnyH_take (i := 6) (v := .agg #[.int .i64 ((a0 * c0) / 18446744073709551616), .int .u64 ((a0 * c0) % 18446744073709551616)]) rfl (by kernel_rfl) (by kernel_rfl) (by kernel_rfl) (fun _ _ _ h => h) (.inl ⟨rfl, fun w0 hw0 => ?a6⟩) hS ?_
      case a6 =>
        have e0 : w0.cell? ⟨b7, 0, none⟩ = some (.int .i64 ((a0 * c0) / 18446744073709551616)) := hw0.at 0; have e1 : w0.cell? ⟨b7, 1, none⟩ = some (.int .u64 ((a0 * c0) % 18446744073709551616)) := hw0.at 1
        go_simp
      refine wpAnyH_take (i := 7) (v := .slice (some ⟨b7, 2, none⟩) 3 3) rfl (by kernel_rfl) (by kernel_rfl) (by kernel_rfl) (fun _ _ _ h => h) (.inl ⟨rfl, fun w0 hw0 => ?a7⟩) hS ?_
      case a7 =>
        have e0 : w0.cell? ⟨b7, 0, none⟩ = some (.int .i64 ((a0 * c0) / 18446744073709551616)) := hw0.at 0; have e1 : w0.cell? ⟨b7, 1, none⟩ = some (.int .u64 ((a0 * c0) % 18446744073709551616)) := hw0.at 1
        go_simp
      clear hS
      refine wpAnyH_all (rs := [3]) (by kernel_rfl) (by simp) ?_
      intro i0 hi0
      obtain rfl : i0 = 3 := by simpa using hi0
      refine wpOp_plain rfl rfl fun K' hK' => ?_
      go_simp
      refine (CL.out _ b7 _ E.blks.1).mono ?_
      rintro e W2 ⟨rfl, hb2⟩
      replace E := E.below hb2
      clear hb2
      refine hK' _ _ ⟨E.blks.1, ?_⟩
      clear hK' K'
      refine wpAnyH_all (rs := [4]) (by kernel_rfl) (by simp) ?_
      intro i0 hi0
      obtain rfl : i0 = 4 := by simpa using hi0
      refine wpOp_plain rfl rfl fun K' hK' => ?_
      go_simp
      refine (CD.out _).mono ?_
      rintro e W3 ⟨rfl, hb3⟩
      replace E := E.below hb3
      clear hb3
      refine hK' _ _ ⟨E.blks.1, ?_⟩
      clear hK' K'
      refine wpAnyH_all (rs := [8]) (by kernel_rfl) (by simp) ?_
      intro i0 hi0
      obtain rfl : i0 = 8 := by simpa using hi0
      refine wpOp_plain rfl rfl fun K' hK' => ?_
      go_simp
      refine (CG.out _ b7 _ E.blks.1).mono ?_
      rintro e W4 ⟨rfl, hb4⟩
      replace E := E.below hb4
      clear hb4
      refine hK' _ _ ⟨E.blks.1, ?_⟩
      clear hK' K'
      refine wpAnyH_all (rs := [9]) (by kernel_rfl) (by simp) ?_
      intro i0 hi0
      obtain rfl : i0 = 9 := by simpa using hi0
      refine wpOp_plain rfl rfl fun K' hK' => ?_
      go_simp
      refine (CU.out _).mono ?_
      rintro e W5 ⟨rfl, hb5⟩
      replace E := E.below hb5
      clear hb5
      refine hK' _ _ ⟨E.blks.1, ?_⟩
      clear hK' K'
      refine wpAnyH_all (rs := [10]) (by kernel_rfl) (by simp) ?_
      intro i0 hi0
      obtain rfl : i0 = 10 := by simpa using hi0
      refine wpOp_plain rfl rfl fun K' hK' => ?_
      go_simp
      refine (CM.out _).mono ?_
      rintro e W6 ⟨rfl, hb6⟩
      replace E := E.below hb6
      clear hb6
      refine hK' _ _ ⟨E.blks.1, ?_⟩
      clear hK' K'
      have hS := E.blks.1
      refine wpAnyH_take (i := 11) (v := .agg #[.int .i64 lo, .int .i64 hi]) rfl (by kernel_rfl) (by kernel_rfl) (by kernel_rfl) (fun _ _ _ h => h) (.inl ⟨rfl, fun w0 hw0 => ?a11⟩) hS ?_
      case a11 =>
        have e0 : w0.cell? ⟨b7, 0, none⟩ = some (.int .i64 ((a0 * c0) / 18446744073709551616)) := hw0.at 0; have e1 : w0.cell? ⟨b7, 1, none⟩ = some (.int .u64 ((a0 * c0) % 18446744073709551616)) := hw0.at 1
        go_simp
      refine wpAnyH_take (i := 12) (v := .int .i64 er) rfl (by kernel_rfl) (by kernel_rfl) (by kernel_rfl) (fun _ _ _ h => h) (.inl ⟨rfl, fun w0 hw0 => ?a12⟩) hS ?_
      case a12 =>
        have e0 : w0.cell? ⟨b7, 0, none⟩ = some (.int .i64 ((a0 * c0) / 18446744073709551616)) := hw0.at 0; have e1 : w0.cell? ⟨b7, 1, none⟩ = some (.int .u64 ((a0 * c0) % 18446744073709551616)) := hw0.at 1
        go_simp
      clear hS
      have f0 : W6.cell? ⟨w.heap.size + 1 + 1, 0, none⟩ = some (.int .i64 0) := E.blks.2.1.at 0
      have f1 : W6.cell? ⟨w.heap.size + 1 + 1, 1, none⟩ = some (.int .i64 0) := E.blks.2.1.at 1
      have g0 := E.blks.2.1.fr 0
      have g1 := E.blks.2.1.fr 1
      refine wpAnyH_all (rs := [13]) (by kernel_rfl) (by simp) ?_
      intro i0 hi0
      obtain rfl : i0 = 13 := by simpa using hi0
      refine wpOp_plain rfl rfl fun K' hK' => ?_
      go_simp
      replace E := ((E.swap.setY (by omega) (by simp [Free] <;> omega) rfl 0 (.int .i64 lo)).setY (by omega) (by simp [Free] <;> omega) rfl 1 (.int .i64 hi))
      clear f0 f1 g0 g1
      generalize ((W6.setCell ⟨w.heap.size + 1 + 1, 0, none⟩ (.int .i64 lo)).setCell ⟨w.heap.size + 1 + 1, 1, none⟩ (.int .i64 hi)) = W7 at *
      refine hK' _ _ ⟨E.blks.2.1, ?_⟩
      clear hK' K'
      have hS := E.blks.2.1
      refine wpAnyH_take (i := 14) (v := .int .i64 er) rfl (by kernel_rfl) (by kernel_rfl) (by kernel_rfl) (fun _ _ _ h => h) (.inl ⟨rfl, fun w0 hw0 => ?a14⟩) hS ?_
      case a14 =>
        have e0 : w0.cell? ⟨b7, 0, none⟩ = some (.int .i64 ((a0 * c0) / 18446744073709551616)) := hw0.at 0; have e1 : w0.cell? ⟨b7, 1, none⟩ = some (.int .u64 ((a0 * c0) % 18446744073709551616)) := hw0.at 1
        go_simp
      clear hS
      refine wpAnyH_done (by kernel_rfl) ?_ _
      have r0 : W7.cell? ⟨w.heap.size + 1 + 1, 0, none⟩ = some (Value.int .i64 lo) := E.blks.1.at 0
      have r1 : W7.cell? ⟨w.heap.size + 1 + 1, 1, none⟩ = some (Value.int .i64 hi) := E.blks.1.at 1
      have HE := Lib.hid E
      clear E
      go_wp2
      refine bodyPost_ret (v := .tuple #[.agg #[.int .i64 lo, .int .i64 hi], .int .i64 er]) (by simp [results, Tryz.results107, go_sem, r0, r1]) rfl ?_
      exact ⟨rfl, HE.out.bel⟩

end Go.Proofs.YtilaheplclaokaaGreatDoor
namespace Go.Proofs.YtilaheplclaokaaGreatDoor
open Go.RowKit Go.Shelf
attribute [local go_sem] Oper.semAt_some

/-- A valid vector. -/
def vecB (v0 v1 v2 v3 v4 v5 : Int) : Bool := ivB v0 v1 && ivB v2 v3 && ivB v4 v5
theorem vecB_spec {v0 v1 v2 v3 v4 v5 : Int} (h : vecB v0 v1 v2 v3 v4 v5 = true) : ivB v0 v1 = true ∧ ivB v2 v3 = true ∧ ivB v4 v5 = true := by
  unfold vecB at h
  simp only [Bool.and_eq_true] at h
  exact ⟨h.1.1, h.1.2, h.2⟩
theorem ivE_true {b : Bool} (h : b = true) : ivE b = 0 := by rw [h]; rfl


set_option maxRecDepth 100000 in
set_option maxHeartbeats 1000000 in
theorem vcheck_calls (w : World) (v0 v1 v2 v3 v4 v5 : Int) (hv : vecB v0 v1 v2 v3 v4 v5 = true) :
    Calls Tryz.prog 56 #[.agg #[.int .i64 v0, .int .i64 v1, .int .i64 v2, .int .i64 v3, .int .i64 v4, .int .i64 v5]] w (OkPost (.int .i64 0) w) := by
  obtain ⟨h0, h1, h2⟩ := vecB_spec hv
  have H0 := Lib.hid (ivE_true h0)
  have H1 := Lib.hid (ivE_true h1)
  have H2 := Lib.hid (ivE_true h2)
  have HE0 := Lib.hid ((Env.start w).alloc #[.int .i64 v0, .int .i64 v1, .int .i64 v2, .int .i64 v3, .int .i64 v4, .int .i64 v5] 34)
  clear h0 h1 h2 hv
  go_enter Tryz.func56, Tryz.ntmps56
  go_wp2
  go_loopw [5] (fun i wr => ∃ (k : Nat), k ≤ 3 ∧ i = .int .i64 k ∧ Env w [(w.heap.size, #[.int .i64 v0, .int .i64 v1, .int .i64 v2, .int .i64 v3, .int .i64 v4, .int .i64 v5], 34)] [] wr) (fun i _ => 3 - (intOf i).toNat)
  case atStart => exact ⟨0, by omega, rfl, HE0.out⟩
  case round =>
    clear HE0
    obtain ⟨k, hk, rfl, E⟩ := hrel
    have HE := Lib.hid E
    clear E
    have hc : k = 0 ∨ k = 1 ∨ k = 2 ∨ k = 3 := by omega
    rcases hc with rfl | rfl | rfl | rfl
    · skip
      have e0 : wr.cell? ⟨w.heap.size, 0, none⟩ = some (.int .i64 v0) := HE.out.blks.1.at 0
      have e1 : wr.cell? ⟨w.heap.size, 1, none⟩ = some (.int .i64 v1) := HE.out.blks.1.at 1
      go_wp2_with fail
      go_at_call 78
      refine (ivCheck_calls _ v0 v1).mono ?_
      rw [H0.out]
      rintro e W2 ⟨rfl, hb2⟩
      have HE2 := Lib.hid (HE.out.below hb2)
      clear hb2 e0 e1
      go_wp2
      go_roundw
      case rel => exact ⟨1, by omega, by go_num, HE2.out⟩
      case measure => simp [intOf]
    · skip
      have e0 : wr.cell? ⟨w.heap.size, 2, none⟩ = some (.int .i64 v2) := HE.out.blks.1.at 2
      have e1 : wr.cell? ⟨w.heap.size, 3, none⟩ = some (.int .i64 v3) := HE.out.blks.1.at 3
      go_wp2_with fail
      go_at_call 78
      refine (ivCheck_calls _ v2 v3).mono ?_
      rw [H1.out]
      rintro e W2 ⟨rfl, hb2⟩
      have HE2 := Lib.hid (HE.out.below hb2)
      clear hb2 e0 e1
      go_wp2
      go_roundw
      case rel => exact ⟨2, by omega, by go_num, HE2.out⟩
      case measure => simp [intOf]
    · skip
      have e0 : wr.cell? ⟨w.heap.size, 4, none⟩ = some (.int .i64 v4) := HE.out.blks.1.at 4
      have e1 : wr.cell? ⟨w.heap.size, 5, none⟩ = some (.int .i64 v5) := HE.out.blks.1.at 5
      go_wp2_with fail
      go_at_call 78
      refine (ivCheck_calls _ v4 v5).mono ?_
      rw [H2.out]
      rintro e W2 ⟨rfl, hb2⟩
      have HE2 := Lib.hid (HE.out.below hb2)
      clear hb2 e0 e1
      go_wp2
      go_roundw
      case rel => exact ⟨3, by omega, by go_num, HE2.out⟩
      case measure => simp [intOf]
    · go_wp2
      go_ret
      exact ⟨rfl, HE.out.bel⟩

set_option maxRecDepth 100000 in
set_option maxHeartbeats 1000000 in
theorem look_calls (w : World) (v0 v1 v2 v3 v4 v5 u0 u1 u2 u3 u4 u5 : Int) (hv : vecB v0 v1 v2 v3 v4 v5 = true) (hu : vecB u0 u1 u2 u3 u4 u5 = true) :
    Calls Tryz.prog 124 #[.agg #[.int .i64 v0, .int .i64 v1, .int .i64 v2, .int .i64 v3, .int .i64 v4, .int .i64 v5], .agg #[.int .i64 u0, .int .i64 u1, .int .i64 u2, .int .i64 u3, .int .i64 u4, .int .i64 u5]] w (OkPost (.int .i64 0) w) := by
  have CV := Lib.hid fun w' => vcheck_calls w' v0 v1 v2 v3 v4 v5 hv
  have CU := Lib.hid fun w' => vcheck_calls w' u0 u1 u2 u3 u4 u5 hu
  have E := ((Env.start w).alloc #[.int .i64 v0, .int .i64 v1, .int .i64 v2, .int .i64 v3, .int .i64 v4, .int .i64 v5] 34).alloc #[.int .i64 u0, .int .i64 u1, .int .i64 u2, .int .i64 u3, .int .i64 u4, .int .i64 u5] 34
  simp only [World.size_alloc] at E
  have HE := Lib.hid E
  clear E hv hu
  go_enter Tryz.func124, Tryz.ntmps124
  go_wp2_with fail
  go_at_call 56
  refine (CV.out _).mono ?_
  rintro e W1 ⟨rfl, hb1⟩
  replace HE := Lib.hid (HE.out.below hb1)
  clear hb1 CV
  have e0 : W1.cell? ⟨w.heap.size + 1, 0, none⟩ = some (.int .i64 u0) := HE.out.blks.1.at 0
  have e1 : W1.cell? ⟨w.heap.size + 1, 1, none⟩ = some (.int .i64 u1) := HE.out.blks.1.at 1
  have e2 : W1.cell? ⟨w.heap.size + 1, 2, none⟩ = some (.int .i64 u2) := HE.out.blks.1.at 2
  have e3 : W1.cell? ⟨w.heap.size + 1, 3, none⟩ = some (.int .i64 u3) := HE.out.blks.1.at 3
  have e4 : W1.cell? ⟨w.heap.size + 1, 4, none⟩ = some (.int .i64 u4) := HE.out.blks.1.at 4
  have e5 : W1.cell? ⟨w.heap.size + 1, 5, none⟩ = some (.int .i64 u5) := HE.out.blks.1.at 5
  go_wp2_with fail
  go_at_call 56
  refine (CU.out _).mono ?_
  rintro e W2 ⟨rfl, hb2⟩
  replace HE := Lib.hid (HE.out.below hb2)
  clear hb2 CU
  go_wp2
  go_ret
  exact ⟨rfl, HE.out.bel⟩

/-- A sheet without an error. -/
def sheetC : Array Value := #[.func (.func 18) #[] #[], .func (.func 110) #[] #[], .func (.func 107) #[] #[], .func (.func 87) #[] #[], .int .i64 0]
def BeginPost (w : World) (e : Ending) (w' : World) : Prop := ∃ b, e = .returned (.pointer (some ⟨b, 0, none⟩)) ∧ w.heap.size ≤ b ∧ Blk w' b sheetC 110 ∧ Below w.heap.size w w'

set_option maxRecDepth 100000 in
theorem begin_calls (w : World) : Calls Tryz.prog 57 #[] w (BeginPost w) := by
  go_enter Tryz.func57, Tryz.ntmps57
  go_wp2
  go_ret
  exact ⟨w.heap.size, rfl, Nat.le_refl _, Blk.new w _ _, (Below.refl _ _).alloc (Nat.le_refl _) _⟩

/-- What 'do' gives where the operation has no error. -/
def DoPost (b : Nat) (lo hi : Int) (w : World) (e : Ending) (w' : World) : Prop := e = .returned (.agg #[.int .i64 lo, .int .i64 hi]) ∧ Blk w' b sheetC 110 ∧ Keeps (fun k => k = b) w w'

theorem Keeps.setX {C : Nat → Prop} {W : World} {b : Nat} {cs : Array Value} {t : TypeId} (hb : Blk W b cs t) (hC : C b) (hn : cs.toList.all noLimb = true) (i : Nat) (u : Value) : Keeps C W (W.setCell ⟨b, i, none⟩ u) where
  os := rfl
  tape := rfl
  output := rfl
  size := by simp [World.setCell]
  block := fun k _ hk => by
    have hne : k ≠ b := fun e => hk (e ▸ hC)
    exact Below.heap_setCell _ _ _ _ hne
  row := fun _ _ _ ha => ha.setX hb (by rw [← Array.all_toList]; exact hn) i u
theorem Keeps.setNewX {C : Nat → Prop} {w W : World} (h : Keeps C w W) {b : Nat} {cs : Array Value} {t : TypeId} (hb : Blk W b cs t) (hn : w.heap.size ≤ b) (hl : cs.toList.all noLimb = true) (i : Nat) (u : Value) : Keeps C w (W.setCell ⟨b, i, none⟩ u) where
  os := h.os
  tape := h.tape
  output := h.output
  size := by simpa [World.setCell] using h.size
  block := fun k hk hc => by
    have hne : k ≠ b := by omega
    exact (Below.heap_setCell _ _ _ _ hne).trans (h.block k hk hc)
  row := fun A g n ha => (h.row A g n ha).setX hb (by rw [← Array.all_toList]; exact hl) i u
theorem Env.keeps {w W W' : World} {L : List (Nat × Array Value × TypeId)} {N : List (Bool × Option Addr × Nat × Nat × Int)} {b : Nat} {cs cs' : Array Value} {t : TypeId} (h : Env w ((b, cs, t) :: L) N W) (hB : w.heap.size ≤ b) (hf : Free b L) (hk : Keeps (fun k => k = b) W W') (hb : Blk W' b cs' t) : Env w ((b, cs', t) :: L) N W' := by
  have k1 : ∀ {L : List (Nat × Array Value × TypeId)}, Free b L → Blks W L → Blks W' L := by
    intro L
    induction L with
    | nil => intro _ _; trivial
    | cons q l ih => intro hf h; exact ⟨hk.blk h.1 hf.1, ih hf.2 h.2⟩
  have k2 : ∀ {N : List (Bool × Option Addr × Nat × Nat × Int)}, Wds W N → Wds W' N := by
    intro N
    induction N with
    | nil => intro _; trivial
    | cons q l ih => intro h; exact ⟨hk.wd h.1, ih h.2⟩
  exact ⟨⟨hb, k1 hf h.blks.2⟩, k2 h.wds, hk.to_below h.bel h.bel.size (fun k hk => by subst hk; exact hB)⟩

set_option maxRecDepth 100000 in
set_option maxHeartbeats 1000000 in
theorem doMul_calls (w : World) (b : Nat) (a0 a1 c0 c1 lo hi : Int) (hs : Blk w b sheetC 110) (hop : ∀ w' : World, Calls Tryz.prog 107 #[.agg #[.int .i64 a0, .int .i64 a1], .agg #[.int .i64 c0, .int .i64 c1]] w' (OkPost (.tuple #[.agg #[.int .i64 lo, .int .i64 hi], .int .i64 0]) w')) :
    Calls Tryz.prog 59 #[.pointer (some ⟨b, 0, none⟩), .func (.func 107) #[] #[], .agg #[.int .i64 a0, .int .i64 a1], .agg #[.int .i64 c0, .int .i64 c1]] w (DoPost b lo hi w) := by
  have hlt := hs.lt
  have hal := (((Below.refl w.heap.size w).alloc (Nat.le_refl _) (.cells #[.int .i64 a0, .int .i64 a1] 32)).alloc (by simp) (.cells #[.int .i64 c0, .int .i64 c1] 32)).alloc (by simp; omega) (.cells #[.int .i64 0, .int .i64 0] 32)
  have E := (((Env.start w).alloc #[.int .i64 a0, .int .i64 a1] 32).alloc #[.int .i64 c0, .int .i64 c1] 32).alloc #[.int .i64 0, .int .i64 0] 32
  simp only [World.size_alloc] at E
  have hs1 := hs.below hal
  have e0 : (((w.alloc (.cells #[.int .i64 a0, .int .i64 a1] 32)).alloc (.cells #[.int .i64 c0, .int .i64 c1] 32)).alloc (.cells #[.int .i64 0, .int .i64 0] 32)).cell? ⟨b, 4, none⟩ = some (.int .i64 0) := hs1.at 4
  have HE := Lib.hid (And.intro E hs1)
  have HO := Lib.hid hop
  clear E hs hs1 hal hop
  go_enter Tryz.func59, Tryz.ntmps59
  go_wp2_with fail
  refine (HO.out _).mono ?_
  rintro e W1 ⟨rfl, hb1⟩
  have E1 := HE.out.1.below hb1
  have B1 := HE.out.2.below (by simpa using hb1)
  clear HE HO hb1 e0
  have e4 : W1.cell? ⟨b, 4, none⟩ = some (.int .i64 0) := B1.at 4
  have g4 := B1.fr 4
  have hl := B1.lt
  have f0 : W1.cell? ⟨w.heap.size + 1 + 1, 0, none⟩ = some (.int .i64 0) := E1.blks.1.at 0
  have f1 : W1.cell? ⟨w.heap.size + 1 + 1, 1, none⟩ = some (.int .i64 0) := E1.blks.1.at 1
  have g0 := E1.blks.1.fr 0
  have g1 := E1.blks.1.fr 1
  have hl2 := E1.blks.1.lt
  have hl3 : w.heap.size + 1 + 1 < W1.heap.size := hl2
  have HE1 := Lib.hid E1
  have HB1 := Lib.hid B1
  clear E1 B1
  go_wp2
  have hne : w.heap.size + 1 + 1 ≠ b := by omega
  have hne2 : b ≠ w.heap.size + 1 + 1 := by omega
  have q0 := HE1.out.blks.1.far ⟨b, 4, none⟩ (.int .i64 0) hne
  have q1 := q0.set 0 (.int .i64 lo)
  have q2 := q1.set 1 (.int .i64 hi)
  have q3 := q2.alloc (.cells #[.int .i64 lo, .int .i64 hi] 32)
  have K1 := (Keeps.of_below (C := fun k => k = b) HE1.out.bel).trans (Keeps.setX (C := fun k => k = b) HB1.out rfl rfl 4 (.int .i64 0))
  have K2 := (K1.setNewX q0 (by omega) rfl 0 (.int .i64 lo)).setNewX q1 (by omega) rfl 1 (.int .i64 hi)
  have K3 := K2.trans (Keeps.of_below ((Below.refl _ _).alloc (Nat.le_refl _) (.cells #[.int .i64 lo, .int .i64 hi] 32)))
  have s1 := (((HB1.out.set 4 (.int .i64 0)).far ⟨w.heap.size + 1 + 1, 0, none⟩ (.int .i64 lo) hne2).far ⟨w.heap.size + 1 + 1, 1, none⟩ (.int .i64 hi) hne2).alloc (.cells #[.int .i64 lo, .int .i64 hi] 32)
  have r0 : _ = some (Value.int .i64 lo) := q3.at 0
  have r1 : _ = some (Value.int .i64 hi) := q3.at 1
  refine bodyPost_ret (v := .agg #[.int .i64 lo, .int .i64 hi]) (by simp [results, Tryz.results59, go_sem, r0, r1]) rfl ?_
  exact ⟨rfl, s1, K3⟩

set_option maxRecDepth 100000 in
set_option maxHeartbeats 1000000 in
theorem doSub_calls (w : World) (b : Nat) (a0 a1 c0 c1 lo hi : Int) (hs : Blk w b sheetC 110) (hop : ∀ w' : World, Calls Tryz.prog 110 #[.agg #[.int .i64 a0, .int .i64 a1], .agg #[.int .i64 c0, .int .i64 c1]] w' (OkPost (.tuple #[.agg #[.int .i64 lo, .int .i64 hi], .int .i64 0]) w')) :
    Calls Tryz.prog 59 #[.pointer (some ⟨b, 0, none⟩), .func (.func 110) #[] #[], .agg #[.int .i64 a0, .int .i64 a1], .agg #[.int .i64 c0, .int .i64 c1]] w (DoPost b lo hi w) := by
  have hlt := hs.lt
  have hal := (((Below.refl w.heap.size w).alloc (Nat.le_refl _) (.cells #[.int .i64 a0, .int .i64 a1] 32)).alloc (by simp) (.cells #[.int .i64 c0, .int .i64 c1] 32)).alloc (by simp; omega) (.cells #[.int .i64 0, .int .i64 0] 32)
  have E := (((Env.start w).alloc #[.int .i64 a0, .int .i64 a1] 32).alloc #[.int .i64 c0, .int .i64 c1] 32).alloc #[.int .i64 0, .int .i64 0] 32
  simp only [World.size_alloc] at E
  have hs1 := hs.below hal
  have e0 : (((w.alloc (.cells #[.int .i64 a0, .int .i64 a1] 32)).alloc (.cells #[.int .i64 c0, .int .i64 c1] 32)).alloc (.cells #[.int .i64 0, .int .i64 0] 32)).cell? ⟨b, 4, none⟩ = some (.int .i64 0) := hs1.at 4
  have HE := Lib.hid (And.intro E hs1)
  have HO := Lib.hid hop
  clear E hs hs1 hal hop
  go_enter Tryz.func59, Tryz.ntmps59
  go_wp2_with fail
  refine (HO.out _).mono ?_
  rintro e W1 ⟨rfl, hb1⟩
  have E1 := HE.out.1.below hb1
  have B1 := HE.out.2.below (by simpa using hb1)
  clear HE HO hb1 e0
  have e4 : W1.cell? ⟨b, 4, none⟩ = some (.int .i64 0) := B1.at 4
  have g4 := B1.fr 4
  have hl := B1.lt
  have f0 : W1.cell? ⟨w.heap.size + 1 + 1, 0, none⟩ = some (.int .i64 0) := E1.blks.1.at 0
  have f1 : W1.cell? ⟨w.heap.size + 1 + 1, 1, none⟩ = some (.int .i64 0) := E1.blks.1.at 1
  have g0 := E1.blks.1.fr 0
  have g1 := E1.blks.1.fr 1
  have hl2 := E1.blks.1.lt
  have hl3 : w.heap.size + 1 + 1 < W1.heap.size := hl2
  have HE1 := Lib.hid E1
  have HB1 := Lib.hid B1
  clear E1 B1
  go_wp2
  have hne : w.heap.size + 1 + 1 ≠ b := by omega
  have hne2 : b ≠ w.heap.size + 1 + 1 := by omega
  have q0 := HE1.out.blks.1.far ⟨b, 4, none⟩ (.int .i64 0) hne
  have q1 := q0.set 0 (.int .i64 lo)
  have q2 := q1.set 1 (.int .i64 hi)
  have q3 := q2.alloc (.cells #[.int .i64 lo, .int .i64 hi] 32)
  have K1 := (Keeps.of_below (C := fun k => k = b) HE1.out.bel).trans (Keeps.setX (C := fun k => k = b) HB1.out rfl rfl 4 (.int .i64 0))
  have K2 := (K1.setNewX q0 (by omega) rfl 0 (.int .i64 lo)).setNewX q1 (by omega) rfl 1 (.int .i64 hi)
  have K3 := K2.trans (Keeps.of_below ((Below.refl _ _).alloc (Nat.le_refl _) (.cells #[.int .i64 lo, .int .i64 hi] 32)))
  have s1 := (((HB1.out.set 4 (.int .i64 0)).far ⟨w.heap.size + 1 + 1, 0, none⟩ (.int .i64 lo) hne2).far ⟨w.heap.size + 1 + 1, 1, none⟩ (.int .i64 hi) hne2).alloc (.cells #[.int .i64 lo, .int .i64 hi] 32)
  have r0 : _ = some (Value.int .i64 lo) := q3.at 0
  have r1 : _ = some (Value.int .i64 hi) := q3.at 1
  refine bodyPost_ret (v := .agg #[.int .i64 lo, .int .i64 hi]) (by simp [results, Tryz.results59, go_sem, r0, r1]) rfl ?_
  exact ⟨rfl, s1, K3⟩

set_option maxRecDepth 100000 in
set_option maxHeartbeats 1000000 in
theorem vec_calls (w : World) (b : Nat) (v0 v1 v2 v3 v4 v5 : Int) (hs : Blk w b sheetC 110) :
    Calls Tryz.prog 125 #[.pointer (some ⟨b, 0, none⟩), .agg #[.int .i64 v0, .int .i64 v1, .int .i64 v2, .int .i64 v3, .int .i64 v4, .int .i64 v5]] w (OkPost (.tuple #[.agg #[.int .i64 v0, .int .i64 v1, .int .i64 v2, .int .i64 v3, .int .i64 v4, .int .i64 v5], .int .i64 0]) w) := by
  have hlt := hs.lt
  have e4 : w.cell? ⟨b, 4, none⟩ = some (.int .i64 0) := hs.at 4
  have hlt2 : b < w.heap.size + 1 := by omega
  have hs2 := (hs.alloc (.cells #[.int .i64 v0, .int .i64 v1, .int .i64 v2, .int .i64 v3, .int .i64 v4, .int .i64 v5] 34)).alloc (.cells #[.int .i64 0, .int .i64 0, .int .i64 0, .int .i64 0, .int .i64 0, .int .i64 0] 34)
  have e5 : _ = some (Value.int .i64 0) := hs2.at 4
  clear hs hs2
  go_enter Tryz.func125, Tryz.ntmps125
  go_wp2
  have E := ((Env.start w).alloc #[.int .i64 v0, .int .i64 v1, .int .i64 v2, .int .i64 v3, .int .i64 v4, .int .i64 v5] 34).alloc #[.int .i64 v0, .int .i64 v1, .int .i64 v2, .int .i64 v3, .int .i64 v4, .int .i64 v5] 34
  simp only [World.size_alloc] at E
  have r0 : _ = some (Value.int .i64 v0) := E.blks.1.at 0
  have r1 : _ = some (Value.int .i64 v1) := E.blks.1.at 1
  have r2 : _ = some (Value.int .i64 v2) := E.blks.1.at 2
  have r3 : _ = some (Value.int .i64 v3) := E.blks.1.at 3
  have r4 : _ = some (Value.int .i64 v4) := E.blks.1.at 4
  have r5 : _ = some (Value.int .i64 v5) := E.blks.1.at 5
  refine bodyPost_ret (v := .tuple #[.agg #[.int .i64 v0, .int .i64 v1, .int .i64 v2, .int .i64 v3, .int .i64 v4, .int .i64 v5], .int .i64 0]) (by simp [results, Tryz.results125, go_sem, r0, r1, r2, r3, r4, r5]) rfl ?_
  exact ⟨rfl, E.bel⟩

end Go.Proofs.YtilaheplclaokaaGreatDoor

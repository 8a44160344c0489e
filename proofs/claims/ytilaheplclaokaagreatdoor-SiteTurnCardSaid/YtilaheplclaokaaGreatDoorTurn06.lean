/-
Walk of trig's sum, over whatever closure gives a decreasing row of terms.
Walks of trig's arctan and its closure.
Plain law: rows of terms that end. No program here.
Walk of trig's arctan.
-/
import Derived.Test.YtilaheplclaokaaGreatDoorTurn05
set_option linter.unusedVariables false
set_option linter.unusedSimpArgs false
namespace Go.Proofs.YtilaheplclaokaaGreatDoor
open Go.RowKit Go.Shelf

/-- Blocks that lay there are as they were, but those of C; rows of limbs lie where they lay. -/
structure Keeps (C : Nat → Prop) (W W' : World) : Prop where
  os : W'.os = W.os
  tape : W'.tape = W.tape
  output : W'.output = W.output
  size : W.heap.size ≤ W'.heap.size
  block : ∀ k, k < W.heap.size → ¬ C k → W'.heap[k]? = W.heap[k]?
  row : ∀ A g n, At W A g n → At W' A g n
theorem Keeps.refl (C : Nat → Prop) (W : World) : Keeps C W W := ⟨rfl, rfl, rfl, Nat.le_refl _, fun _ _ _ => rfl, fun _ _ _ h => h⟩
theorem Keeps.trans {C : Nat → Prop} {A B D : World} (h : Keeps C A B) (k : Keeps C B D) : Keeps C A D :=
  ⟨k.os.trans h.os, k.tape.trans h.tape, k.output.trans h.output, Nat.le_trans h.size k.size, fun i hi hc => (k.block i (Nat.lt_of_lt_of_le hi h.size) hc).trans (h.block i hi hc), fun a g n ha => k.row a g n (h.row a g n ha)⟩
theorem Keeps.of_below {C : Nat → Prop} {W W' : World} (h : Below W.heap.size W W') : Keeps C W W' := ⟨h.os, h.tape, h.output, h.size, fun k hk _ => h.block k hk, fun _ _ _ ha => ha.below h⟩
theorem Keeps.set2 {C : Nat → Prop} {W : World} {b : Nat} {c : Bool} {D : Option Addr} {k l : Nat} {t : TypeId} (hb : Blk W b #[.bool c, .slice D k l] t) (hC : C b) (u v : Value) : Keeps C W ((W.setCell ⟨b, 0, none⟩ u).setCell ⟨b, 1, none⟩ v) where
  os := rfl
  tape := rfl
  output := rfl
  size := by simp [World.setCell]
  block := fun k _ hk => by
    have hne : k ≠ b := fun e => hk (e ▸ hC)
    exact (Below.heap_setCell _ _ _ _ hne).trans (Below.heap_setCell _ _ _ _ hne)
  row := fun _ _ _ ha => ha.set2 hb u v
theorem Keeps.weak {C D : Nat → Prop} {W W' : World} (h : Keeps C W W') (hd : ∀ k, k < W.heap.size → C k → D k) : Keeps D W W' := ⟨h.os, h.tape, h.output, h.size, fun k hk hc => h.block k hk fun c => hc (hd k hk c), h.row⟩
theorem Keeps.blk {C : Nat → Prop} {W W' : World} (h : Keeps C W W') {b : Nat} {cs : Array Value} {t : TypeId} (hb : Blk W b cs t) (hc : ¬ C b) : Blk W' b cs t := (h.block b hb.lt hc).trans hb
theorem Keeps.wd {C : Nat → Prop} {W W' : World} (h : Keeps C W W') {neg : Bool} {A : Option Addr} {n cap : Nat} {x : Int} (hw : WD W neg A n cap x) : WD W' neg A n cap x := by
  obtain ⟨g, h1, h2, h3, h4, h5⟩ := hw
  exact ⟨g, h1, h2, h3, h.row _ _ _ h4, h5⟩
theorem Keeps.to_below {C : Nat → Prop} {B : Nat} {w0 W W' : World} (h : Keeps C W W') (hb : Below B w0 W) (hB : B ≤ W.heap.size) (hC : ∀ k, C k → B ≤ k) : Below B w0 W' :=
  hb.trans ⟨h.os, h.tape, h.output, h.size, fun k hk => h.block k (by omega) fun c => absurd (hC k c) (by omega)⟩

theorem Keeps.setNew {C : Nat → Prop} {w W : World} (h : Keeps C w W) {b : Nat} {c : Bool} {D : Option Addr} {k l : Nat} {t : TypeId} (hb : Blk W b #[.bool c, .slice D k l] t) (hn : w.heap.size ≤ b) (u v : Value) : Keeps C w ((W.setCell ⟨b, 0, none⟩ u).setCell ⟨b, 1, none⟩ v) where
  os := h.os
  tape := h.tape
  output := h.output
  size := by simpa [World.setCell] using h.size
  block := fun k hk hc => by
    have hne : k ≠ b := by omega
    exact ((Below.heap_setCell _ _ _ _ hne).trans (Below.heap_setCell _ _ _ _ hne)).trans (h.block k hk hc)
  row := fun A g n ha => (h.row A g n ha).set2 hb u v

/-- A row of terms that goes down to 0. -/
structure Terms (T : Nat → Int) (N : Nat) : Prop where
  zero : T N = 0
  pos : ∀ i, i < N → 0 < T i
  dec : ∀ i, i < N → T (i + 1) ≤ T i
  fits : T 0 < Num.P 4096
theorem Terms.le {T : Nat → Int} {N : Nat} (h : Terms T N) : ∀ i, i ≤ N → 0 ≤ T i ∧ T i ≤ T 0
  | 0, _ => by
    rcases Nat.eq_zero_or_pos N with h0 | h0
    · have := h.zero; rw [h0] at this; omega
    · have := h.pos 0 h0; omega
  | i + 1, hi => by
    have h1 := h.le i (by omega)
    have h2 := h.dec i (by omega)
    refine ⟨?_, by omega⟩
    rcases Nat.eq_or_lt_of_le hi with h3 | h3
    · rw [h3, h.zero]; omega
    · have := h.pos (i + 1) h3; omega
/-- The sum of a row, the signs of which alternate. -/
def altS (T : Nat → Int) : Nat → Int
  | 0 => 0
  | k + 1 => if k % 2 = 0 then altS T k + T k else altS T k - T k
theorem altS_even {T : Nat → Int} {k : Nat} (h : k % 2 = 0) : altS T (k + 1) = altS T k + T k := by
  show (if k % 2 = 0 then altS T k + T k else altS T k - T k) = _
  rw [if_pos h]
theorem altS_odd {T : Nat → Int} {k : Nat} (h : k % 2 = 1) : altS T (k + 1) = altS T k - T k := by
  show (if k % 2 = 0 then altS T k + T k else altS T k - T k) = _
  rw [if_neg (by omega)]
/-- What the sum is behind k terms. -/
def Part (T : Nat → Int) (k : Nat) (x : Int) : Prop := (k % 2 = 0 → 0 ≤ x ∧ x ≤ T 0 - T k) ∧ (k % 2 = 1 → T k ≤ x ∧ x ≤ T 0) ∧ x = altS T k
theorem part_zero (T : Nat → Int) : Part T 0 0 := ⟨fun _ => ⟨Int.le_refl 0, by omega⟩, fun h => absurd h (by omega), rfl⟩
theorem part_even {T : Nat → Int} {N k : Nat} {x : Int} (hT : Terms T N) (hk : k < N) (he : k % 2 = 0) (h : Part T k x) : Part T (k + 1) (x + T k) ∧ Num.fit (x + T k) = x + T k := by
  have h1 := h.1 he
  have h2 := hT.dec k hk
  have h3 := hT.le k (by omega)
  have h4 := hT.fits
  have h5 := Num.P_pos 4096
  refine ⟨⟨fun h0 => absurd h0 (by omega), fun _ => by omega, by rw [altS_even he, ← h.2.2]⟩, Num.fit_of ?_⟩
  simp only [Num.fits, decide_eq_true_eq]
  omega
theorem part_odd {T : Nat → Int} {N k : Nat} {x : Int} (hT : Terms T N) (hk : k < N) (ho : k % 2 = 1) (h : Part T k x) : Part T (k + 1) (x - T k) ∧ Num.fit (x - T k) = x - T k := by
  have h1 := h.2.1 ho
  have h2 := hT.dec k hk
  have h3 := hT.le k (by omega)
  have h4 := hT.fits
  have h5 := Num.P_pos 4096
  refine ⟨⟨fun _ => by omega, fun h0 => absurd h0 (by omega), by rw [altS_odd ho, ← h.2.2]⟩, Num.fit_of ?_⟩
  simp only [Num.fits, decide_eq_true_eq]
  omega
theorem altS_part {T : Nat → Int} {N : Nat} (hT : Terms T N) : ∀ k, k ≤ N → Part T k (altS T k)
  | 0, _ => part_zero T
  | k + 1, h => by
    have h1 := altS_part hT k (by omega)
    rcases Nat.mod_two_eq_zero_or_one k with he | ho
    · rw [altS_even he]; exact (part_even hT (by omega) he h1).1
    · rw [altS_odd ho]; exact (part_odd hT (by omega) ho h1).1
theorem altS_bounds {T : Nat → Int} {N : Nat} (hT : Terms T N) : 0 ≤ altS T N ∧ altS T N ≤ T 0 := by
  have h1 := altS_part hT N (Nat.le_refl _)
  have h2 := hT.zero
  rcases Nat.mod_two_eq_zero_or_one N with hpar | hpar
  · have := h1.1 hpar; omega
  · have := h1.2.1 hpar; omega

/-- What the closure gives at its i-th call. -/
def NextPost (C : Nat → Prop) (x : Int) (I : World → Prop) (W : World) (e : Ending) (W' : World) : Prop :=
  ∃ neg A n cap, e = .returned (.agg #[.bool neg, .slice A n cap]) ∧ WD W' neg A n cap x ∧ I W' ∧ Keeps C W W'
/-- What 'sum' gives. -/
def SumPost (C : Nat → Prop) (T : Nat → Int) (N : Nat) (I : World → Prop) (w : World) (e : Ending) (W' : World) : Prop :=
  ∃ neg A n cap, e = .returned (.tuple #[.agg #[.bool neg, .slice A n cap], .int .i64 N]) ∧ WD W' neg A n cap (altS T N) ∧ I W' ∧ Keeps C w W'
/-- The closure's state is untouched by what 'sum' does. -/
structure Stable (n₀ : Nat) (I : Nat → World → Prop) : Prop where
  below : ∀ i W W', I i W → n₀ ≤ W.heap.size → Below W.heap.size W W' → I i W'
  set2 : ∀ i W b c D k l t u v, n₀ ≤ b → Blk W b #[.bool c, .slice D k l] t → I i W → I i ((W.setCell ⟨b, 0, none⟩ u).setCell ⟨b, 1, none⟩ v)

set_option maxRecDepth 100000 in
set_option maxHeartbeats 2000000 in
theorem sum2 (c1 c2 : Value) (C : Nat → Prop) (T : Nat → Int) (N : Nat) (I : Nat → World → Prop) (w : World) (hT : Terms T N) (hN : N ≤ 1099511627776) (hC : ∀ k, C k → k < w.heap.size) (hI : I 0 w) (hst : Stable w.heap.size I)
    (hnext : ∀ i W, i ≤ N → w.heap.size ≤ W.heap.size → I i W → Calls Tryz.prog 251 #[.int .i64 (i : Int), c1, c2] W (NextPost C (T i) (I (i + 1)) W)) :
    Calls Tryz.prog 250 #[.func (.func 251) #[] #[c1, c2]] w (SumPost C T N (I (N + 1)) w) := by
  have k2 := Blk.new w #[.bool false, .slice none 0 0] 92
  have hb0 := (Below.refl w.heap.size w).alloc (Nat.le_refl _) (.cells #[.bool false, .slice none 0 0] 92)
  have hI0 := hst.below 0 w _ hI (Nat.le_refl _) hb0
  have HT := Lib.hid hT
  have HSt := Lib.hid hst
  have HNext := Lib.hid hnext
  have HC := Lib.hid hC
  have K2 := Lib.hid k2
  have HB0 := Lib.hid hb0
  have HI0 := Lib.hid hI0
  clear k2 hb0 hI0 hT hst hnext hC hI
  go_enter Tryz.func250, Tryz.ntmps250
  go_wp2
  go_loopw [3, 4] (fun n i wr => ∃ (k : Nat) (neg : Bool) (A : Option Addr) (m c : Nat) (x : Int), k ≤ N ∧ n = .int .i64 k ∧ i = .int .i64 k ∧ I k wr ∧ Keeps C w wr ∧ Blk wr w.heap.size #[.bool neg, .slice A m c] 92 ∧ WD wr neg A m c x ∧ Part T k x) (fun _ i _ => N - (intOf i).toNat)
  case atStart => exact ⟨0, false, none, 0, 0, 0, Nat.zero_le _, rfl, rfl, HI0.out, Keeps.of_below HB0.out, K2.out, WD.zero _, part_zero T⟩
  case round =>
    obtain ⟨k, neg, A, m, c, x, hk, rfl, rfl, hIk, hkp, hblk, hwd, hpart⟩ := hrel
    have HIk := Lib.hid hIk
    have HKp := Lib.hid hkp
    have HBlk := Lib.hid hblk
    have HWd := Lib.hid hwd
    have HPart := Lib.hid hpart
    have hsz := hkp.size
    clear hIk hkp hblk hwd hpart
    by_cases hlt : k < N
    · have hpos := HT.out.pos k hlt
      have HCm : Hid (cmpZ (T k) 0 = 1) := Lib.hid (cmpZ_gt hpos)
      clear hpos
      rcases Nat.mod_two_eq_zero_or_one k with hpar | hpar
      · have hpi : (k : Int) % 2 = 0 := by omega
        have HPE := Lib.hid (part_even HT.out hlt hpar HPart.out)
        go_wp2_with (first
          | (go_at_call 251; refine (HNext.out k wr hk hsz HIk.out).mono ?_; rintro e w5 ⟨neg1, A1, n1, cap1, rfl, hwd1, hI1, hkp1⟩; have hs1 := hkp1.size; have hl5 : w.heap.size < w5.heap.size := Nat.lt_of_lt_of_le HBlk.out.lt hs1; have hbl5 := hkp1.blk HBlk.out (fun c => absurd (HC.out _ c) (by omega)); have hWa := hkp1.wd HWd.out; have HW1 := Lib.hid hwd1; have HI1 := Lib.hid hI1; have HK1 := Lib.hid (HKp.out.trans hkp1); have HB5 := Lib.hid hbl5; have HWa := Lib.hid hWa; clear hwd1 hI1 hkp1 hbl5 hWa)
          | (go_at_call 235; refine (tsign_calls _ neg1 A1 n1 cap1 (T k) (HW1.out.below ((Below.refl _ w5).alloc (Nat.le_refl _) _))).mono ?_; rw [HCm.out]; rintro e w6 ⟨rfl, hb6⟩; have hbel : Below w5.heap.size w5 w6 := ((Below.refl w5.heap.size w5).alloc (Nat.le_refl _) _).trans (hb6.mono (by simp)); have hres := HB5.out.below hbel; have htm := (Blk.new w5 #[.bool neg1, .slice A1 n1 cap1] 92).below hb6; have r20 := hres.c0; have r21 := hres.c1; have f20 := hres.fr 0; have f21 := hres.fr 1; have t0 := htm.c0; have t1 := htm.c1; have HRes := Lib.hid hres; have HWx := Lib.hid (HWa.out.below hbel); have HWt := Lib.hid (HW1.out.below hbel); have HI6 := Lib.hid (HSt.out.below (k + 1) w5 w6 HI1.out (Nat.le_of_lt hl5) hbel); have HK6 := Lib.hid (HK1.out.trans (Keeps.of_below hbel)); have hl6 := hbel.size; clear hbel hres htm hb6 HW1 HI1 HK1 HB5 HWa)
          | (go_at_call 232; refine (tadd_calls _ neg neg1 A A1 m n1 c cap1 x (T k) HWx.out HWt.out).mono ?_; rw [HPE.out.2]; rintro e w7 ⟨neg2, A2, n2, cap2, rfl, hwd7, hb7⟩; have hr7 := HRes.out.below hb7; have g0 := hr7.c0; have g1 := hr7.c1; have g2 := hr7.fr 0; have g3 := hr7.fr 1; have HR7 := Lib.hid hr7; have HW7 := Lib.hid hwd7; have HI7 := Lib.hid (HSt.out.below (k + 1) w6 w7 HI6.out (by omega) hb7); have HK7 := Lib.hid (HK6.out.trans (Keeps.of_below hb7)); clear hr7 hwd7 hb7 HRes HI6 HK6 HWx HWt)
          )
        go_roundw
        case rel => exact ⟨k + 1, neg2, A2, n2, cap2, x + T k, hlt, by go_num, by go_num, HSt.out.set2 (k + 1) w7 w.heap.size _ _ _ _ _ _ _ (Nat.le_refl _) HR7.out HI7.out, HK7.out.setNew HR7.out (Nat.le_refl _) _ _, HR7.out.set2 _ _, HW7.out.set2 HR7.out _ _, HPE.out.1⟩
        case measure => simp [intOf]; omega
      · have hpi : (k : Int) % 2 = 1 := by omega
        have HPE := Lib.hid (part_odd HT.out hlt hpar HPart.out)
        go_wp2_with (first
          | (go_at_call 251; refine (HNext.out k wr hk hsz HIk.out).mono ?_; rintro e w5 ⟨neg1, A1, n1, cap1, rfl, hwd1, hI1, hkp1⟩; have hs1 := hkp1.size; have hl5 : w.heap.size < w5.heap.size := Nat.lt_of_lt_of_le HBlk.out.lt hs1; have hbl5 := hkp1.blk HBlk.out (fun c => absurd (HC.out _ c) (by omega)); have hWa := hkp1.wd HWd.out; have HW1 := Lib.hid hwd1; have HI1 := Lib.hid hI1; have HK1 := Lib.hid (HKp.out.trans hkp1); have HB5 := Lib.hid hbl5; have HWa := Lib.hid hWa; clear hwd1 hI1 hkp1 hbl5 hWa)
          | (go_at_call 235; refine (tsign_calls _ neg1 A1 n1 cap1 (T k) (HW1.out.below ((Below.refl _ w5).alloc (Nat.le_refl _) _))).mono ?_; rw [HCm.out]; rintro e w6 ⟨rfl, hb6⟩; have hbel : Below w5.heap.size w5 w6 := ((Below.refl w5.heap.size w5).alloc (Nat.le_refl _) _).trans (hb6.mono (by simp)); have hres := HB5.out.below hbel; have htm := (Blk.new w5 #[.bool neg1, .slice A1 n1 cap1] 92).below hb6; have r20 := hres.c0; have r21 := hres.c1; have f20 := hres.fr 0; have f21 := hres.fr 1; have t0 := htm.c0; have t1 := htm.c1; have HRes := Lib.hid hres; have HWx := Lib.hid (HWa.out.below hbel); have HWt := Lib.hid (HW1.out.below hbel); have HI6 := Lib.hid (HSt.out.below (k + 1) w5 w6 HI1.out (Nat.le_of_lt hl5) hbel); have HK6 := Lib.hid (HK1.out.trans (Keeps.of_below hbel)); have hl6 := hbel.size; clear hbel hres htm hb6 HW1 HI1 HK1 HB5 HWa)
          | (go_at_call 233; refine (tsub_calls _ neg neg1 A A1 m n1 c cap1 x (T k) HWx.out HWt.out).mono ?_; rw [HPE.out.2]; rintro e w7 ⟨neg2, A2, n2, cap2, rfl, hwd7, hb7⟩; have hr7 := HRes.out.below hb7; have g0 := hr7.c0; have g1 := hr7.c1; have g2 := hr7.fr 0; have g3 := hr7.fr 1; have HR7 := Lib.hid hr7; have HW7 := Lib.hid hwd7; have HI7 := Lib.hid (HSt.out.below (k + 1) w6 w7 HI6.out (by omega) hb7); have HK7 := Lib.hid (HK6.out.trans (Keeps.of_below hb7)); clear hr7 hwd7 hb7 HRes HI6 HK6 HWx HWt)
          )
        go_roundw
        case rel => exact ⟨k + 1, neg2, A2, n2, cap2, x - T k, hlt, by go_num, by go_num, HSt.out.set2 (k + 1) w7 w.heap.size _ _ _ _ _ _ _ (Nat.le_refl _) HR7.out HI7.out, HK7.out.setNew HR7.out (Nat.le_refl _) _ _, HR7.out.set2 _ _, HW7.out.set2 HR7.out _ _, HPE.out.1⟩
        case measure => simp [intOf]; omega
    · obtain rfl : k = N := by omega
      have HCm : Hid (cmpZ (T k) 0 = 0) := Lib.hid (by rw [HT.out.zero]; rfl)
      have HX : Hid (x = altS T k) := Lib.hid HPart.out.2.2
      go_wp2_with (first
        | (go_at_call 251; refine (HNext.out k wr hk hsz HIk.out).mono ?_; rintro e w5 ⟨neg1, A1, n1, cap1, rfl, hwd1, hI1, hkp1⟩; have hs1 := hkp1.size; have hl5 : w.heap.size < w5.heap.size := Nat.lt_of_lt_of_le HBlk.out.lt hs1; have hbl5 := hkp1.blk HBlk.out (fun c => absurd (HC.out _ c) (by omega)); have hWa := hkp1.wd HWd.out; have HW1 := Lib.hid hwd1; have HI1 := Lib.hid hI1; have HK1 := Lib.hid (HKp.out.trans hkp1); have HB5 := Lib.hid hbl5; have HWa := Lib.hid hWa; clear hwd1 hI1 hkp1 hbl5 hWa)
        | (go_at_call 235; refine (tsign_calls _ neg1 A1 n1 cap1 (T k) (HW1.out.below ((Below.refl _ w5).alloc (Nat.le_refl _) _))).mono ?_; rw [HCm.out]; rintro e w6 ⟨rfl, hb6⟩; have hbel : Below w5.heap.size w5 w6 := ((Below.refl w5.heap.size w5).alloc (Nat.le_refl _) _).trans (hb6.mono (by simp)); have hres := HB5.out.below hbel; have htm := (Blk.new w5 #[.bool neg1, .slice A1 n1 cap1] 92).below hb6; have r20 := hres.c0; have r21 := hres.c1; have f20 := hres.fr 0; have f21 := hres.fr 1; have t0 := htm.c0; have t1 := htm.c1; have HRes := Lib.hid hres; have HWx := Lib.hid (HWa.out.below hbel); have HWt := Lib.hid (HW1.out.below hbel); have HI6 := Lib.hid (HSt.out.below (k + 1) w5 w6 HI1.out (Nat.le_of_lt hl5) hbel); have HK6 := Lib.hid (HK1.out.trans (Keeps.of_below hbel)); have hl6 := hbel.size; clear hbel hres htm hb6 HW1 HI1 HK1 HB5 HWa)
        )
      have h8 := HRes.out.set2 (.bool neg) (.slice A m c)
      have q0 := h8.c0
      have q1 := h8.c1
      clear r20 r21 f20 f21 t0 t1
      refine bodyPost_ret (v := .tuple #[.agg #[.bool neg, .slice A m c], .int .i64 k]) (by simp [results, Tryz.results250, go_sem, q0, q1]) rfl ?_
      exact ⟨neg, A, m, c, rfl, HX.out ▸ HWx.out.set2 HRes.out _ _, HSt.out.set2 (k + 1) w6 w.heap.size _ _ _ _ _ _ _ (Nat.le_refl _) HRes.out HI6.out, HK6.out.setNew HRes.out (Nat.le_refl _) _ _⟩

set_option maxRecDepth 100000 in
set_option maxHeartbeats 2000000 in
theorem sum4 (c1 c2 c3 c4 : Value) (C : Nat → Prop) (T : Nat → Int) (N : Nat) (I : Nat → World → Prop) (w : World) (hT : Terms T N) (hN : N ≤ 1099511627776) (hC : ∀ k, C k → k < w.heap.size) (hI : I 0 w) (hst : Stable w.heap.size I)
    (hnext : ∀ i W, i ≤ N → w.heap.size ≤ W.heap.size → I i W → Calls Tryz.prog 254 #[.int .i64 (i : Int), c1, c2, c3, c4] W (NextPost C (T i) (I (i + 1)) W)) :
    Calls Tryz.prog 250 #[.func (.func 254) #[] #[c1, c2, c3, c4]] w (SumPost C T N (I (N + 1)) w) := by
  have k2 := Blk.new w #[.bool false, .slice none 0 0] 92
  have hb0 := (Below.refl w.heap.size w).alloc (Nat.le_refl _) (.cells #[.bool false, .slice none 0 0] 92)
  have hI0 := hst.below 0 w _ hI (Nat.le_refl _) hb0
  have HT := Lib.hid hT
  have HSt := Lib.hid hst
  have HNext := Lib.hid hnext
  have HC := Lib.hid hC
  have K2 := Lib.hid k2
  have HB0 := Lib.hid hb0
  have HI0 := Lib.hid hI0
  clear k2 hb0 hI0 hT hst hnext hC hI
  go_enter Tryz.func250, Tryz.ntmps250
  go_wp2
  go_loopw [3, 4] (fun n i wr => ∃ (k : Nat) (neg : Bool) (A : Option Addr) (m c : Nat) (x : Int), k ≤ N ∧ n = .int .i64 k ∧ i = .int .i64 k ∧ I k wr ∧ Keeps C w wr ∧ Blk wr w.heap.size #[.bool neg, .slice A m c] 92 ∧ WD wr neg A m c x ∧ Part T k x) (fun _ i _ => N - (intOf i).toNat)
  case atStart => exact ⟨0, false, none, 0, 0, 0, Nat.zero_le _, rfl, rfl, HI0.out, Keeps.of_below HB0.out, K2.out, WD.zero _, part_zero T⟩
  case round =>
    obtain ⟨k, neg, A, m, c, x, hk, rfl, rfl, hIk, hkp, hblk, hwd, hpart⟩ := hrel
    have HIk := Lib.hid hIk
    have HKp := Lib.hid hkp
    have HBlk := Lib.hid hblk
    have HWd := Lib.hid hwd
    have HPart := Lib.hid hpart
    have hsz := hkp.size
    clear hIk hkp hblk hwd hpart
    by_cases hlt : k < N
    · have hpos := HT.out.pos k hlt
      have HCm : Hid (cmpZ (T k) 0 = 1) := Lib.hid (cmpZ_gt hpos)
      clear hpos
      rcases Nat.mod_two_eq_zero_or_one k with hpar | hpar
      · have hpi : (k : Int) % 2 = 0 := by omega
        have HPE := Lib.hid (part_even HT.out hlt hpar HPart.out)
        go_wp2_with (first
          | (go_at_call 254; refine (HNext.out k wr hk hsz HIk.out).mono ?_; rintro e w5 ⟨neg1, A1, n1, cap1, rfl, hwd1, hI1, hkp1⟩; have hs1 := hkp1.size; have hl5 : w.heap.size < w5.heap.size := Nat.lt_of_lt_of_le HBlk.out.lt hs1; have hbl5 := hkp1.blk HBlk.out (fun c => absurd (HC.out _ c) (by omega)); have hWa := hkp1.wd HWd.out; have HW1 := Lib.hid hwd1; have HI1 := Lib.hid hI1; have HK1 := Lib.hid (HKp.out.trans hkp1); have HB5 := Lib.hid hbl5; have HWa := Lib.hid hWa; clear hwd1 hI1 hkp1 hbl5 hWa)
          | (go_at_call 235; refine (tsign_calls _ neg1 A1 n1 cap1 (T k) (HW1.out.below ((Below.refl _ w5).alloc (Nat.le_refl _) _))).mono ?_; rw [HCm.out]; rintro e w6 ⟨rfl, hb6⟩; have hbel : Below w5.heap.size w5 w6 := ((Below.refl w5.heap.size w5).alloc (Nat.le_refl _) _).trans (hb6.mono (by simp)); have hres := HB5.out.below hbel; have htm := (Blk.new w5 #[.bool neg1, .slice A1 n1 cap1] 92).below hb6; have r20 := hres.c0; have r21 := hres.c1; have f20 := hres.fr 0; have f21 := hres.fr 1; have t0 := htm.c0; have t1 := htm.c1; have HRes := Lib.hid hres; have HWx := Lib.hid (HWa.out.below hbel); have HWt := Lib.hid (HW1.out.below hbel); have HI6 := Lib.hid (HSt.out.below (k + 1) w5 w6 HI1.out (Nat.le_of_lt hl5) hbel); have HK6 := Lib.hid (HK1.out.trans (Keeps.of_below hbel)); have hl6 := hbel.size; clear hbel hres htm hb6 HW1 HI1 HK1 HB5 HWa)
          | (go_at_call 232; refine (tadd_calls _ neg neg1 A A1 m n1 c cap1 x (T k) HWx.out HWt.out).mono ?_; rw [HPE.out.2]; rintro e w7 ⟨neg2, A2, n2, cap2, rfl, hwd7, hb7⟩; have hr7 := HRes.out.below hb7; have g0 := hr7.c0; have g1 := hr7.c1; have g2 := hr7.fr 0; have g3 := hr7.fr 1; have HR7 := Lib.hid hr7; have HW7 := Lib.hid hwd7; have HI7 := Lib.hid (HSt.out.below (k + 1) w6 w7 HI6.out (by omega) hb7); have HK7 := Lib.hid (HK6.out.trans (Keeps.of_below hb7)); clear hr7 hwd7 hb7 HRes HI6 HK6 HWx HWt)
          )
        go_roundw
        case rel => exact ⟨k + 1, neg2, A2, n2, cap2, x + T k, hlt, by go_num, by go_num, HSt.out.set2 (k + 1) w7 w.heap.size _ _ _ _ _ _ _ (Nat.le_refl _) HR7.out HI7.out, HK7.out.setNew HR7.out (Nat.le_refl _) _ _, HR7.out.set2 _ _, HW7.out.set2 HR7.out _ _, HPE.out.1⟩
        case measure => simp [intOf]; omega
      · have hpi : (k : Int) % 2 = 1 := by omega
        have HPE := Lib.hid (part_odd HT.out hlt hpar HPart.out)
        go_wp2_with (first
          | (go_at_call 254; refine (HNext.out k wr hk hsz HIk.out).mono ?_; rintro e w5 ⟨neg1, A1, n1, cap1, rfl, hwd1, hI1, hkp1⟩; have hs1 := hkp1.size; have hl5 : w.heap.size < w5.heap.size := Nat.lt_of_lt_of_le HBlk.out.lt hs1; have hbl5 := hkp1.blk HBlk.out (fun c => absurd (HC.out _ c) (by omega)); have hWa := hkp1.wd HWd.out; have HW1 := Lib.hid hwd1; have HI1 := Lib.hid hI1; have HK1 := Lib.hid (HKp.out.trans hkp1); have HB5 := Lib.hid hbl5; have HWa := Lib.hid hWa; clear hwd1 hI1 hkp1 hbl5 hWa)
          | (go_at_call 235; refine (tsign_calls _ neg1 A1 n1 cap1 (T k) (HW1.out.below ((Below.refl _ w5).alloc (Nat.le_refl _) _))).mono ?_; rw [HCm.out]; rintro e w6 ⟨rfl, hb6⟩; have hbel : Below w5.heap.size w5 w6 := ((Below.refl w5.heap.size w5).alloc (Nat.le_refl _) _).trans (hb6.mono (by simp)); have hres := HB5.out.below hbel; have htm := (Blk.new w5 #[.bool neg1, .slice A1 n1 cap1] 92).below hb6; have r20 := hres.c0; have r21 := hres.c1; have f20 := hres.fr 0; have f21 := hres.fr 1; have t0 := htm.c0; have t1 := htm.c1; have HRes := Lib.hid hres; have HWx := Lib.hid (HWa.out.below hbel); have HWt := Lib.hid (HW1.out.below hbel); have HI6 := Lib.hid (HSt.out.below (k + 1) w5 w6 HI1.out (Nat.le_of_lt hl5) hbel); have HK6 := Lib.hid (HK1.out.trans (Keeps.of_below hbel)); have hl6 := hbel.size; clear hbel hres htm hb6 HW1 HI1 HK1 HB5 HWa)
          | (go_at_call 233; refine (tsub_calls _ neg neg1 A A1 m n1 c cap1 x (T k) HWx.out HWt.out).mono ?_; rw [HPE.out.2]; rintro e w7 ⟨neg2, A2, n2, cap2, rfl, hwd7, hb7⟩; have hr7 := HRes.out.below hb7; have g0 := hr7.c0; have g1 := hr7.c1; have g2 := hr7.fr 0; have g3 := hr7.fr 1; have HR7 := Lib.hid hr7; have HW7 := Lib.hid hwd7; have HI7 := Lib.hid (HSt.out.below (k + 1) w6 w7 HI6.out (by omega) hb7); have HK7 := Lib.hid (HK6.out.trans (Keeps.of_below hb7)); clear hr7 hwd7 hb7 HRes HI6 HK6 HWx HWt)
          )
        go_roundw
        case rel => exact ⟨k + 1, neg2, A2, n2, cap2, x - T k, hlt, by go_num, by go_num, HSt.out.set2 (k + 1) w7 w.heap.size _ _ _ _ _ _ _ (Nat.le_refl _) HR7.out HI7.out, HK7.out.setNew HR7.out (Nat.le_refl _) _ _, HR7.out.set2 _ _, HW7.out.set2 HR7.out _ _, HPE.out.1⟩
        case measure => simp [intOf]; omega
    · obtain rfl : k = N := by omega
      have HCm : Hid (cmpZ (T k) 0 = 0) := Lib.hid (by rw [HT.out.zero]; rfl)
      have HX : Hid (x = altS T k) := Lib.hid HPart.out.2.2
      go_wp2_with (first
        | (go_at_call 254; refine (HNext.out k wr hk hsz HIk.out).mono ?_; rintro e w5 ⟨neg1, A1, n1, cap1, rfl, hwd1, hI1, hkp1⟩; have hs1 := hkp1.size; have hl5 : w.heap.size < w5.heap.size := Nat.lt_of_lt_of_le HBlk.out.lt hs1; have hbl5 := hkp1.blk HBlk.out (fun c => absurd (HC.out _ c) (by omega)); have hWa := hkp1.wd HWd.out; have HW1 := Lib.hid hwd1; have HI1 := Lib.hid hI1; have HK1 := Lib.hid (HKp.out.trans hkp1); have HB5 := Lib.hid hbl5; have HWa := Lib.hid hWa; clear hwd1 hI1 hkp1 hbl5 hWa)
        | (go_at_call 235; refine (tsign_calls _ neg1 A1 n1 cap1 (T k) (HW1.out.below ((Below.refl _ w5).alloc (Nat.le_refl _) _))).mono ?_; rw [HCm.out]; rintro e w6 ⟨rfl, hb6⟩; have hbel : Below w5.heap.size w5 w6 := ((Below.refl w5.heap.size w5).alloc (Nat.le_refl _) _).trans (hb6.mono (by simp)); have hres := HB5.out.below hbel; have htm := (Blk.new w5 #[.bool neg1, .slice A1 n1 cap1] 92).below hb6; have r20 := hres.c0; have r21 := hres.c1; have f20 := hres.fr 0; have f21 := hres.fr 1; have t0 := htm.c0; have t1 := htm.c1; have HRes := Lib.hid hres; have HWx := Lib.hid (HWa.out.below hbel); have HWt := Lib.hid (HW1.out.below hbel); have HI6 := Lib.hid (HSt.out.below (k + 1) w5 w6 HI1.out (Nat.le_of_lt hl5) hbel); have HK6 := Lib.hid (HK1.out.trans (Keeps.of_below hbel)); have hl6 := hbel.size; clear hbel hres htm hb6 HW1 HI1 HK1 HB5 HWa)
        )
      have h8 := HRes.out.set2 (.bool neg) (.slice A m c)
      have q0 := h8.c0
      have q1 := h8.c1
      clear r20 r21 f20 f21 t0 t1
      refine bodyPost_ret (v := .tuple #[.agg #[.bool neg, .slice A m c], .int .i64 k]) (by simp [results, Tryz.results250, go_sem, q0, q1]) rfl ?_
      exact ⟨neg, A, m, c, rfl, HX.out ▸ HWx.out.set2 HRes.out _ _, HSt.out.set2 (k + 1) w6 w.heap.size _ _ _ _ _ _ _ (Nat.le_refl _) HRes.out HI6.out, HK6.out.setNew HRes.out (Nat.le_refl _) _ _⟩

end Go.Proofs.YtilaheplclaokaaGreatDoor
namespace Go.Proofs.YtilaheplclaokaaGreatDoor
open Go.RowKit Go.Shelf
attribute [local go_sem] Oper.semAt_some

theorem wrap_i64 (x : Int) (h0 : -9223372036854775808 ≤ x) (h1 : x < 9223372036854775808) : IntKind.i64.wrap x = x := by
  unfold IntKind.wrap
  simp only [IntKind.bits, IntKind.signed]
  simp
  split <;> omega

theorem region_start {P : Program} {ops : Array Oper} {S : World → Prop} {Q : Exit → Act → World → Prop} {id : Nat} {a : Act} {w : World} (hm : P.follows .mixedOrders = true)
    (h : ∀ W, W = w.drew → wpAnyH P .any ops Q S ops.size (Array.replicate ops.size false) a W) : (Code.region id ops true).wp P Q a w := wp_region_held hm (h _ rfl)

/-! Cuts behind a region that makes a variable and lays a number into it: so many calls. -/
theorem cutVar1 {P : Program} {c : Code} {K : Act → World → Prop} {Q : Exit → Act → World → Prop} {a : Act} {w : World} {F : Nat → Bool → Option Addr → Nat → Nat → World → Prop} (f : Nat → Bool → Option Addr → Nat → Nat → Act)
    (main : (∀ b n0 A0 k0 c0 W, F b n0 A0 k0 c0 W → K (f b n0 A0 k0 c0) W) → c.wp P (Exit.then K Q) a w) (key : ∀ b n0 A0 k0 c0 W, F b n0 A0 k0 c0 W → K (f b n0 A0 k0 c0) W) : c.wp P (Exit.then K Q) a w := main key
theorem cutVar2 {P : Program} {c : Code} {K : Act → World → Prop} {Q : Exit → Act → World → Prop} {a : Act} {w : World} {F : Nat → Bool → Option Addr → Nat → Nat → World → Prop} (f : Nat → Bool → Option Addr → Nat → Nat → Bool → Option Addr → Nat → Nat → Act)
    (main : (∀ b n0 A0 k0 c0 n1 A1 k1 c1 W, F b n1 A1 k1 c1 W → K (f b n0 A0 k0 c0 n1 A1 k1 c1) W) → c.wp P (Exit.then K Q) a w) (key : ∀ b n0 A0 k0 c0 n1 A1 k1 c1 W, F b n1 A1 k1 c1 W → K (f b n0 A0 k0 c0 n1 A1 k1 c1) W) : c.wp P (Exit.then K Q) a w := main key
theorem cutVar4 {P : Program} {c : Code} {K : Act → World → Prop} {Q : Exit → Act → World → Prop} {a : Act} {w : World} {F : Nat → Bool → Option Addr → Nat → Nat → World → Prop} (f : Nat → Bool → Option Addr → Nat → Nat → Bool → Option Addr → Nat → Nat → Bool → Option Addr → Nat → Nat → Bool → Option Addr → Nat → Nat → Act)
    (main : (∀ b n0 A0 k0 c0 n1 A1 k1 c1 n2 A2 k2 c2 n3 A3 k3 c3 W, F b n3 A3 k3 c3 W → K (f b n0 A0 k0 c0 n1 A1 k1 c1 n2 A2 k2 c2 n3 A3 k3 c3) W) → c.wp P (Exit.then K Q) a w) (key : ∀ b n0 A0 k0 c0 n1 A1 k1 c1 n2 A2 k2 c2 n3 A3 k3 c3 W, F b n3 A3 k3 c3 W → K (f b n0 A0 k0 c0 n1 A1 k1 c1 n2 A2 k2 c2 n3 A3 k3 c3) W) : c.wp P (Exit.then K Q) a w := main key

theorem Blk.c {W : World} {b : Nat} {u : Value} {t : TypeId} (h : Blk W b #[u] t) : W.cell? ⟨b, 0, none⟩ = some u := h.at 0
/-- The closure's state: the variable t, and n. -/
def AtanI (bt bn : Nat) (d x : Int) (W : World) : Prop := ∃ neg A n cap, Blk W bt #[.bool neg, .slice A n cap] 92 ∧ Blk W bn #[.int .i64 d] 2 ∧ WD W neg A n cap x

set_option maxRecDepth 100000 in
set_option maxHeartbeats 1000000 in
theorem atan_next (w : World) (bt bn : Nat) (neg : Bool) (A : Option Addr) (n cap : Nat) (x d : Int) (i : Nat) (hne : bt ≠ bn) (hbt : Blk w bt #[.bool neg, .slice A n cap] 92) (hbn : Blk w bn #[.int .i64 d] 2) (hx : WD w neg A n cap x) (hd : 0 < d) (hd1 : d ≤ 1000) (hi : i ≤ 1099511627776) :
    Calls Tryz.prog 251 #[.int .i64 (i : Int), .pointer (some ⟨bt, 0, none⟩), .pointer (some ⟨bn, 0, none⟩)] w (NextPost (fun k => k = bt) (x / (2 * (i : Int) + 1)) (AtanI bt bn d (x / (d * d))) w) := by
  have k4 := Blk.new w #[.bool false, .slice none 0 0] 92
  have hb0 := (Below.refl w.heap.size w).alloc (Nat.le_refl _) (.cells #[.bool false, .slice none 0 0] 92)
  have st := hbt.below hb0
  have sn := hbn.below hb0
  have hx1 := hx.below hb0
  have K4 := Lib.hid k4
  have HB0 := Lib.hid hb0
  have ST := Lib.hid st
  have SN := Lib.hid sn
  have HX := Lib.hid hx1
  have hlt := hbt.lt
  have hln := hbn.lt
  have hw1 : IntKind.i64.wrap (2 * (i : Int)) = 2 * (i : Int) := wrap_i64 _ (by omega) (by omega)
  have hw2 : IntKind.i64.wrap (2 * (i : Int) + 1) = 2 * (i : Int) + 1 := wrap_i64 _ (by omega) (by omega)
  clear k4 hb0 st sn hx1 hbt hbn hx
  go_enter Tryz.func251, Tryz.ntmps251
  go_wp2
  apply cutVar2 (F := fun b5 neg5 A5 n5 cap5 W => WD W neg5 A5 n5 cap5 (x / (2 * (i : Int) + 1)) ∧ w.heap.size < b5 ∧ Blk W b5 #[.bool neg5, .slice A5 n5 cap5] 92 ∧ Blk W w.heap.size #[.bool false, .slice none 0 0] 92 ∧ Blk W bt #[.bool neg, .slice A n cap] 92 ∧ Blk W bn #[.int .i64 d] 2 ∧ WD W neg A n cap x ∧ Below w.heap.size w W)
  · intro key
    refine region_start (S := fun W' => Blk W' bt #[.bool neg, .slice A n cap] 92) (by kernel_rfl) ?_
    intro W hW
    have h4 : Blk W w.heap.size #[.bool false, .slice none 0 0] 92 := by rw [hW]; exact K4.out
    have st : Blk W bt #[.bool neg, .slice A n cap] 92 := by rw [hW]; exact ST.out
    have sn : Blk W bn #[.int .i64 d] 2 := by rw [hW]; exact SN.out
    have hx : WD W neg A n cap x := by rw [hW]; exact HX.out
    have hbel : Below w.heap.size w W := by rw [hW]; exact below_drewN HB0.out 1
    obtain ⟨B, hBe⟩ : ∃ B, B = W.heap.size := ⟨_, rfl⟩
    have hB : B ≤ W.heap.size := Nat.le_of_eq hBe
    have hBw : w.heap.size < B := by rw [hBe]; exact h4.lt
    clear hBe hW
    have hS := st
    refine wpAnyH_take (i := 0) (v := .agg #[.bool neg, .slice A n cap]) rfl (by kernel_rfl) (by kernel_rfl) (by kernel_rfl) (fun _ _ _ h => h) (.inl ⟨rfl, fun w0 hw0 => ?a0⟩) hS ?_
    case a0 =>
      have e0 := hw0.c0; have e1 := hw0.c1
      go_simp
    refine wpAnyH_take (i := 1) (v := .int .i64 (i : Int)) rfl (by kernel_rfl) (by kernel_rfl) (by kernel_rfl) (fun _ _ _ h => h) (.inl ⟨rfl, fun w0 hw0 => ?a1⟩) hS ?_
    case a1 =>
      have e0 := hw0.c0; have e1 := hw0.c1
      go_simp
    refine wpAnyH_take (i := 2) (v := .int .i64 (2 * (i : Int))) rfl (by kernel_rfl) (by kernel_rfl) (by kernel_rfl) (fun _ _ _ h => h) (.inl ⟨rfl, fun w0 hw0 => ?a2⟩) hS ?_
    case a2 =>
      have e0 := hw0.c0; have e1 := hw0.c1
      go_simp
    refine wpAnyH_take (i := 3) (v := .int .i64 (2 * (i : Int) + 1)) rfl (by kernel_rfl) (by kernel_rfl) (by kernel_rfl) (fun _ _ _ h => h) (.inl ⟨rfl, fun w0 hw0 => ?a3⟩) hS ?_
    case a3 =>
      have e0 := hw0.c0; have e1 := hw0.c1
      go_simp
    clear hS
    refine wpAnyH_all (rs := [4, 6]) (by kernel_rfl) (by simp) ?_
    intro i0 hi0
    have hi1 : i0 = 4 ∨ i0 = 6 := by simpa using hi0
    clear hi0
    rcases hi1 with rfl | rfl
    · refine wpOp_plain rfl rfl fun K' hK' => ?_
      go_simp
      refine (num_calls _ (2 * (i : Int) + 1) (by omega) (by omega)).mono ?_
      rintro e W ⟨na, Aa, ka, ca, rfl, hna, hstep⟩
      have h4 := h4.below hstep
      have st := st.below hstep
      have sn := sn.below hstep
      have hx := hx.below hstep
      have hbel := hbel.trans (hstep.mono hbel.size)
      have hB := Nat.le_trans hB hstep.size
      refine hK' _ _ ⟨st, ?_⟩
      clear hK' K' hstep
      refine wpAnyH_all (rs := [5, 6]) (by kernel_rfl) (by simp) ?_
      intro i0 hi0
      have hi1 : i0 = 5 ∨ i0 = 6 := by simpa using hi0
      clear hi0
      rcases hi1 with rfl | rfl
      · refine wpOp_plain rfl rfl fun K' hK' => ?_
        go_simp
        refine (tdiv_calls _ neg na A Aa n ka cap ca x (2 * (i : Int) + 1) hx hna (by omega)).mono ?_
        rintro e W ⟨nb, Ab, kb, cb, rfl, hnb, hstep⟩
        have h4 := h4.below hstep
        have st := st.below hstep
        have sn := sn.below hstep
        have hx := hx.below hstep
        have hna := hna.below hstep
        have hbel := hbel.trans (hstep.mono hbel.size)
        have hB := Nat.le_trans hB hstep.size
        refine hK' _ _ ⟨st, ?_⟩
        clear hK' K' hstep
        refine wpAnyH_all (rs := [6]) (by kernel_rfl) (by simp) ?_
        intro i0 hi0
        obtain rfl : i0 = 6 := by simpa using hi0
        refine wpOp_plain rfl rfl fun K' hK' => ?_
        go_simp
        have hal := (Below.refl W.heap.size W).alloc (Nat.le_refl _) (.cells #[.bool false, .slice none 0 0] 92)
        have h5 := Blk.new W #[.bool false, .slice none 0 0] 92
        obtain ⟨b5, hb5⟩ : ∃ b5, b5 = W.heap.size := ⟨_, rfl⟩
        rw [← hb5] at h5 ⊢
        have hb5B : B ≤ b5 := by omega
        have h4 := h4.below hal
        have st := st.below hal
        have sn := sn.below hal
        have hx := hx.below hal
        have hna := hna.below hal
        have hnb := hnb.below hal
        have hbel := hbel.trans (hal.mono hbel.size)
        have hB := Nat.le_trans hB hal.size
        clear hb5 hal
        generalize W.alloc (.cells #[.bool false, .slice none 0 0] 92) = W at *
        refine hK' _ _ ⟨st, ?_⟩
        clear hK' K'
        have f0 := h5.c0
        have f1 := h5.c1
        have f2 := h5.fr 0
        have f3 := h5.fr 1
        refine wpAnyH_all (rs := [7]) (by kernel_rfl) (by simp) ?_
        intro i0 hi0
        obtain rfl : i0 = 7 := by simpa using hi0
        refine wpOp_plain rfl rfl fun K' hK' => ?_
        go_simp
        exact hK' _ _ ⟨st.far2 _ _ _ (by omega), wpAnyH_done (by kernel_rfl) (key b5 na Aa ka ca nb Ab kb cb _ ⟨hnb.set2 h5 _ _, by omega, h5.set2 _ _, h4.far2 _ _ _ (by omega), st.far2 _ _ _ (by omega), sn.far2 _ _ _ (by omega), hx.set2 h5 _ _, below_set2 hbel b5 (by omega) _ _⟩) _⟩
      · refine wpOp_plain rfl rfl fun K' hK' => ?_
        go_simp
        have hal := (Below.refl W.heap.size W).alloc (Nat.le_refl _) (.cells #[.bool false, .slice none 0 0] 92)
        have h5 := Blk.new W #[.bool false, .slice none 0 0] 92
        obtain ⟨b5, hb5⟩ : ∃ b5, b5 = W.heap.size := ⟨_, rfl⟩
        rw [← hb5] at h5 ⊢
        have hb5B : B ≤ b5 := by omega
        have h4 := h4.below hal
        have st := st.below hal
        have sn := sn.below hal
        have hx := hx.below hal
        have hna := hna.below hal
        have hbel := hbel.trans (hal.mono hbel.size)
        have hB := Nat.le_trans hB hal.size
        clear hb5 hal
        generalize W.alloc (.cells #[.bool false, .slice none 0 0] 92) = W at *
        refine hK' _ _ ⟨st, ?_⟩
        clear hK' K'
        refine wpAnyH_all (rs := [5]) (by kernel_rfl) (by simp) ?_
        intro i0 hi0
        obtain rfl : i0 = 5 := by simpa using hi0
        refine wpOp_plain rfl rfl fun K' hK' => ?_
        go_simp
        refine (tdiv_calls _ neg na A Aa n ka cap ca x (2 * (i : Int) + 1) hx hna (by omega)).mono ?_
        rintro e W ⟨nb, Ab, kb, cb, rfl, hnb, hstep⟩
        have h4 := h4.below hstep
        have st := st.below hstep
        have sn := sn.below hstep
        have hx := hx.below hstep
        have hna := hna.below hstep
        have h5 := h5.below hstep
        have hbel := hbel.trans (hstep.mono hbel.size)
        have hB := Nat.le_trans hB hstep.size
        refine hK' _ _ ⟨st, ?_⟩
        clear hK' K' hstep
        have f0 := h5.c0
        have f1 := h5.c1
        have f2 := h5.fr 0
        have f3 := h5.fr 1
        refine wpAnyH_all (rs := [7]) (by kernel_rfl) (by simp) ?_
        intro i0 hi0
        obtain rfl : i0 = 7 := by simpa using hi0
        refine wpOp_plain rfl rfl fun K' hK' => ?_
        go_simp
        exact hK' _ _ ⟨st.far2 _ _ _ (by omega), wpAnyH_done (by kernel_rfl) (key b5 na Aa ka ca nb Ab kb cb _ ⟨hnb.set2 h5 _ _, by omega, h5.set2 _ _, h4.far2 _ _ _ (by omega), st.far2 _ _ _ (by omega), sn.far2 _ _ _ (by omega), hx.set2 h5 _ _, below_set2 hbel b5 (by omega) _ _⟩) _⟩
    · refine wpOp_plain rfl rfl fun K' hK' => ?_
      go_simp
      have hal := (Below.refl W.heap.size W).alloc (Nat.le_refl _) (.cells #[.bool false, .slice none 0 0] 92)
      have h5 := Blk.new W #[.bool false, .slice none 0 0] 92
      obtain ⟨b5, hb5⟩ : ∃ b5, b5 = W.heap.size := ⟨_, rfl⟩
      rw [← hb5] at h5 ⊢
      have hb5B : B ≤ b5 := by omega
      have h4 := h4.below hal
      have st := st.below hal
      have sn := sn.below hal
      have hx := hx.below hal
      have hbel := hbel.trans (hal.mono hbel.size)
      have hB := Nat.le_trans hB hal.size
      clear hb5 hal
      generalize W.alloc (.cells #[.bool false, .slice none 0 0] 92) = W at *
      refine hK' _ _ ⟨st, ?_⟩
      clear hK' K'
      refine wpAnyH_all (rs := [4]) (by kernel_rfl) (by simp) ?_
      intro i0 hi0
      obtain rfl : i0 = 4 := by simpa using hi0
      refine wpOp_plain rfl rfl fun K' hK' => ?_
      go_simp
      refine (num_calls _ (2 * (i : Int) + 1) (by omega) (by omega)).mono ?_
      rintro e W ⟨na, Aa, ka, ca, rfl, hna, hstep⟩
      have h4 := h4.below hstep
      have st := st.below hstep
      have sn := sn.below hstep
      have hx := hx.below hstep
      have h5 := h5.below hstep
      have hbel := hbel.trans (hstep.mono hbel.size)
      have hB := Nat.le_trans hB hstep.size
      refine hK' _ _ ⟨st, ?_⟩
      clear hK' K' hstep
      refine wpAnyH_all (rs := [5]) (by kernel_rfl) (by simp) ?_
      intro i0 hi0
      obtain rfl : i0 = 5 := by simpa using hi0
      refine wpOp_plain rfl rfl fun K' hK' => ?_
      go_simp
      refine (tdiv_calls _ neg na A Aa n ka cap ca x (2 * (i : Int) + 1) hx hna (by omega)).mono ?_
      rintro e W ⟨nb, Ab, kb, cb, rfl, hnb, hstep⟩
      have h4 := h4.below hstep
      have st := st.below hstep
      have sn := sn.below hstep
      have hx := hx.below hstep
      have h5 := h5.below hstep
      have hna := hna.below hstep
      have hbel := hbel.trans (hstep.mono hbel.size)
      have hB := Nat.le_trans hB hstep.size
      refine hK' _ _ ⟨st, ?_⟩
      clear hK' K' hstep
      have f0 := h5.c0
      have f1 := h5.c1
      have f2 := h5.fr 0
      have f3 := h5.fr 1
      refine wpAnyH_all (rs := [7]) (by kernel_rfl) (by simp) ?_
      intro i0 hi0
      obtain rfl : i0 = 7 := by simpa using hi0
      refine wpOp_plain rfl rfl fun K' hK' => ?_
      go_simp
      exact hK' _ _ ⟨st.far2 _ _ _ (by omega), wpAnyH_done (by kernel_rfl) (key b5 na Aa ka ca nb Ab kb cb _ ⟨hnb.set2 h5 _ _, by omega, h5.set2 _ _, h4.far2 _ _ _ (by omega), st.far2 _ _ _ (by omega), sn.far2 _ _ _ (by omega), hx.set2 h5 _ _, below_set2 hbel b5 (by omega) _ _⟩) _⟩
  · rintro b5 na Aa ka ca nb Ab kb cb W ⟨hwb, hb5, h5, h4, st, sn, hx, hbel⟩
    have hkp : Keeps (fun k => k = bt) w W := Keeps.of_below hbel
    have hb5l := h5.lt
    have hdd : 0 < d * d := Int.mul_pos hd hd
    have hdl : d * d ≤ 1000000 := by have := Int.mul_le_mul hd1 hd1 (by omega) (by omega); omega
    have hw3 : IntKind.i64.wrap (d * d) = d * d := wrap_i64 _ (by omega) (by omega)
    have H5 := Lib.hid h5
    have H4 := Lib.hid h4
    have St := Lib.hid st
    have Sn := Lib.hid sn
    have Hx := Lib.hid hx
    have Hwb := Lib.hid hwb
    have Hkp := Lib.hid hkp
    clear h5 h4 st sn hx hwb hkp hbel K4 HB0 ST SN HX
    go_wp2
    obtain ⟨V, hV⟩ : ∃ V, V = W := ⟨_, rfl⟩
    rw [← hV] at H5 H4 St Sn Hx Hwb Hkp hb5l ⊢
    clear hV
    clear W
    refine region_start (S := fun W' => Blk W' bn #[.int .i64 d] 2) (by kernel_rfl) ?_
    intro W hW
    have h5 : Blk W b5 #[.bool nb, .slice Ab kb cb] 92 := by rw [hW]; exact H5.out
    have h4 : Blk W w.heap.size #[.bool false, .slice none 0 0] 92 := by rw [hW]; exact H4.out
    have st : Blk W bt #[.bool neg, .slice A n cap] 92 := by rw [hW]; exact St.out
    have hS : Blk W bn #[.int .i64 d] 2 := by rw [hW]; exact Sn.out
    have hx : WD W neg A n cap x := by rw [hW]; exact Hx.out
    have hwb : WD W nb Ab kb cb (x / (2 * (i : Int) + 1)) := by rw [hW]; exact Hwb.out
    have hkp : Keeps (fun k => k = bt) w W := by rw [hW]; exact Hkp.out.trans (Keeps.of_below (below_drewN (Below.refl _ _) 1))
    have hB : w.heap.size < W.heap.size := h4.lt
    clear hW H5 H4 St Sn Hx Hwb Hkp hb5l
    refine wpAnyH_take (i := 1) (v := .int .i64 d) rfl (by kernel_rfl) (by kernel_rfl) (by kernel_rfl) (fun _ _ _ h => h) (.inl ⟨rfl, fun w0 hw0 => ?a1⟩) hS ?_
    case a1 =>
      have e2 := hw0.c
      go_simp
    refine wpAnyH_take (i := 2) (v := .int .i64 d) rfl (by kernel_rfl) (by kernel_rfl) (by kernel_rfl) (fun _ _ _ h => h) (.inl ⟨rfl, fun w0 hw0 => ?a2⟩) hS ?_
    case a2 =>
      have e2 := hw0.c
      go_simp
    refine wpAnyH_take (i := 3) (v := .int .i64 (d * d)) rfl (by kernel_rfl) (by kernel_rfl) (by kernel_rfl) (fun _ _ _ h => h) (.inl ⟨rfl, fun w0 hw0 => ?a3⟩) hS ?_
    case a3 =>
      have e2 := hw0.c
      go_simp
    refine wpAnyH_all (rs := [0, 4]) (by kernel_rfl) (by simp) ?_
    intro i0 hi0
    have hi1 : i0 = 0 ∨ i0 = 4 := by simpa using hi0
    clear hi0
    rcases hi1 with rfl | rfl
    · refine wpOp_plain rfl rfl fun K' hK' => ?_
      have e0 := st.c0
      have e1 := st.c1
      go_simp
      clear e0 e1
      refine hK' _ _ ⟨hS, ?_⟩
      clear hK' K'
      refine wpAnyH_all (rs := [4]) (by kernel_rfl) (by simp) ?_
      intro i0 hi0
      obtain rfl : i0 = 4 := by simpa using hi0
      refine wpOp_plain rfl rfl fun K' hK' => ?_
      go_simp
      refine (num_calls _ (d * d) (by omega) (by omega)).mono ?_
      rintro e W2 ⟨nc, Ac, kc, cc, rfl, hwc, hb2⟩
      have hS := hS.below hb2
      have st := st.below hb2
      have h5 := h5.below hb2
      have h4 := h4.below hb2
      have hx := hx.below hb2
      have hwb := hwb.below hb2
      have hkp := hkp.trans (Keeps.of_below hb2)
      refine hK' _ _ ⟨hS, ?_⟩
      clear hK' K'
      refine wpAnyH_all (rs := [5]) (by kernel_rfl) (by simp) ?_
      intro i0 hi0
      obtain rfl : i0 = 5 := by simpa using hi0
      refine wpOp_plain rfl rfl fun K' hK' => ?_
      go_simp
      refine (tdiv_calls _ neg nc A Ac n kc cap cc x (d * d) hx hwc hdd).mono ?_
      rintro e W3 ⟨nd, Ad, kd, cd, rfl, hwd, hb3⟩
      have hS := hS.below hb3
      have st := st.below hb3
      have h5 := h5.below hb3
      have h4 := h4.below hb3
      have hwb := hwb.below hb3
      have hkp := hkp.trans (Keeps.of_below hb3)
      refine hK' _ _ ⟨hS, ?_⟩
      clear hK' K'
      have f0 := st.c0
      have f1 := st.c1
      have f2 := st.fr 0
      have f3 := st.fr 1
      refine wpAnyH_all (rs := [6]) (by kernel_rfl) (by simp) ?_
      intro i0 hi0
      obtain rfl : i0 = 6 := by simpa using hi0
      refine wpOp_plain rfl rfl fun K' hK' => ?_
      go_simp
      have hwd := hwd.set2 st (.bool nd) (.slice Ad kd cd)
      have hwb := hwb.set2 st (.bool nd) (.slice Ad kd cd)
      have h5 := h5.far2 bt (.bool nd) (.slice Ad kd cd) (by omega)
      have h4 := h4.far2 bt (.bool nd) (.slice Ad kd cd) (by omega)
      have hS := hS.far2 bt (.bool nd) (.slice Ad kd cd) (by omega)
      have hkp := hkp.trans (Keeps.set2 (C := fun k => k = bt) st rfl (.bool nd) (.slice Ad kd cd))
      have st := st.set2 (.bool nd) (.slice Ad kd cd)
      clear f0 f1 f2 f3
      generalize (W3.setCell ⟨bt, 0, none⟩ (.bool nd)).setCell ⟨bt, 1, none⟩ (.slice Ad kd cd) = W4 at *
      refine hK' _ _ ⟨hS, wpAnyH_done (by kernel_rfl) ?_ _⟩
      clear hK' K'
      have c0 := h5.c0
      have c1 := h5.c1
      have f0 := h4.c0
      have f1 := h4.c1
      have f2 := h4.fr 0
      have f3 := h4.fr 1
      have H4 := Lib.hid h4
      have Hwd := Lib.hid hwd
      have Hwb := Lib.hid hwb
      have Sn := Lib.hid hS
      have St := Lib.hid st
      have Hkp := Lib.hid hkp
      clear h5 h4 hwd hwb hS st hkp
      go_wp2
      have h8 := H4.out.set2 (.bool nb) (.slice Ab kb cb)
      have r0 := h8.c0
      have r1 := h8.c1
      clear c0 c1 f0 f1 f2 f3
      refine bodyPost_ret (v := .agg #[.bool nb, .slice Ab kb cb]) (by simp [results, Tryz.results251, go_sem, r0, r1]) rfl ?_
      exact ⟨nb, Ab, kb, cb, rfl, Hwb.out.set2 H4.out _ _, ⟨nd, Ad, kd, cd, St.out.far2 _ _ _ (by omega), Sn.out.far2 _ _ _ (by omega), Hwd.out.set2 H4.out _ _⟩, Hkp.out.setNew H4.out (Nat.le_refl _) _ _⟩
    · refine wpOp_plain rfl rfl fun K' hK' => ?_
      go_simp
      refine (num_calls _ (d * d) (by omega) (by omega)).mono ?_
      rintro e W2 ⟨nc, Ac, kc, cc, rfl, hwc, hb2⟩
      have hS := hS.below hb2
      have st := st.below hb2
      have h5 := h5.below hb2
      have h4 := h4.below hb2
      have hx := hx.below hb2
      have hwb := hwb.below hb2
      have hkp := hkp.trans (Keeps.of_below hb2)
      refine hK' _ _ ⟨hS, ?_⟩
      clear hK' K'
      have e0 := st.c0
      have e1 := st.c1
      refine wpAnyH_all (rs := [0]) (by kernel_rfl) (by simp) ?_
      intro i0 hi0
      obtain rfl : i0 = 0 := by simpa using hi0
      refine wpOp_plain rfl rfl fun K' hK' => ?_
      go_simp
      clear e0 e1
      refine hK' _ _ ⟨hS, ?_⟩
      clear hK' K'
      refine wpAnyH_all (rs := [5]) (by kernel_rfl) (by simp) ?_
      intro i0 hi0
      obtain rfl : i0 = 5 := by simpa using hi0
      refine wpOp_plain rfl rfl fun K' hK' => ?_
      go_simp
      refine (tdiv_calls _ neg nc A Ac n kc cap cc x (d * d) hx hwc hdd).mono ?_
      rintro e W3 ⟨nd, Ad, kd, cd, rfl, hwd, hb3⟩
      have hS := hS.below hb3
      have st := st.below hb3
      have h5 := h5.below hb3
      have h4 := h4.below hb3
      have hwb := hwb.below hb3
      have hkp := hkp.trans (Keeps.of_below hb3)
      refine hK' _ _ ⟨hS, ?_⟩
      clear hK' K'
      have f0 := st.c0
      have f1 := st.c1
      have f2 := st.fr 0
      have f3 := st.fr 1
      refine wpAnyH_all (rs := [6]) (by kernel_rfl) (by simp) ?_
      intro i0 hi0
      obtain rfl : i0 = 6 := by simpa using hi0
      refine wpOp_plain rfl rfl fun K' hK' => ?_
      go_simp
      have hwd := hwd.set2 st (.bool nd) (.slice Ad kd cd)
      have hwb := hwb.set2 st (.bool nd) (.slice Ad kd cd)
      have h5 := h5.far2 bt (.bool nd) (.slice Ad kd cd) (by omega)
      have h4 := h4.far2 bt (.bool nd) (.slice Ad kd cd) (by omega)
      have hS := hS.far2 bt (.bool nd) (.slice Ad kd cd) (by omega)
      have hkp := hkp.trans (Keeps.set2 (C := fun k => k = bt) st rfl (.bool nd) (.slice Ad kd cd))
      have st := st.set2 (.bool nd) (.slice Ad kd cd)
      clear f0 f1 f2 f3
      generalize (W3.setCell ⟨bt, 0, none⟩ (.bool nd)).setCell ⟨bt, 1, none⟩ (.slice Ad kd cd) = W4 at *
      refine hK' _ _ ⟨hS, wpAnyH_done (by kernel_rfl) ?_ _⟩
      clear hK' K'
      have c0 := h5.c0
      have c1 := h5.c1
      have f0 := h4.c0
      have f1 := h4.c1
      have f2 := h4.fr 0
      have f3 := h4.fr 1
      have H4 := Lib.hid h4
      have Hwd := Lib.hid hwd
      have Hwb := Lib.hid hwb
      have Sn := Lib.hid hS
      have St := Lib.hid st
      have Hkp := Lib.hid hkp
      clear h5 h4 hwd hwb hS st hkp
      go_wp2
      have h8 := H4.out.set2 (.bool nb) (.slice Ab kb cb)
      have r0 := h8.c0
      have r1 := h8.c1
      clear c0 c1 f0 f1 f2 f3
      refine bodyPost_ret (v := .agg #[.bool nb, .slice Ab kb cb]) (by simp [results, Tryz.results251, go_sem, r0, r1]) rfl ?_
      exact ⟨nb, Ab, kb, cb, rfl, Hwb.out.set2 H4.out _ _, ⟨nd, Ad, kd, cd, St.out.far2 _ _ _ (by omega), Sn.out.far2 _ _ _ (by omega), Hwd.out.set2 H4.out _ _⟩, Hkp.out.setNew H4.out (Nat.le_refl _) _ _⟩

end Go.Proofs.YtilaheplclaokaaGreatDoor
namespace Go.Proofs.YtilaheplclaokaaGreatDoor

theorem first_zero (T : Nat → Int) : ∀ M : Nat, T M = 0 → ∃ N, N ≤ M ∧ T N = 0 ∧ ∀ i, i < N → T i ≠ 0
  | 0, h => ⟨0, Nat.le_refl _, h, fun i hi => absurd hi (by omega)⟩
  | M + 1, h => by
    by_cases h0 : T 0 = 0
    · exact ⟨0, by omega, h0, fun i hi => absurd hi (by omega)⟩
    · obtain ⟨N, h1, h2, h3⟩ := first_zero (fun i => T (i + 1)) M h
      refine ⟨N + 1, by omega, h2, fun i hi => ?_⟩
      cases i with
      | zero => exact h0
      | succ i => exact h3 i (by omega)

/-- Where a row is first 0, from i on; at most f further. -/
def firstZ (T : Nat → Int) : Nat → Nat → Nat
  | 0, i => i
  | f + 1, i => if T i = 0 then i else firstZ T f (i + 1)
theorem firstZ_from (T : Nat → Int) (N : Nat) (h0 : T N = 0) : ∀ f i, i ≤ N → N ≤ i + f → (∀ j, i ≤ j → j < N → T j ≠ 0) → firstZ T f i = N
  | 0, i, h1, h2, _ => by show i = N; omega
  | f + 1, i, h1, h2, h3 => by
    show (if T i = 0 then i else firstZ T f (i + 1)) = N
    by_cases hi : i = N
    · rw [hi, if_pos h0]
    · rw [if_neg (h3 i (Nat.le_refl _) (by omega))]
      exact firstZ_from T N h0 f (i + 1) (by omega) (by omega) fun j hj hN => h3 j (by omega) hN
theorem firstZ_eq {T : Nat → Int} {N K : Nat} (h : T N = 0) (hK : N ≤ K) (hn : ∀ j, j < N → T j ≠ 0) : firstZ T K 0 = N := firstZ_from T N h K 0 (Nat.zero_le _) (by omega) fun j _ hj => hn j hj
theorem firstZ_terms {T : Nat → Int} {N K : Nat} (h : Terms T N) (hK : N ≤ K) : firstZ T K 0 = N := firstZ_eq h.zero hK fun j hj => by have := h.pos j hj; omega

/-- A number divided again and again. -/
def again (X q : Int) : Nat → Int
  | 0 => X
  | i + 1 => again X q i / q
theorem again_nonneg {X q : Int} (hX : 0 ≤ X) (hq : 0 ≤ q) : ∀ i, 0 ≤ again X q i
  | 0 => hX
  | i + 1 => Int.ediv_nonneg (again_nonneg hX hq i) hq
theorem again_le {X q : Int} (hX : 0 ≤ X) (hq : 1 ≤ q) (i : Nat) : again X q (i + 1) ≤ again X q i := Int.ediv_le_self _ (again_nonneg hX (by omega) i)
theorem again_small {X q : Int} {K : Nat} (hX : 0 ≤ X) (hq : 2 ≤ q) (hK : X < 2 ^ K) : ∀ i, i ≤ K → again X q i < 2 ^ (K - i)
  | 0, _ => by simpa [again] using hK
  | i + 1, h => by
    have h1 := again_small hX hq hK i (by omega)
    have h0 := again_nonneg hX (by omega : 0 ≤ q) i
    rw [show K - i = (K - (i + 1)) + 1 by omega, Int.pow_succ] at h1
    show again X q i / q < 2 ^ (K - (i + 1))
    refine Int.ediv_lt_of_lt_mul (by omega) ?_
    have h2 : (2 : Int) ^ (K - (i + 1)) * 2 ≤ 2 ^ (K - (i + 1)) * q := Int.mul_le_mul_of_nonneg_left hq (Int.le_of_lt (Int.pow_pos (by omega)))
    omega
theorem again_zero {X q : Int} {K : Nat} (hX : 0 ≤ X) (hq : 2 ≤ q) (hK : X < 2 ^ K) : again X q K = 0 := by
  have h1 := again_small hX hq hK K (Nat.le_refl _)
  have h2 := again_nonneg hX (by omega : 0 ≤ q) K
  simp at h1
  omega

/-- The terms of an arcus tangent. -/
def atanT (X q : Int) (i : Nat) : Int := again X q i / (2 * (i : Int) + 1)
theorem atan_terms {X q : Int} {K : Nat} (hX : 0 ≤ X) (hq : 2 ≤ q) (hK : X < 2 ^ K) (hf : X < Num.P 4096) : ∃ N, N ≤ K ∧ Terms (atanT X q) N := by
  obtain ⟨N, h1, h2, h3⟩ := first_zero (atanT X q) K (by unfold atanT; rw [again_zero hX hq hK]; simp)
  have hn : ∀ i, 0 ≤ atanT X q i := fun i => Int.ediv_nonneg (again_nonneg hX (by omega) i) (by omega)
  refine ⟨N, h1, h2, fun i hi => ?_, fun i _ => ?_, ?_⟩
  · have := hn i; have := h3 i hi; omega
  · unfold atanT
    have a0 := again_nonneg hX (by omega : 0 ≤ q) (i + 1)
    have a1 := again_le hX (by omega : 1 ≤ q) i
    have b1 : again X q (i + 1) / (2 * ((i + 1 : Nat) : Int) + 1) ≤ again X q (i + 1) / (2 * (i : Int) + 1) := by
      rw [Int.le_ediv_iff_mul_le (by omega)]
      have c1 : again X q (i + 1) / (2 * ((i + 1 : Nat) : Int) + 1) * (2 * ((i + 1 : Nat) : Int) + 1) ≤ again X q (i + 1) := Int.ediv_mul_le _ (by omega)
      have c0 : 0 ≤ again X q (i + 1) / (2 * ((i + 1 : Nat) : Int) + 1) := Int.ediv_nonneg a0 (by omega)
      generalize again X q (i + 1) / (2 * ((i + 1 : Nat) : Int) + 1) = z at *
      have c2 : z * (2 * (i : Int) + 1) ≤ z * (2 * ((i + 1 : Nat) : Int) + 1) := Int.mul_le_mul_of_nonneg_left (by omega) c0
      omega
    exact Int.le_trans b1 (Int.ediv_le_ediv (by omega) a1)
  · unfold atanT again
    simpa using hf

/-- What trig's shift gives at a power of 2 from 1. -/
theorem shiftF_one (p : Int) : 0 ≤ shiftF 1 p ∧ shiftF 1 p < Num.P 4096 ∧ (0 ≤ p → shiftF 1 p ≤ 2 ^ p.toNat) ∧ shiftF 1 p < 2 ^ 131073 := by
  have hP : Num.P 4096 = 2 ^ 131072 := by rw [Num.P_pow2]
  unfold shiftF shiftZ
  by_cases h : -131072 ≤ p ∧ p ≤ 131072
  · rw [if_pos h]
    by_cases h0 : 0 ≤ p
    · rw [if_pos h0, Int.one_mul]
      have hp : (0 : Int) < 2 ^ p.toNat := Int.pow_pos (by omega)
      unfold Num.fit
      split
      · rename_i hf
        simp only [Num.fits, decide_eq_true_eq] at hf
        refine ⟨by omega, hf.2, fun _ => Int.le_refl _, Int.lt_trans hf.2 ?_⟩
        rw [hP, Int.pow_succ]
        have : (0 : Int) < 2 ^ 131072 := Int.pow_pos (by omega)
        omega
      · exact ⟨Int.le_refl 0, Num.P_pos _, fun _ => Int.le_of_lt hp, Int.pow_pos (by omega)⟩
    · rw [if_neg h0]
      have hq : (1 : Int) / 2 ^ (-p).toNat = 0 := by
        refine Int.ediv_eq_zero_of_lt (by omega) ?_
        obtain ⟨m, hm⟩ : ∃ m, (-p).toNat = m + 1 := ⟨(-p).toNat - 1, by omega⟩
        rw [hm, Int.pow_succ]
        have : (0 : Int) < 2 ^ m := Int.pow_pos (by omega)
        omega
      rw [hq, Num.fit_of (by simp [Num.fits]; exact Num.P_pos _)]
      exact ⟨Int.le_refl 0, Num.P_pos _, fun h1 => absurd h1 h0, Int.pow_pos (by omega)⟩
  · rw [if_neg h]
    exact ⟨Int.le_refl 0, Num.P_pos _, fun _ => Int.le_of_lt (Int.pow_pos (by omega)), Int.pow_pos (by omega)⟩

/-! Blocks of a ball: three cells. -/
open Go.RowKit in
theorem Blk.set3 {W : World} {b : Nat} {u v x : Value} {t : TypeId} (h : Blk W b #[u, v, x] t) (u' v' x' : Value) : Blk (((W.setCell ⟨b, 0, none⟩ u').setCell ⟨b, 1, none⟩ v').setCell ⟨b, 2, none⟩ x') b #[u', v', x'] t := ((h.set 0 u').set 1 v').set 2 x'
open Go.RowKit in
theorem Blk.far3 {W : World} {b : Nat} {cs : Array Value} {t : TypeId} (h : Blk W b cs t) (c : Nat) (u v x : Value) (hc : b ≠ c) : Blk (((W.setCell ⟨c, 0, none⟩ u).setCell ⟨c, 1, none⟩ v).setCell ⟨c, 2, none⟩ x) b cs t := (h.far2 c u v hc).far ⟨c, 2, none⟩ x hc
open Go.RowKit in
theorem below_set3 {B : Nat} {w0 w : World} (h : Below B w0 w) (b : Nat) (hb : B ≤ b) (u v x : Value) : Below B w0 (((w.setCell ⟨b, 0, none⟩ u).setCell ⟨b, 1, none⟩ v).setCell ⟨b, 2, none⟩ x) := (below_set2 h b hb u v).setCell (p := ⟨b, 2, none⟩) hb x
open Go.RowKit in
theorem At.set3 {w : World} {A : Option Addr} {g : Nat → Int} {n b : Nat} {c : Bool} {D : Option Addr} {k l : Nat} {z : Int} {t : TypeId} (h : At w A g n) (hb : Blk w b #[.bool c, .slice D k l, .int .i64 z] t) (u v x : Value) : At (((w.setCell ⟨b, 0, none⟩ u).setCell ⟨b, 1, none⟩ v).setCell ⟨b, 2, none⟩ x) A g n := fun h0 => by
  obtain ⟨b', off, rfl, hlt, hcell⟩ := h h0
  have hne : b' ≠ b := fun e => by
    subst e
    have h1 := hcell 0 h0
    rw [hb.at] at h1
    match off, h1 with
    | 0, h1 => simp at h1
    | 1, h1 => simp at h1
    | 2, h1 => simp at h1
    | k + 3, h1 => simp at h1
  exact ⟨b', off, rfl, by simpa [World.setCell] using hlt, fun i hi => cell_far (cell_far (cell_far (hcell i hi) hne) hne) hne⟩
open Go.RowKit in
theorem WD.set3 {w : World} {neg : Bool} {A : Option Addr} {n cap : Nat} {y : Int} {b : Nat} {c : Bool} {D : Option Addr} {k l : Nat} {z : Int} {t : TypeId} (h : WD w neg A n cap y) (hb : Blk w b #[.bool c, .slice D k l, .int .i64 z] t) (u v x : Value) : WD (((w.setCell ⟨b, 0, none⟩ u).setCell ⟨b, 1, none⟩ v).setCell ⟨b, 2, none⟩ x) neg A n cap y := by
  obtain ⟨g, h1, h2, h3, h4, h5⟩ := h
  exact ⟨g, h1, h2, h3, h4.set3 hb u v x, h5⟩

end Go.Proofs.YtilaheplclaokaaGreatDoor
namespace Go.Proofs.YtilaheplclaokaaGreatDoor
open Go.RowKit Go.Shelf
attribute [local go_sem] Oper.semAt_some

theorem atan_stable (n₀ bt bn : Nat) (d X q : Int) (h1 : bt < n₀) (h2 : bn < n₀) : Stable n₀ (fun i W => AtanI bt bn d (again X q i) W) where
  below := fun i W W' h hn hb => by
    obtain ⟨neg, A, n, cap, a, b, c⟩ := h
    exact ⟨neg, A, n, cap, a.below hb, b.below hb, c.below hb⟩
  set2 := fun i W b c D k l t u v hb hblk h => by
    obtain ⟨neg, A, n, cap, a1, a2, a3⟩ := h
    exact ⟨neg, A, n, cap, a1.far2 _ _ _ (by omega), a2.far2 _ _ _ (by omega), a3.set2 hblk u v⟩

/-- A ball: its middle, and how far it is off. -/
def BPost (x r : Int) (w : World) (e : Ending) (w' : World) : Prop := ∃ neg A n cap, e = .returned (.agg #[.bool neg, .slice A n cap, .int .i64 r]) ∧ WD w' neg A n cap x ∧ Below w.heap.size w w'
theorem atan_row (p d : Int) (hd : 2 ≤ d) : ∃ N, N ≤ 131073 ∧ Terms (atanT (shiftF 1 p / d) (d * d)) N := by
  obtain ⟨h0, h1, _, h3⟩ := shiftF_one p
  have hX := Int.ediv_nonneg h0 (by omega : 0 ≤ d)
  have hle : shiftF 1 p / d ≤ shiftF 1 p := Int.ediv_le_self _ h0
  have hdd : d * 2 ≤ d * d := Int.mul_le_mul_of_nonneg_left hd (by omega)
  exact atan_terms hX (by omega) (Int.lt_of_le_of_lt hle h3) (Int.lt_of_le_of_lt hle h1)

/-- How many terms 'arctan' adds, what it gives, and how far that is off. -/
def atanN (p d : Int) : Nat := firstZ (atanT (shiftF 1 p / d) (d * d)) 131073 0
def atanV (p d : Int) : Int := altS (atanT (shiftF 1 p / d) (d * d)) (atanN p d)
def atanR (p d : Int) : Int := 2 * (atanN p d : Int) + 4
theorem atan_row2 (p d : Int) (hd : 2 ≤ d) : atanN p d ≤ 131073 ∧ Terms (atanT (shiftF 1 p / d) (d * d)) (atanN p d) := by
  obtain ⟨N, h1, h2⟩ := atan_row p d hd
  have h3 : atanN p d = N := firstZ_terms h2 h1
  rw [h3]
  exact ⟨h1, h2⟩
theorem atan_bounds (p d : Int) (hd : 2 ≤ d) : 0 ≤ atanV p d ∧ atanV p d ≤ shiftF 1 p / d ∧ 4 ≤ atanR p d ∧ atanR p d ≤ 262150 := by
  obtain ⟨h1, h2⟩ := atan_row2 p d hd
  have h3 := altS_bounds h2
  have h4 : atanT (shiftF 1 p / d) (d * d) 0 = shiftF 1 p / d := by simp [atanT, again]
  rw [h4] at h3
  unfold atanV atanR
  omega

set_option maxRecDepth 100000 in
set_option maxHeartbeats 2000000 in
theorem arctan_calls (w : World) (d p : Int) (hd : 2 ≤ d) (hd1 : d ≤ 1000) :
    Calls Tryz.prog 231 #[.int .i64 d, .int .i64 p] w (BPost (atanV p d) (atanR p d) w) := by
  have hV : atanV p d = altS (atanT (shiftF 1 p / d) (d * d)) (atanN p d) := rfl
  have hR : atanR p d = 2 * (atanN p d : Int) + 4 := rfl
  obtain ⟨hN, hT⟩ := atan_row2 p d hd
  rw [hV, hR]
  clear hV hR
  generalize atanN p d = N at *
  have HT := Lib.hid hT
  clear hT
  have k4 := Blk.new (w.alloc (.cells #[.int .i64 d] 2)) #[.bool false, .slice none 0 0, .int .i64 0] 241
  have kn := (Blk.new w #[.int .i64 d] 2).alloc (.cells #[.bool false, .slice none 0 0, .int .i64 0] 241)
  have hb0 := ((Below.refl w.heap.size w).alloc (Nat.le_refl _) (.cells #[.int .i64 d] 2)).alloc (by simp) (.cells #[.bool false, .slice none 0 0, .int .i64 0] 241)
  simp only [World.size_alloc] at k4 kn
  have K4 := Lib.hid k4
  have KN := Lib.hid kn
  have HB0 := Lib.hid hb0
  clear k4 kn hb0
  go_enter Tryz.func231, Tryz.ntmps231
  go_wp2
  apply cutVar4 (F := fun b5 neg5 A5 n5 cap5 W => WD W neg5 A5 n5 cap5 (shiftF 1 p / d) ∧ w.heap.size + 1 < b5 ∧ Blk W b5 #[.bool neg5, .slice A5 n5 cap5] 92 ∧ Blk W (w.heap.size + 1) #[.bool false, .slice none 0 0, .int .i64 0] 241 ∧ Blk W w.heap.size #[.int .i64 d] 2 ∧ Below w.heap.size w W)
  · intro key
    refine region_start (S := fun W' => Blk W' w.heap.size #[.int .i64 d] 2) (by kernel_rfl) ?_
    intro W hW
    have h4 : Blk W (w.heap.size + 1) #[.bool false, .slice none 0 0, .int .i64 0] 241 := by rw [hW]; exact K4.out
    have sn : Blk W w.heap.size #[.int .i64 d] 2 := by rw [hW]; exact KN.out
    have hbel : Below w.heap.size w W := by rw [hW]; exact below_drewN HB0.out 1
    obtain ⟨B, hBe⟩ : ∃ B, B = W.heap.size := ⟨_, rfl⟩
    have hB : B ≤ W.heap.size := Nat.le_of_eq hBe
    have hBw : w.heap.size + 1 < B := by rw [hBe]; exact h4.lt
    clear hBe hW
    have hS := sn
    refine wpAnyH_take (i := 1) (v := .int .i64 p) rfl (by kernel_rfl) (by kernel_rfl) (by kernel_rfl) (fun _ _ _ h => h) (.inl ⟨rfl, fun w0 hw0 => ?a1⟩) hS ?_
    case a1 =>
      have e0 := hw0.c
      go_simp
    refine wpAnyH_take (i := 3) (v := .int .i64 d) rfl (by kernel_rfl) (by kernel_rfl) (by kernel_rfl) (fun _ _ _ h => h) (.inl ⟨rfl, fun w0 hw0 => ?a3⟩) hS ?_
    case a3 =>
      have e0 := hw0.c
      go_simp
    clear hS
    refine wpAnyH_all (rs := [0, 6]) (by kernel_rfl) (by simp) ?_
    intro i0 hi0
    have hi1 : i0 = 0 ∨ i0 = 6 := by simpa using hi0
    clear hi0
    rcases hi1 with rfl | rfl
    · refine wpOp_plain rfl rfl fun K' hK' => ?_
      go_simp
      refine (num_calls _ 1 (by omega) (by omega)).mono ?_
      rintro e W ⟨na, Aa, ka, ca, rfl, hna, hstep⟩
      have h4 := h4.below hstep
      have sn := sn.below hstep
      have hbel := hbel.trans (hstep.mono hbel.size)
      have hB := Nat.le_trans hB hstep.size
      refine hK' _ _ ⟨sn, ?_⟩
      clear hK' K' hstep
      refine wpAnyH_all (rs := [2, 6]) (by kernel_rfl) (by simp) ?_
      intro i0 hi0
      have hi1 : i0 = 2 ∨ i0 = 6 := by simpa using hi0
      clear hi0
      rcases hi1 with rfl | rfl
      · refine wpOp_plain rfl rfl fun K' hK' => ?_
        go_simp
        refine (tshift_calls _ na Aa ka ca 1 p hna).mono ?_
        rintro e W ⟨nb, Ab, kb, cb, rfl, hnb, hstep⟩
        have h4 := h4.below hstep
        have sn := sn.below hstep
        have hna := hna.below hstep
        have hbel := hbel.trans (hstep.mono hbel.size)
        have hB := Nat.le_trans hB hstep.size
        refine hK' _ _ ⟨sn, ?_⟩
        clear hK' K' hstep
        refine wpAnyH_all (rs := [4, 6]) (by kernel_rfl) (by simp) ?_
        intro i0 hi0
        have hi1 : i0 = 4 ∨ i0 = 6 := by simpa using hi0
        clear hi0
        rcases hi1 with rfl | rfl
        · refine wpOp_plain rfl rfl fun K' hK' => ?_
          go_simp
          refine (num_calls _ d (by omega) (by omega)).mono ?_
          rintro e W ⟨nc, Ac, kc, cc, rfl, hnc, hstep⟩
          have h4 := h4.below hstep
          have sn := sn.below hstep
          have hna := hna.below hstep
          have hnb := hnb.below hstep
          have hbel := hbel.trans (hstep.mono hbel.size)
          have hB := Nat.le_trans hB hstep.size
          refine hK' _ _ ⟨sn, ?_⟩
          clear hK' K' hstep
          refine wpAnyH_all (rs := [5, 6]) (by kernel_rfl) (by simp) ?_
          intro i0 hi0
          have hi1 : i0 = 5 ∨ i0 = 6 := by simpa using hi0
          clear hi0
          rcases hi1 with rfl | rfl
          · refine wpOp_plain rfl rfl fun K' hK' => ?_
            go_simp
            refine (tdiv_calls _ nb nc Ab Ac kb kc cb cc (shiftF 1 p) d hnb hnc (by omega)).mono ?_
            rintro e W ⟨nd, Ad, kd, cd, rfl, hnd, hstep⟩
            have h4 := h4.below hstep
            have sn := sn.below hstep
            have hna := hna.below hstep
            have hnb := hnb.below hstep
            have hnc := hnc.below hstep
            have hbel := hbel.trans (hstep.mono hbel.size)
            have hB := Nat.le_trans hB hstep.size
            refine hK' _ _ ⟨sn, ?_⟩
            clear hK' K' hstep
            refine wpAnyH_all (rs := [6]) (by kernel_rfl) (by simp) ?_
            intro i0 hi0
            obtain rfl : i0 = 6 := by simpa using hi0
            refine wpOp_plain rfl rfl fun K' hK' => ?_
            go_simp
            have hal := (Below.refl W.heap.size W).alloc (Nat.le_refl _) (.cells #[.bool false, .slice none 0 0] 92)
            have h5 := Blk.new W #[.bool false, .slice none 0 0] 92
            obtain ⟨b5, hb5⟩ : ∃ b5, b5 = W.heap.size := ⟨_, rfl⟩
            rw [← hb5] at h5 ⊢
            have hb5B : B ≤ b5 := by omega
            have h4 := h4.below hal
            have sn := sn.below hal
            have hna := hna.below hal
            have hnb := hnb.below hal
            have hnc := hnc.below hal
            have hnd := hnd.below hal
            have hbel := hbel.trans (hal.mono hbel.size)
            have hB := Nat.le_trans hB hal.size
            clear hb5 hal
            generalize W.alloc (.cells #[.bool false, .slice none 0 0] 92) = W at *
            refine hK' _ _ ⟨sn, ?_⟩
            clear hK' K'
            have f0 := h5.c0
            have f1 := h5.c1
            have f2 := h5.fr 0
            have f3 := h5.fr 1
            refine wpAnyH_all (rs := [7]) (by kernel_rfl) (by simp) ?_
            intro i0 hi0
            obtain rfl : i0 = 7 := by simpa using hi0
            refine wpOp_plain rfl rfl fun K' hK' => ?_
            go_simp
            exact hK' _ _ ⟨sn.far2 _ _ _ (by omega), wpAnyH_done (by kernel_rfl) (key b5 na Aa ka ca nb Ab kb cb nc Ac kc cc nd Ad kd cd _ ⟨hnd.set2 h5 _ _, by omega, h5.set2 _ _, h4.far2 _ _ _ (by omega), sn.far2 _ _ _ (by omega), below_set2 hbel b5 (by omega) _ _⟩) _⟩
          · refine wpOp_plain rfl rfl fun K' hK' => ?_
            go_simp
            have hal := (Below.refl W.heap.size W).alloc (Nat.le_refl _) (.cells #[.bool false, .slice none 0 0] 92)
            have h5 := Blk.new W #[.bool false, .slice none 0 0] 92
            obtain ⟨b5, hb5⟩ : ∃ b5, b5 = W.heap.size := ⟨_, rfl⟩
            rw [← hb5] at h5 ⊢
            have hb5B : B ≤ b5 := by omega
            have h4 := h4.below hal
            have sn := sn.below hal
            have hna := hna.below hal
            have hnb := hnb.below hal
            have hnc := hnc.below hal
            have hbel := hbel.trans (hal.mono hbel.size)
            have hB := Nat.le_trans hB hal.size
            clear hb5 hal
            generalize W.alloc (.cells #[.bool false, .slice none 0 0] 92) = W at *
            refine hK' _ _ ⟨sn, ?_⟩
            clear hK' K'
            refine wpAnyH_all (rs := [5]) (by kernel_rfl) (by simp) ?_
            intro i0 hi0
            obtain rfl : i0 = 5 := by simpa using hi0
            refine wpOp_plain rfl rfl fun K' hK' => ?_
            go_simp
            refine (tdiv_calls _ nb nc Ab Ac kb kc cb cc (shiftF 1 p) d hnb hnc (by omega)).mono ?_
            rintro e W ⟨nd, Ad, kd, cd, rfl, hnd, hstep⟩
            have h4 := h4.below hstep
            have sn := sn.below hstep
            have hna := hna.below hstep
            have hnb := hnb.below hstep
            have hnc := hnc.below hstep
            have h5 := h5.below hstep
            have hbel := hbel.trans (hstep.mono hbel.size)
            have hB := Nat.le_trans hB hstep.size
            refine hK' _ _ ⟨sn, ?_⟩
            clear hK' K' hstep
            have f0 := h5.c0
            have f1 := h5.c1
            have f2 := h5.fr 0
            have f3 := h5.fr 1
            refine wpAnyH_all (rs := [7]) (by kernel_rfl) (by simp) ?_
            intro i0 hi0
            obtain rfl : i0 = 7 := by simpa using hi0
            refine wpOp_plain rfl rfl fun K' hK' => ?_
            go_simp
            exact hK' _ _ ⟨sn.far2 _ _ _ (by omega), wpAnyH_done (by kernel_rfl) (key b5 na Aa ka ca nb Ab kb cb nc Ac kc cc nd Ad kd cd _ ⟨hnd.set2 h5 _ _, by omega, h5.set2 _ _, h4.far2 _ _ _ (by omega), sn.far2 _ _ _ (by omega), below_set2 hbel b5 (by omega) _ _⟩) _⟩
        · refine wpOp_plain rfl rfl fun K' hK' => ?_
          go_simp
          have hal := (Below.refl W.heap.size W).alloc (Nat.le_refl _) (.cells #[.bool false, .slice none 0 0] 92)
          have h5 := Blk.new W #[.bool false, .slice none 0 0] 92
          obtain ⟨b5, hb5⟩ : ∃ b5, b5 = W.heap.size := ⟨_, rfl⟩
          rw [← hb5] at h5 ⊢
          have hb5B : B ≤ b5 := by omega
          have h4 := h4.below hal
          have sn := sn.below hal
          have hna := hna.below hal
          have hnb := hnb.below hal
          have hbel := hbel.trans (hal.mono hbel.size)
          have hB := Nat.le_trans hB hal.size
          clear hb5 hal
          generalize W.alloc (.cells #[.bool false, .slice none 0 0] 92) = W at *
          refine hK' _ _ ⟨sn, ?_⟩
          clear hK' K'
          refine wpAnyH_all (rs := [4]) (by kernel_rfl) (by simp) ?_
          intro i0 hi0
          obtain rfl : i0 = 4 := by simpa using hi0
          refine wpOp_plain rfl rfl fun K' hK' => ?_
          go_simp
          refine (num_calls _ d (by omega) (by omega)).mono ?_
          rintro e W ⟨nc, Ac, kc, cc, rfl, hnc, hstep⟩
          have h4 := h4.below hstep
          have sn := sn.below hstep
          have hna := hna.below hstep
          have hnb := hnb.below hstep
          have h5 := h5.below hstep
          have hbel := hbel.trans (hstep.mono hbel.size)
          have hB := Nat.le_trans hB hstep.size
          refine hK' _ _ ⟨sn, ?_⟩
          clear hK' K' hstep
          refine wpAnyH_all (rs := [5]) (by kernel_rfl) (by simp) ?_
          intro i0 hi0
          obtain rfl : i0 = 5 := by simpa using hi0
          refine wpOp_plain rfl rfl fun K' hK' => ?_
          go_simp
          refine (tdiv_calls _ nb nc Ab Ac kb kc cb cc (shiftF 1 p) d hnb hnc (by omega)).mono ?_
          rintro e W ⟨nd, Ad, kd, cd, rfl, hnd, hstep⟩
          have h4 := h4.below hstep
          have sn := sn.below hstep
          have hna := hna.below hstep
          have hnb := hnb.below hstep
          have h5 := h5.below hstep
          have hnc := hnc.below hstep
          have hbel := hbel.trans (hstep.mono hbel.size)
          have hB := Nat.le_trans hB hstep.size
          refine hK' _ _ ⟨sn, ?_⟩
          clear hK' K' hstep
          have f0 := h5.c0
          have f1 := h5.c1
          have f2 := h5.fr 0
          have f3 := h5.fr 1
          refine wpAnyH_all (rs := [7]) (by kernel_rfl) (by simp) ?_
          intro i0 hi0
          obtain rfl : i0 = 7 := by simpa using hi0
          refine wpOp_plain rfl rfl fun K' hK' => ?_
          go_simp
          exact hK' _ _ ⟨sn.far2 _ _ _ (by omega), wpAnyH_done (by kernel_rfl) (key b5 na Aa ka ca nb Ab kb cb nc Ac kc cc nd Ad kd cd _ ⟨hnd.set2 h5 _ _, by omega, h5.set2 _ _, h4.far2 _ _ _ (by omega), sn.far2 _ _ _ (by omega), below_set2 hbel b5 (by omega) _ _⟩) _⟩
      · refine wpOp_plain rfl rfl fun K' hK' => ?_
        go_simp
        have hal := (Below.refl W.heap.size W).alloc (Nat.le_refl _) (.cells #[.bool false, .slice none 0 0] 92)
        have h5 := Blk.new W #[.bool false, .slice none 0 0] 92
        obtain ⟨b5, hb5⟩ : ∃ b5, b5 = W.heap.size := ⟨_, rfl⟩
        rw [← hb5] at h5 ⊢
        have hb5B : B ≤ b5 := by omega
        have h4 := h4.below hal
        have sn := sn.below hal
        have hna := hna.below hal
        have hbel := hbel.trans (hal.mono hbel.size)
        have hB := Nat.le_trans hB hal.size
        clear hb5 hal
        generalize W.alloc (.cells #[.bool false, .slice none 0 0] 92) = W at *
        refine hK' _ _ ⟨sn, ?_⟩
        clear hK' K'
        refine wpAnyH_all (rs := [2]) (by kernel_rfl) (by simp) ?_
        intro i0 hi0
        obtain rfl : i0 = 2 := by simpa using hi0
        refine wpOp_plain rfl rfl fun K' hK' => ?_
        go_simp
        refine (tshift_calls _ na Aa ka ca 1 p hna).mono ?_
        rintro e W ⟨nb, Ab, kb, cb, rfl, hnb, hstep⟩
        have h4 := h4.below hstep
        have sn := sn.below hstep
        have hna := hna.below hstep
        have h5 := h5.below hstep
        have hbel := hbel.trans (hstep.mono hbel.size)
        have hB := Nat.le_trans hB hstep.size
        refine hK' _ _ ⟨sn, ?_⟩
        clear hK' K' hstep
        refine wpAnyH_all (rs := [4]) (by kernel_rfl) (by simp) ?_
        intro i0 hi0
        obtain rfl : i0 = 4 := by simpa using hi0
        refine wpOp_plain rfl rfl fun K' hK' => ?_
        go_simp
        refine (num_calls _ d (by omega) (by omega)).mono ?_
        rintro e W ⟨nc, Ac, kc, cc, rfl, hnc, hstep⟩
        have h4 := h4.below hstep
        have sn := sn.below hstep
        have hna := hna.below hstep
        have h5 := h5.below hstep
        have hnb := hnb.below hstep
        have hbel := hbel.trans (hstep.mono hbel.size)
        have hB := Nat.le_trans hB hstep.size
        refine hK' _ _ ⟨sn, ?_⟩
        clear hK' K' hstep
        refine wpAnyH_all (rs := [5]) (by kernel_rfl) (by simp) ?_
        intro i0 hi0
        obtain rfl : i0 = 5 := by simpa using hi0
        refine wpOp_plain rfl rfl fun K' hK' => ?_
        go_simp
        refine (tdiv_calls _ nb nc Ab Ac kb kc cb cc (shiftF 1 p) d hnb hnc (by omega)).mono ?_
        rintro e W ⟨nd, Ad, kd, cd, rfl, hnd, hstep⟩
        have h4 := h4.below hstep
        have sn := sn.below hstep
        have hna := hna.below hstep
        have h5 := h5.below hstep
        have hnb := hnb.below hstep
        have hnc := hnc.below hstep
        have hbel := hbel.trans (hstep.mono hbel.size)
        have hB := Nat.le_trans hB hstep.size
        refine hK' _ _ ⟨sn, ?_⟩
        clear hK' K' hstep
        have f0 := h5.c0
        have f1 := h5.c1
        have f2 := h5.fr 0
        have f3 := h5.fr 1
        refine wpAnyH_all (rs := [7]) (by kernel_rfl) (by simp) ?_
        intro i0 hi0
        obtain rfl : i0 = 7 := by simpa using hi0
        refine wpOp_plain rfl rfl fun K' hK' => ?_
        go_simp
        exact hK' _ _ ⟨sn.far2 _ _ _ (by omega), wpAnyH_done (by kernel_rfl) (key b5 na Aa ka ca nb Ab kb cb nc Ac kc cc nd Ad kd cd _ ⟨hnd.set2 h5 _ _, by omega, h5.set2 _ _, h4.far2 _ _ _ (by omega), sn.far2 _ _ _ (by omega), below_set2 hbel b5 (by omega) _ _⟩) _⟩
    · refine wpOp_plain rfl rfl fun K' hK' => ?_
      go_simp
      have hal := (Below.refl W.heap.size W).alloc (Nat.le_refl _) (.cells #[.bool false, .slice none 0 0] 92)
      have h5 := Blk.new W #[.bool false, .slice none 0 0] 92
      obtain ⟨b5, hb5⟩ : ∃ b5, b5 = W.heap.size := ⟨_, rfl⟩
      rw [← hb5] at h5 ⊢
      have hb5B : B ≤ b5 := by omega
      have h4 := h4.below hal
      have sn := sn.below hal
      have hbel := hbel.trans (hal.mono hbel.size)
      have hB := Nat.le_trans hB hal.size
      clear hb5 hal
      generalize W.alloc (.cells #[.bool false, .slice none 0 0] 92) = W at *
      refine hK' _ _ ⟨sn, ?_⟩
      clear hK' K'
      refine wpAnyH_all (rs := [0]) (by kernel_rfl) (by simp) ?_
      intro i0 hi0
      obtain rfl : i0 = 0 := by simpa using hi0
      refine wpOp_plain rfl rfl fun K' hK' => ?_
      go_simp
      refine (num_calls _ 1 (by omega) (by omega)).mono ?_
      rintro e W ⟨na, Aa, ka, ca, rfl, hna, hstep⟩
      have h4 := h4.below hstep
      have sn := sn.below hstep
      have h5 := h5.below hstep
      have hbel := hbel.trans (hstep.mono hbel.size)
      have hB := Nat.le_trans hB hstep.size
      refine hK' _ _ ⟨sn, ?_⟩
      clear hK' K' hstep
      refine wpAnyH_all (rs := [2]) (by kernel_rfl) (by simp) ?_
      intro i0 hi0
      obtain rfl : i0 = 2 := by simpa using hi0
      refine wpOp_plain rfl rfl fun K' hK' => ?_
      go_simp
      refine (tshift_calls _ na Aa ka ca 1 p hna).mono ?_
      rintro e W ⟨nb, Ab, kb, cb, rfl, hnb, hstep⟩
      have h4 := h4.below hstep
      have sn := sn.below hstep
      have h5 := h5.below hstep
      have hna := hna.below hstep
      have hbel := hbel.trans (hstep.mono hbel.size)
      have hB := Nat.le_trans hB hstep.size
      refine hK' _ _ ⟨sn, ?_⟩
      clear hK' K' hstep
      refine wpAnyH_all (rs := [4]) (by kernel_rfl) (by simp) ?_
      intro i0 hi0
      obtain rfl : i0 = 4 := by simpa using hi0
      refine wpOp_plain rfl rfl fun K' hK' => ?_
      go_simp
      refine (num_calls _ d (by omega) (by omega)).mono ?_
      rintro e W ⟨nc, Ac, kc, cc, rfl, hnc, hstep⟩
      have h4 := h4.below hstep
      have sn := sn.below hstep
      have h5 := h5.below hstep
      have hna := hna.below hstep
      have hnb := hnb.below hstep
      have hbel := hbel.trans (hstep.mono hbel.size)
      have hB := Nat.le_trans hB hstep.size
      refine hK' _ _ ⟨sn, ?_⟩
      clear hK' K' hstep
      refine wpAnyH_all (rs := [5]) (by kernel_rfl) (by simp) ?_
      intro i0 hi0
      obtain rfl : i0 = 5 := by simpa using hi0
      refine wpOp_plain rfl rfl fun K' hK' => ?_
      go_simp
      refine (tdiv_calls _ nb nc Ab Ac kb kc cb cc (shiftF 1 p) d hnb hnc (by omega)).mono ?_
      rintro e W ⟨nd, Ad, kd, cd, rfl, hnd, hstep⟩
      have h4 := h4.below hstep
      have sn := sn.below hstep
      have h5 := h5.below hstep
      have hna := hna.below hstep
      have hnb := hnb.below hstep
      have hnc := hnc.below hstep
      have hbel := hbel.trans (hstep.mono hbel.size)
      have hB := Nat.le_trans hB hstep.size
      refine hK' _ _ ⟨sn, ?_⟩
      clear hK' K' hstep
      have f0 := h5.c0
      have f1 := h5.c1
      have f2 := h5.fr 0
      have f3 := h5.fr 1
      refine wpAnyH_all (rs := [7]) (by kernel_rfl) (by simp) ?_
      intro i0 hi0
      obtain rfl : i0 = 7 := by simpa using hi0
      refine wpOp_plain rfl rfl fun K' hK' => ?_
      go_simp
      exact hK' _ _ ⟨sn.far2 _ _ _ (by omega), wpAnyH_done (by kernel_rfl) (key b5 na Aa ka ca nb Ab kb cb nc Ac kc cc nd Ad kd cd _ ⟨hnd.set2 h5 _ _, by omega, h5.set2 _ _, h4.far2 _ _ _ (by omega), sn.far2 _ _ _ (by omega), below_set2 hbel b5 (by omega) _ _⟩) _⟩
  · rintro b5 na Aa ka ca nb Ab kb cb nc Ac kc cc nd Ad kd cd W ⟨hwd, hb5, h5, h4, sn, hbel⟩
    obtain ⟨X, hX⟩ : ∃ X, X = shiftF 1 p / d := ⟨_, rfl⟩
    rw [← hX] at hwd HT
    have hlt5 := h5.lt
    have hltn := sn.lt
    have HSum := Lib.hid (sum2 (.pointer (some ⟨b5, 0, none⟩)) (.pointer (some ⟨w.heap.size, 0, none⟩)) (fun k => k = b5) (atanT X (d * d)) N (fun i W => AtanI b5 w.heap.size d (again X (d * d) i) W) W HT.out (by omega) (fun k hk => by subst hk; exact hlt5) ⟨nd, Ad, kd, cd, h5, sn, hwd⟩ (atan_stable _ _ _ _ _ _ hlt5 hltn)
      (fun i W' hi hs ⟨neg, A, n, cap, a, b, c⟩ => atan_next W' b5 w.heap.size neg A n cap _ d i (by omega) a b c (by omega) hd1 (by omega)))
    have H4 := Lib.hid h4
    have HBel := Lib.hid hbel
    have HX := Lib.hid hX
    clear h4 h5 sn hbel hwd hX K4 KN HB0 HT
    go_wp2_with fail
    go_at_call 250
    refine HSum.out.mono ?_
    rintro e W5 ⟨neg6, A6, n6, cap6, rfl, hw6, _, hkp⟩
    have hb4 := hkp.blk H4.out (fun e => by have e2 : w.heap.size + 1 = b5 := e; omega)
    have hbl := hkp.to_below HBel.out HBel.out.size (fun k hk => by have e2 : k = b5 := hk; omega)
    have HB4 := Lib.hid hb4
    have HBl := Lib.hid hbl
    have HW6 := Lib.hid hw6
    have f0 : W5.cell? ⟨w.heap.size + 1, 0, none⟩ = some (.bool false) := hb4.at 0
    have f1 : W5.cell? ⟨w.heap.size + 1, 1, none⟩ = some (.slice none 0 0) := hb4.at 1
    have f2 : W5.cell? ⟨w.heap.size + 1, 2, none⟩ = some (.int .i64 0) := hb4.at 2
    have g0 := hb4.fr 0
    have g1 := hb4.fr 1
    have g2 := hb4.fr 2
    have hl := hb4.lt
    have hl2 : w.heap.size + 1 < W5.heap.size + 1 := Nat.lt_succ_of_lt hl
    have hw4 : IntKind.i64.wrap (2 * (N : Int)) = 2 * (N : Int) := wrap_i64 _ (by omega) (by omega)
    have hw5 : IntKind.i64.wrap (2 * (N : Int) + 4) = 2 * (N : Int) + 4 := wrap_i64 _ (by omega) (by omega)
    clear hkp hb4 hbl hw6 HSum H4 HBel
    go_wp2
    have h8 := HB4.out.set3 (.bool neg6) (.slice A6 n6 cap6) (.int .i64 (2 * (N : Int) + 4))
    have hwd8 := HW6.out.set3 HB4.out (.bool neg6) (.slice A6 n6 cap6) (.int .i64 (2 * (N : Int) + 4))
    have hb8 := below_set3 HBl.out (w.heap.size + 1) (by omega) (.bool neg6) (.slice A6 n6 cap6) (.int .i64 (2 * (N : Int) + 4))
    have h9 := h8.alloc (.cells #[.bool neg6, .slice A6 n6 cap6] 92)
    have r0 : _ = some (Value.bool neg6) := h9.at 0
    have r1 : _ = some (Value.slice A6 n6 cap6) := h9.at 1
    have r2 : _ = some (Value.int .i64 (2 * (N : Int) + 4)) := h9.at 2
    clear f0 f1 f2 g0 g1 g2
    refine bodyPost_ret (v := .agg #[.bool neg6, .slice A6 n6 cap6, .int .i64 (2 * (N : Int) + 4)]) (by simp [results, Tryz.results231, go_sem, r0, r1, r2]) rfl ?_
    rw [← HX.out]
    exact ⟨neg6, A6, n6, cap6, rfl, hwd8.below ((Below.refl _ _).alloc (Nat.le_refl _) _), hb8.alloc hb8.size _⟩

end Go.Proofs.YtilaheplclaokaaGreatDoor

/-
Walks of slices.Clone at rows of limbs, and of the functions of package wide that shift: left, right.
Regions that draw their order: reads and quiet calls in whatever order, and a forced tail behind them; in a function's own code and in a round of a range over a function.
Walks of package wide's shift to the right, and of what it calls of package slices.
Walks of the functions of package wide that divide: short, subtract, step, divide.
Plain arithmetic of limbs, more: a multiple taken away, the guess of a digit. No program here.
-/
import Derived.WalkKit
import Derived.StillTailTactics
import Derived.Deep.QuietTactic
import Derived.BigQuiet
import Derived.RangeFuncCalls
import Derived.OrdersHeld
import Derived.Test.YtilaheplclaokaaGreatDoorTurn01
set_option linter.unusedVariables false
set_option linter.unusedSimpArgs false
namespace Go.Proofs.YtilaheplclaokaaGreatDoor
open Go.RowKit

/-- The limbs as values. -/
def lims (g : Nat → Int) (n : Nat) : List Value := (List.range n).map fun j => .int .u32 (g j)
theorem lims_length (g : Nat → Int) (n : Nat) : (lims g n).length = n := by simp [lims]
theorem lims_get {g : Nat → Int} {n j : Nat} (h : j < n) : (lims g n)[j]? = some (.int .u32 (g j)) := by simp [lims, h]
theorem lims_one (g : Nat → Int) (n : Nat) : ∀ u ∈ lims g n, u.oneCell' = true := fun u hu => by
  simp only [lims, List.mem_map] at hu
  obtain ⟨j, _, rfl⟩ := hu
  rfl
theorem lims_snoc (g : Nat → Int) (n : Nat) : lims g n ++ [.int .u32 (g n)] = lims g (n + 1) := by simp [lims, List.range_succ]
theorem lims_congr {g h : Nat → Int} {n : Nat} (e : ∀ i, i < n → g i = h i) : lims g n = lims h n := by
  unfold lims
  apply List.map_congr_left
  intro j hj
  rw [e j (by simpa using hj)]

/-- What a slice of new limbs is: if it has limbs, they lie in a new block. -/
def New (w w' : World) (A : Option Addr) (g : Nat → Int) (n : Nat) : Prop := 0 < n → ∃ b, A = some ⟨b, 0, none⟩ ∧ w.heap.size ≤ b ∧ Buf w' b n g
theorem New.at {w w' : World} {A : Option Addr} {g : Nat → Int} {n : Nat} (h : New w w' A g n) : At w' A g n := fun h0 => by
  obtain ⟨b, rfl, _, hb⟩ := h h0
  exact hb.at h0
theorem New.of_owns {w w' : World} {B : Nat} {v : Value} {g : Nat → Int} {n : Nat} (hB : w.heap.size ≤ B) (h : w'.ownsRow B 175 1 v n (lims g n)) : ∃ A cap, v = .slice A n cap ∧ n ≤ cap ∧ New w w' A g n := by
  have h' := h
  rcases h.2 with ⟨rfl, rfl⟩ | ⟨b, cap, cur, rfl, hb, hh, hc, _⟩
  · exact ⟨none, 0, rfl, Nat.le_refl _, fun h0 => absurd h0 (by omega)⟩
  · refine ⟨_, cap, rfl, hc, fun _ => ⟨b, rfl, Nat.le_trans hB hb, ⟨(Array.getElem?_eq_some_iff.1 hh).1, fun i hi => ?_, fun i _ => h'.frozenAt i⟩⟩⟩
    rw [h'.cellAt i (by omega)]
    exact lims_get hi

def ClonePost (g : Nat → Int) (n : Nat) (w : World) (e : Ending) (w' : World) : Prop := ∃ A cap, e = .returned (.slice A n cap) ∧ n ≤ cap ∧ New w w' A g n ∧ Below w.heap.size w w'

set_option maxHeartbeats 400000 in
theorem clone_nil (w : World) (cap : Nat) (g : Nat → Int) :
    Calls Tryz.prog 146 #[.slice none 0 cap] w (ClonePost g 0 w) := by
  have h0 := Lib.run_eql_slice_nil (P := Tryz.prog) w 90 175 none 0 cap 0 0 Tryz.underlying90
  go_enter Tryz.func146, Tryz.ntmps146
  go_wp2
  go_ret
  exact ⟨none, 0, rfl, Nat.le_refl _, fun h => absurd h (by omega), Below.refl _ _⟩

set_option maxHeartbeats 400000 in
theorem clone_some (w : World) (ad : Addr) (n cap : Nat) (g : Nat → Int) (hn : n ≤ 1099511627776) (ha : At w (some ad) g n) :
    Calls Tryz.prog 146 #[.slice (some ad) n cap] w (ClonePost g n w) := by
  have h0 := Lib.run_eql_slice_nil (P := Tryz.prog) w 90 175 (some ad) n cap 0 0 Tryz.underlying90
  obtain ⟨i0, hi, hz0, hz1, hz2⟩ := info_parts Tryz.infoU32
  have HA := Lib.hid ha
  clear ha
  have hB := (Below.refl w.heap.size w).alloc (Nat.le_refl _) (.cells #[] 175)
  have hown : (w.alloc (.cells #[] 175)).ownsRow w.heap.size 175 1 (.slice (some ⟨w.heap.size, 0, none⟩) 0 0) 0 [] := ⟨by simp, .inr ⟨w.heap.size, 0, #[], rfl, Nat.le_refl _, World.alloc_heap_new w _, Nat.le_refl _, by unfold maxLen; omega, rfl, by simp⟩⟩
  go_enter Tryz.func146, Tryz.ntmps146
  go_wp2_with (at_builtin; refine wpList_append_own _ rfl _ _ 90 rfl w.heap.size 175 i0 (.int .u32 0) 1 4 Tryz.underlying90 hi hz0 hz1 hz2 rfl (by decide) _ _ _ rfl hown ad n cap (lims g n) rfl (by rw [lims_length]; omega) ?c1 (lims_one g n) ?c3 ?c4 ?c5 ?_)
  case c1 =>
    intro j u hu
    have hj : j < n := by
      rcases Nat.lt_or_ge j n with h | h
      · exact h
      · rw [List.getElem?_eq_none (by rw [lims_length]; exact h)] at hu
        cases hu
    rw [lims_get hj] at hu
    cases hu
    obtain ⟨b, off, e, hb, hc⟩ := HA.out (by omega)
    cases e
    rw [show (⟨b, off, none⟩ : Addr).add j = ⟨b, off + j, none⟩ from by simp [Addr.add]]
    exact (hB.cell (p := ⟨b, off + j, none⟩) hb).trans (hc j hj)
  case c3 => unfold maxLen; omega
  case c4 => omega
  case c5 => exact hB.size
  · intro v' w1 hown' hgrow _
    obtain ⟨A', cap', rfl, hc', hnew⟩ := New.of_owns (Nat.le_refl _) hown'
    have hB1 : Below w.heap.size w w1 := hB.grown hgrow hB.size (fun k e => by cases e; exact Nat.le_refl _)
    have HN := Lib.hid hnew
    clear hnew hown' hgrow hown h0
    go_wp2
    go_ret
    exact ⟨A', cap', rfl, hc', HN.out, hB1⟩

theorem clone_calls (w : World) (A : Option Addr) (n cap : Nat) (g : Nat → Int) (hn : n ≤ 1099511627776) (ha : At w A g n) :
    Calls Tryz.prog 146 #[.slice A n cap] w (ClonePost g n w) := by
  cases A with
  | some ad => exact clone_some w ad n cap g hn ha
  | none =>
    rcases Nat.eq_zero_or_pos n with rfl | h0
    · exact clone_nil w cap g
    · obtain ⟨b, off, e, _⟩ := ha h0
      cases e

/-! ### left -/
theorem lims_upd (o : Nat → Int) (m : Nat) (z : Int) : lims o m ++ [.int .u32 z] = lims (Num.upd o m z) (m + 1) := by
  rw [← lims_snoc, Num.upd_same]
  congr 1
  exact lims_congr fun i hi => (Num.upd_other (by omega)).symm
theorem or_shift {x q : Int} {k : Nat} (h0 : 0 ≤ x) (h1 : x < 4294967296) (h2 : 0 ≤ q) (h3 : q < 2 ^ (k % 32)) :
    bits BinOp.or IntKind.u64 q (x * 2 ^ (k % 32)) = q + x * 2 ^ (k % 32) := by
  have hr := Num.left_range h0 h1 h2 h3
  have hp := Num.pow32 k
  rw [u64_or _ _ h2 (by omega) hr.2.2.2.2.1 (by omega), Nat.or_comm]
  obtain ⟨X, rfl⟩ := Int.eq_ofNat_of_zero_le h0
  obtain ⟨Q, rfl⟩ := Int.eq_ofNat_of_zero_le h2
  have e1 : ((X : Int) * 2 ^ (k % 32)).toNat = X * 2 ^ (k % 32) := by
    rw [show ((X : Int) * 2 ^ (k % 32)) = ((X * 2 ^ (k % 32) : Nat) : Int) from by simp]
    exact Int.toNat_natCast _
  have e2 : Q < 2 ^ (k % 32) := by
    have : ((Q : Nat) : Int) < ((2 ^ (k % 32) : Nat) : Int) := by simpa using h3
    exact Int.ofNat_lt.1 this
  rw [e1, Int.toNat_natCast, nat_join (k % 32) _ _ (Nat.mul_mod_left _ _) e2]
  simp [Int.add_comm]
theorem own_base {w : World} {B e size n : Nat} {v : Value} {xs : List Value} (h : w.ownsRow B e size v n xs) (k : Nat) (hk : v.ownBlock = some k) : B ≤ k := by
  rcases h.2 with ⟨rfl, _⟩ | ⟨g, cap, cur, rfl, hb, _⟩
  · simp [Value.ownBlock] at hk
  · have : g = k := by simpa [Value.ownBlock] using hk
    omega
theorem own_form {w : World} {B e size n : Nat} {v : Value} {xs : List Value} (h : w.ownsRow B e size v n xs) : ∃ A c, v = .slice A n c := by
  rcases h.2 with ⟨rfl, rfl⟩ | ⟨g, cap, cur, rfl, _⟩
  · exact ⟨_, _, rfl⟩
  · exact ⟨_, _, rfl⟩

theorem make_limbs_cap (n c : Nat) (hnc : n ≤ c) (hn : c ≤ 1099511627776) (w : World) :
    (Instr.makeSlice 90 (.int .i64 (n : Int)) (.int .i64 (c : Int))).run Tryz.prog w = .ok (.slice (some ⟨w.heap.size, 0, none⟩) n c) (w.alloc (.cells (zeros c) 175)) := by
  obtain ⟨i, hi, hz, hs, hb⟩ := info_parts Tryz.infoU32
  have h := run_make (P := Tryz.prog) w 90 175 i (.int .u32 0) Tryz.underlying90 hi hz .i64 .i64 n c (by omega) (by omega) (by rw [hb]; omega) (by omega)
  rw [hs] at h
  simp only [Int.toNat_natCast, Nat.mul_one] at h
  exact h
theorem owns_new (w : World) (n c : Nat) (hnc : n ≤ c) (hc : c ≤ 1099511627776) : (w.alloc (.cells (zeros c) 175)).ownsRow w.heap.size 175 1 (.slice (some ⟨w.heap.size, 0, none⟩) n c) n (lims (fun _ => 0) n) := by
  refine ⟨by rw [lims_length]; omega, .inr ⟨w.heap.size, c, zeros c, rfl, Nat.le_refl _, World.alloc_heap_new w _, hnc, by unfold maxLen; omega, by simp [zeros, size_madeCells], ?_⟩⟩
  unfold zeros
  rw [toList_madeCells_one, List.take_replicate, Nat.mul_one, Nat.min_eq_left hnc]
  simp [lims, List.map_const']

/-- The limbs of a number times a power of 2, less than the base, and its whole limbs below. -/
def LeftPost (x : Int) (n k : Nat) (w : World) (e : Ending) (w' : World) : Prop :=
  ∃ A cap o, e = .returned (.slice A (k / 32 + n + 1) cap) ∧ k / 32 + n + 1 ≤ cap ∧ New w w' A o (k / 32 + n + 1) ∧ Num.Dig o (k / 32 + n + 1) ∧ Num.val o (k / 32 + n + 1) = x * 2 ^ k ∧ Below w.heap.size w w'

set_option maxRecDepth 10000 in
set_option maxHeartbeats 1000000 in
theorem left_calls (w : World) (A : Option Addr) (n cap k : Nat) (g : Nat → Int) (hdg : Num.Dig g n) (hn : n ≤ 549755813888) (hk : k ≤ 549755813888) (ha : At w A g n) :
    Calls Tryz.prog 149 #[.slice A n cap, .int .i64 k] w (LeftPost (Num.val g n) n k w) := by
  obtain ⟨i0, hi, hz0, hz1, hz2⟩ := info_parts Tryz.infoU32
  have HA := Lib.hid ha
  have HG := Lib.hid hdg
  clear ha hdg
  have hmk := make_limbs_cap (k / 32) (k / 32 + n + 1) (by omega) (by omega)
  simp only [Int.natCast_add, Int.natCast_one, Int.natCast_ediv, Int.cast_ofNat_Int] at hmk
  go_enter Tryz.func149, Tryz.ntmps149
  go_wp2
  have hown := owns_new w (k / 32) (k / 32 + n + 1) (by omega) (by omega)
  have hbel := (Below.refl w.heap.size w).alloc (Nat.le_refl _) (.cells (zeros (k / 32 + n + 1)) 175)
  generalize w.alloc (.cells (zeros (k / 32 + n + 1)) 175) = w1 at *
  go_loopw [5, 6, 20] (fun v c i wr => ∃ (j : Nat) (o : Nat → Int) (q : Int), j ≤ n ∧ wr.ownsRow w.heap.size 175 1 v (k / 32 + j) (lims o (k / 32 + j)) ∧ c = .int .u64 q ∧ 0 ≤ q ∧ q < 2 ^ (k % 32) ∧ i = .int .i64 j ∧ Below w.heap.size w wr ∧ Num.Dig o (k / 32 + j) ∧ Num.val o (k / 32 + j) + q * Num.P (k / 32 + j) = Num.val g j * 2 ^ k) (fun _ _ i _ => n - (intOf i).toNat)
  case atStart => exact ⟨0, _, 0, Nat.zero_le _, hown, rfl, Int.le_refl _, Int.pow_pos (by omega), rfl, hbel, fun i hi => ⟨Int.le_refl 0, by show (0 : Int) < 4294967296; omega⟩, by rw [Num.val_zero]; simp [Num.val]⟩
  case round =>
    clear hown hbel hmk
    obtain ⟨j, o, q, hj, hown, rfl, hq0, hq1, rfl, hbel, hdo, hv⟩ := hrel
    have HV := Lib.hid hv
    have HD := Lib.hid hdo
    have HO := Lib.hid hown
    clear hv hdo hown
    by_cases hlt : j < n
    · obtain ⟨ab, ao, rfl, hab, hcell⟩ := HA.out (by omega)
      have hx : wr.cell? ⟨ab, ao + j, none⟩ = some (.int .u32 (g j)) := (hbel.cell (p := ⟨ab, ao + j, none⟩) hab).trans (hcell j hlt)
      have hgk := HG.out j hlt
      obtain ⟨av, cv, rfl⟩ := own_form HO.out
      clear hcell
      have hr := Num.left_range hgk.1 hgk.2 hq0 hq1
      have hor := or_shift hgk.1 hgk.2 hq0 hq1
      have hB := hbel.size
      obtain ⟨t, ht⟩ : ∃ t, t = q + g j * 2 ^ (k % 32) := ⟨_, rfl⟩
      rw [← ht] at hor hr
      have HT := Lib.hid ht
      obtain ⟨ht0, ht1, ht2, ht3, hs0, hs1⟩ := hr
      clear ht
      go_wp2_with (at_builtin; refine wpList_append_own _ rfl _ _ 90 rfl w.heap.size 175 i0 (.int .u32 0) 1 4 Tryz.underlying90 hi hz0 hz1 hz2 rfl (by decide) _ _ _ rfl (HO.out.alloc _) ⟨wr.heap.size, 0, none⟩ 1 1 [.int .u32 (t % 4294967296)] rfl rfl ?c1 ?c2 ?c3 ?c4 ?c5 ?_)
      case c1 => exact cell_one_new _ _ _
      case c2 => intro u hu; simp at hu; subst hu; rfl
      case c3 => unfold maxLen; omega
      case c4 => omega
      case c5 => simp; omega
      · intro v' w2 hown' hgrow _
        rw [lims_upd] at hown'
        have hbel' : Below w.heap.size w w2 := (hbel.alloc hbel.size _).grown hgrow (by simp; omega) (fun k' e => own_base HO.out k' e)
        have HO' := Lib.hid hown'
        have HBel := Lib.hid hbel'
        clear hgrow hown' hbel' hbel
        go_wp2
        go_roundw
        case rel => exact ⟨j + 1, _, t / 4294967296, by omega, HO'.out, rfl, ht2, ht3, by go_num, HBel.out, HD.out.snoc (by omega) (by omega), Num.left_step HT.out HV.out⟩
        case measure => simp [intOf]; omega
    · obtain rfl : j = n := by omega
      obtain ⟨av, cv, rfl⟩ := own_form HO.out
      have hp := Num.pow32 k
      have hq2 : q < 4294967296 := by omega
      have hB := hbel.size
      go_wp2_with (at_builtin; refine wpList_append_own _ rfl _ _ 90 rfl w.heap.size 175 i0 (.int .u32 0) 1 4 Tryz.underlying90 hi hz0 hz1 hz2 rfl (by decide) _ _ _ rfl (HO.out.alloc _) ⟨wr.heap.size, 0, none⟩ 1 1 [.int .u32 q] rfl rfl ?d1 ?d2 ?d3 ?d4 ?d5 ?_)
      case d1 => exact cell_one_new _ _ _
      case d2 => intro u hu; simp at hu; subst hu; rfl
      case d3 => unfold maxLen; omega
      case d4 => omega
      case d5 => simp; omega
      · intro v' w2 hown' hgrow _
        rw [lims_upd] at hown'
        have hbel' : Below w.heap.size w w2 := (hbel.alloc hbel.size _).grown hgrow (by simp; omega) (fun k' e => own_base HO.out k' e)
        obtain ⟨A', cap', rfl, hc', hnew⟩ := New.of_owns (Nat.le_refl _) hown'
        have HN := Lib.hid hnew
        have HBel := Lib.hid hbel'
        clear hgrow hown' hbel' hbel hnew
        go_wp2
        go_ret
        exact ⟨A', cap', _, rfl, hc', HN.out, HD.out.snoc (by omega) (by omega), by rw [← HV.out]; simp [Num.val, Num.upd_same, Num.val_upd_ge], HBel.out⟩

end Go.Proofs.YtilaheplclaokaaGreatDoor
namespace Go.Proofs.YtilaheplclaokaaGreatDoor
open Go.RowKit

section
variable {P : Program} {ops : Array Oper} {md : Region.Mode} {C : World → Prop}

/-- The head's operations, in whatever order they come up; behind them L. -/
def headQ (P : Program) (md : Region.Mode) (ops : Array Oper) (C : World → Prop) (n : Nat) (L : Array Bool → Act → Prop) : Nat → Array Bool → Act → Prop
  | 0, listed, a => L listed a
  | f + 1, listed, a => Region.ready md ops listed ≠ [] ∧ ∀ i ∈ Region.ready md ops listed, i < n ∧ qOp P ops C i (headQ P md ops C n L f (listed.setIfInBounds i true)) a

theorem any_of_headQ {n g : Nat} {L : Array Bool → Act → Prop} {Q' : Exit → Act → World → Prop} (hL : ∀ listed a w, C w → L listed a → wpAny P md ops Q' g listed a w) :
    ∀ (f : Nat) (listed : Array Bool) (a : Act) (w : World), C w → headQ P md ops C n L f listed a → wpAny P md ops Q' (f + g) listed a w
  | 0, listed, a, w, hw, h => by rw [Nat.zero_add]; exact hL _ _ _ hw h
  | f + 1, listed, a, w, hw, h => by
    rw [show f + 1 + g = (f + g) + 1 by omega]
    exact ⟨fun h0 => absurd h0 h.1, fun i hi => wpOp_of_qOp hw (fun a' w' hw' h' => any_of_headQ hL f _ a' w' hw' h') (h.2 i hi).2⟩

theorem headQ_first {n i : Nat} {oi : Oper} {v : Value} {L : Array Bool → Act → Prop} (hi : ops[i]? = some oi) (hsel : ∀ (j : Nat) (o : Oper) cs b, ops[j]? = some o → o.op ≠ .select cs b)
    (hs : Region.sinkB md ops n = true) (hc : Region.chainB md ops n = true) (hn : n < ops.size) (hin : i < n)
    (hdone : ∀ listed a, L listed a → ∀ j ∈ Region.ready md ops listed, n ≤ j) :
    ∀ (f : Nat) (listed : Array Bool) (a : Act), HeadInv md ops n listed →
      (∀ j oj, ops[j]? = some oj → j ≠ i → listed.getD j true = false → (∀ e ∈ oj.after, Region.binds md e = true → e.on ≠ i) → oi.apart ops oj = true) →
      i ∈ Region.ready md ops listed → YieldsIn P ops C oi v a →
      headQ P md ops C n L f (listed.setIfInBounds i true) (a.put oi.dst v) → headQ P md ops C n L (f + 1) listed a := by
  intro f
  induction f with
  | zero =>
    intro listed a inv _ hr hy H
    have hun := (mem_ready.1 hr).1
    refine ⟨fun h => (by rw [h] at hr; cases hr), fun j hj => ?_⟩
    have hjn : j < n := Nat.lt_of_not_le fun h => tail_waits hs hc hn inv _ i rfl hin hun j h hj
    refine ⟨hjn, ?_⟩
    by_cases hji : j = i
    · subst hji; exact hy.qOp hi H
    · exact absurd (hdone _ _ H j (ready_mono hj hji)) (by omega)
  | succ f ih =>
    intro listed a inv hfree hr hy H
    have hun := (mem_ready.1 hr).1
    refine ⟨fun h => (by rw [h] at hr; cases hr), fun j hj => ?_⟩
    have hjn : j < n := Nat.lt_of_not_le fun h => tail_waits hs hc hn inv _ i rfl hin hun j h hj
    refine ⟨hjn, ?_⟩
    by_cases hji : j = i
    · subst hji; exact hy.qOp hi H
    · have h1 := (H.2 j (ready_mono hj hji)).2
      obtain ⟨hjun, oj, hoj, hall⟩ := mem_ready.1 hj
      have hnot : ∀ e ∈ oj.after, Region.binds md e = true → e.on ≠ i := fun e he hb heq => by
        have h1 := hall e he hb
        rw [heq, getD_both hun] at h1
        cases h1
      have h2 := qOp_put hoj (hfree j oj hoj hji hjun hnot) (fun cs b => hsel i oi cs b hi) (fun cs b => hsel j oj cs b hoj) hy h1
      refine qOp_mono (fun a' h3 => ih (listed.setIfInBounds j true) a' (inv.set hj hjn) (fun k ok hk hki hku hno => hfree k ok hk hki ?_ hno) (ready_mono hr (Ne.symm hji)) h3.1 ?_) h2
      · by_cases hjk : j = k
        · subst hjk; exact hjun
        · rw [getD_set_ne true hjk] at hku; exact hku
      · rw [Array.setIfInBounds_comm _ _ hji]
        exact h3.2

theorem headQ_lex {n g : Nat} {Lq : Act → Prop} (hsel : Region.noSelect ops = true) (hs : Region.sinkB md ops n = true) (hc : Region.chainB md ops n = true) (hn : n < ops.size) :
    ∀ (l : List Oper) (k : Nat) (listed : Array Bool) (a : Act), (∀ j, j < l.length → l[j]? = ops[k + j]?) → k + l.length = n → HeadInv md ops n listed →
    Region.lexHead md ops g l.length k listed = true → wpQuiet P ops C Lq l a →
    headQ P md ops C n (fun listed' a' => Region.seqB md ops g n listed' = true ∧ Lq a') l.length listed a
  | [], k, listed, a, _, hk, _, hB, h => by
    have : k = n := by simpa using hk
    subst this
    exact ⟨by simpa [Region.lexHead] using hB, h⟩
  | o :: l, k, listed, a, hl, hk, inv, hB, h => by
    have h0 : ops[k]? = some o := by simpa using (hl 0 (by simp)).symm
    simp only [List.length_cons, Region.lexHead, Bool.and_eq_true] at hB
    obtain ⟨⟨hr, hf⟩, hB'⟩ := hB
    have hkn : k < n := by simp only [List.length_cons] at hk; omega
    have hr' : k ∈ Region.ready md ops listed := by simpa using hr
    have hst : qOp P ops C k (wpQuiet P ops C Lq l) a := by unfold qOp; simp only [h0]; exact h
    obtain ⟨v, hy, hK⟩ := yieldsIn_of_qOp h0 hst
    exact headQ_first h0 (Region.noSelect_spec hsel) hs hc hn hkn (fun listed' a' hL => seqB_ready hL.1) l.length listed a inv (Region.free_spec h0 hf) hr' hy
      (headQ_lex hsel hs hc hn l (k + 1) _ _ (fun j hj => by have := hl (j + 1) (by simp; omega); simpa [Nat.add_assoc, Nat.add_comm 1 j] using this) (by simp only [List.length_cons] at hk; omega) (inv.set hr' hkn) hB' hK)

/-- The head walked once in the order of the text, then the tail. -/
theorem any_tail {Q : Exit → Act → World → Prop} {a : Act} {w : World} {l : List Oper} (n : Nat) (hB : Region.lexTailB .any l.toArray n = true)
    (h : wpQuiet P l.toArray (fun w' => ∃ m, w' = w.drewN m) (fun a' => ∀ w', (∃ m, w' = w.drewN m) → wpList P l.toArray Q (l.drop n) a' w') (l.take n) a) :
    wpAny P .any l.toArray Q l.toArray.size (Array.replicate l.toArray.size false) a { w with drawn := w.drawn + 1 } := by
  simp only [Region.lexTailB, Bool.and_eq_true, decide_eq_true_eq] at hB
  obtain ⟨⟨⟨⟨hsel, hn⟩, hs⟩, hc⟩, hlex⟩ := hB
  have hn' : n < l.length := by simpa using hn
  have htl : (l.take n).length = n := by simp; omega
  have hdl : (l.drop n).length = l.toArray.size - n := by simp
  have inv0 : HeadInv .any l.toArray n (Array.replicate l.toArray.size false) :=
    ⟨by simp, fun j oj _ hl => (by rw [getD_replicate_false] at hl; cases hl), fun t _ ht => getD_in (by simpa using ht) (getD_replicate_false _ _)⟩
  have H := headQ_lex (md := .any) (g := l.toArray.size - n) hsel hs hc hn (l.take n) 0 _ a (fun j hj => by
    have hj' : j < n := by rw [htl] at hj; exact hj
    simp [hj']) (by simpa using htl) inv0 (by rw [htl]; exact hlex) h
  have := any_of_headQ (Q' := Q) (g := l.toArray.size - n) (fun listed a' w' hw' hL => by
    have := wpAny_of_seq (md := .any) (Q' := Q) (l.drop n) n listed a' w' (fun j => by simp [List.getElem?_drop]) (by rw [hdl]; exact hL.1) (hL.2 w' hw')
    rwa [hdl] at this) _ _ _ _ ⟨1, rfl⟩ H
  rw [htl, show n + (l.toArray.size - n) = l.toArray.size by omega] at this
  exact this

theorem region_tail {id : Nat} {Q : Exit → Act → World → Prop} {a : Act} {w : World} {l : List Oper} (n : Nat) (hm : P.follows .mixedOrders = true) (hB : Region.lexTailB .any l.toArray n = true)
    (h : wpQuiet P l.toArray (fun w' => ∃ m, w' = w.drewN m) (fun a' => ∀ w', (∃ m, w' = w.drewN m) → wpList P l.toArray Q (l.drop n) a' w') (l.take n) a) : (Code.region id l.toArray true).wp P Q a w :=
  wp_region_any hm (any_tail n hB h)

theorem quiet_add {f : FuncId} {args : Array Value} {w : World} {v : Value} (a : Nat) (h : Calls P f args (w.drewN a) fun e w' => e = .returned v ∧ ∃ m, w' = (w.drewN a).drewN m) :
    Calls P f args (w.drewN a) fun e w'' => e = .returned v ∧ ∃ m, w'' = w.drewN m :=
  h.mono fun _ _ ⟨he, m, hm⟩ => ⟨he, a + m, by rw [hm, World.drewN_drewN]⟩

theorem wpOp_plain {i : Nat} {o : Oper} {a : Act} {w : World} {K : Act → World → Prop} {Q : Exit → Act → World → Prop} (hi : ops[i]? = some o) (hg : o.guard = none) (h : ∀ K' : Act → World → Prop, (∀ a w, K a w → K' a w) → o.wp P a w K' Q) : wpOp P ops Q i K a w := by
  unfold wpOp
  simp only [hi]
  rw [if_pos (by simp [Region.wanted, hg])]
  exact .inl (h K fun _ _ h => h)

/-! ### In a round of a range over a function -/

def noDefer (ops : Array Oper) : Bool := ops.all fun o => match o.op with | .defer _ => false | _ => true
theorem noDefer_spec (h : noDefer ops = true) {i : Nat} {o : Oper} (ho : ops[i]? = some o) (c : Call) : o.op ≠ .defer c := fun e => by
  have h1 := (Array.all_eq_true.1 h) i (Array.getElem?_eq_some_iff.1 ho).1
  rw [(Array.getElem?_eq_some_iff.1 ho).2, e] at h1
  cases h1

theorem uponIn_of_upon {l n : Nat} {o : Oper} {a : Act} {next : Act → World → Prop} {Q : Exit → Act → World → Prop} (r : Result Next) (h : o.upon P a next Q r) : o.uponIn (Fence.wide.inRound l) n P a next Q r := by
  cases r with
  | ok x w' =>
    cases x with
    | value v => exact h
    | skip => exact h
    | defer d => exact h
    | enter f args =>
      refine ⟨(fun hd => absurd hd (by simp [Fence.wide])), CallsIn.inRound l (callsIn_wide.2 (Calls.mono (show Calls _ _ _ _ _ from h) ?_))⟩
      intro e w'' hh
      cases e
      · exact hh
      · exact hh
      · exact hh
    | row row args =>
      refine ⟨(fun hd => absurd hd (by simp [Fence.wide])), ?_⟩
      have h' : Rows P row args w' (fun v w'' => next (a.put o.dst v) w'') := h
      intro c cs hroom
      obtain ⟨v, w2, hr, hs⟩ := h' c cs
      exact ⟨v, w2, hr, stepsIn_wide.2 hs⟩
    | _ => exact h.elim
  | halt x w' =>
    cases x with
    | panic v => exact h
    | _ => exact h.elim

theorem wpOpsIn_of {l n : Nat} {Q : Exit → Act → World → Prop} (hnd : noDefer ops = true) (hout : ¬ LetsOut Q) : ∀ (L : List Nat) (a : Act) (w : World), wpOps P ops Q L a w → wpOpsIn (Fence.wide.inRound l) n P ops Q L a w
  | [], _, _, h => h
  | i :: L, a, w, h => by
    unfold wpOps at h
    unfold wpOpsIn
    cases ho : ops[i]? with
    | none =>
      simp only [ho] at h ⊢
      exact wpOpsIn_of hnd hout L a w h
    | some o =>
      simp only [ho] at h ⊢
      by_cases hw : Region.wanted o (yielded ops a.tmps) = true
      · simp only [hw, if_true] at h ⊢
        rcases h with h | h
        · refine ⟨fun f _ => trivial, ?_⟩
          rw [Oper.semAt_eq _ _ _ (noDefer_spec hnd ho)]
          refine uponIn_of_upon _ ?_
          exact Oper.wp_mono (fun a' w' h' => wpOpsIn_of hnd hout L a' w' h') h
        · exact absurd h.2 hout
      · simp only [hw, if_false, Bool.false_eq_true] at h ⊢
        exact ⟨fun f _ => trivial, wpOpsIn_of hnd hout L _ w h⟩

theorem regionIn_any {l n id : Nat} {Q : Exit → Act → World → Prop} {a : Act} {w : World} (hm : P.follows .mixedOrders = true) (hnd : noDefer ops = true) (hout : ¬ LetsOut Q)
    (h : wpAny P .any ops Q ops.size (Array.replicate ops.size false) a { w with drawn := w.drawn + 1 }) : (Code.region id ops true).wpIn (Fence.wide.inRound l) n P Q a w :=
  wpIn_region_draw fun t => wpOpsIn_of hnd hout _ _ _ (by
    simp only [Region.schedule, hm, Bool.true_or, if_true]
    exact wpAny_sound ops.size t _ a _ h)

theorem regionIn_tail {l' m id : Nat} {Q : Exit → Act → World → Prop} {a : Act} {w : World} {l : List Oper} (n : Nat) (hm : P.follows .mixedOrders = true) (hB : Region.lexTailB .any l.toArray n = true) (hnd : noDefer l.toArray = true) (hout : ¬ LetsOut Q)
    (h : wpQuiet P l.toArray (fun w' => ∃ m, w' = w.drewN m) (fun a' => ∀ w', (∃ m, w' = w.drewN m) → wpList P l.toArray Q (l.drop n) a' w') (l.take n) a) : (Code.region id l.toArray true).wpIn (Fence.wide.inRound l') m P Q a w :=
  regionIn_any hm hnd hout (any_tail n hB h)

end
end Go.Proofs.YtilaheplclaokaaGreatDoor
namespace Go.Proofs.YtilaheplclaokaaGreatDoor
open Go.RowKit Go.Shelf
attribute [local go_sem] Oper.semAt_some

/-- Some limb is not 0. -/
def some0 (g : Nat → Int) (n : Nat) : Bool := decide (∃ i, i < n ∧ 0 < g i)

set_option maxHeartbeats 400000 in
theorem right1_calls (x : Int) (w : World) : Calls Tryz.prog 198 #[.int .u32 x] w (RetPost (.bool (decide (0 < x))) w) := by
  go_enter Tryz.func198, Tryz.ntmps198
  go_wp2
  go_ret
  exact ⟨rfl, rfl⟩

/-- The index of the first limb that is not 0, or -1. -/
def IdxPost (g : Nat → Int) (n : Nat) (w : World) (e : Ending) (w' : World) : Prop := ∃ x : Int, e = .returned (.int .i64 x) ∧ (decide (0 ≤ x) = some0 g n) ∧ w = w'

set_option maxHeartbeats 400000 in
theorem index_calls (w : World) (A : Option Addr) (n cap : Nat) (g : Nat → Int) (hn : n ≤ 1099511627776) (hdg : Num.Dig g n) (ha : At w A g n) :
    Calls Tryz.prog 226 #[.slice A n cap, .func (.func 198) #[] #[]] w (IdxPost g n w) := by
  have HA := Lib.hid ha
  have HG := Lib.hid hdg
  clear ha hdg
  go_enter Tryz.func226, Tryz.ntmps226
  go_wp2
  go_loop [8] (fun i => ∃ k : Nat, k ≤ n ∧ i = .int .i64 k ∧ ∀ j, j < k → g j = 0) (fun i => n - (intOf i).toNat)
  case atStart => exact ⟨0, Nat.zero_le _, rfl, fun j hj => absurd hj (by omega)⟩
  case round =>
    obtain ⟨k, hk, rfl, hz⟩ := hrel
    have HZ := Lib.hid hz
    clear hz
    by_cases hlt : k < n
    · obtain ⟨ab, ao, rfl, hab, hcell⟩ := HA.out (by omega)
      have hx := hcell k hlt
      have hgk := HG.out k hlt
      clear hcell
      go_wp2_with (go_at_call 198; refine (right1_calls _ _).mono ?_; rintro e w' ⟨rfl, rfl⟩)
      · have h : 0 < g k := by assumption
        go_ret
        exact ⟨k, rfl, by rw [some0, decide_eq_true (by omega : (0 : Int) ≤ k), decide_eq_true ⟨k, hlt, h⟩], rfl⟩
      · have h : g k ≤ 0 := by assumption
        go_round
        case rel => exact ⟨k + 1, by omega, by go_num, fun j hj => by
          rcases Nat.eq_or_lt_of_le (Nat.le_of_lt_succ hj) with rfl | hj
          · omega
          · exact HZ.out j hj⟩
        case measure => simp [intOf]; omega
    · obtain rfl : k = n := by omega
      go_wp2
      go_ret
      refine ⟨-1, rfl, ?_, rfl⟩
      rw [some0, decide_eq_false (by omega), decide_eq_false]
      rintro ⟨i, hi, h⟩
      rw [HZ.out i hi] at h
      omega

set_option maxHeartbeats 400000 in
theorem contains_calls (w : World) (A : Option Addr) (n cap : Nat) (g : Nat → Int) (hn : n ≤ 1099511627776) (hdg : Num.Dig g n) (ha : At w A g n) :
    Calls Tryz.prog 197 #[.slice A n cap, .func (.func 198) #[] #[]] w (RetPost (.bool (some0 g n)) w) := by
  have HI := Lib.hid (index_calls w A n cap g hn hdg ha)
  clear hdg ha
  go_enter Tryz.func197, Tryz.ntmps197
  go_wp2_with fail
  refine HI.out.mono ?_
  rintro e w' ⟨x, rfl, hx, rfl⟩
  have HX := Lib.hid hx
  clear hx
  go_wp2
  go_ret
  exact ⟨by rw [← HX.out]; rfl, rfl⟩

theorem Buf.alloc {w : World} {b n : Nat} {o : Nat → Int} (h : Buf w b n o) (x : Obj) : Buf (w.alloc x) b n o where
  lt := by have := h.lt; simp; omega
  cell := fun i hi => (World.cell?_alloc_past x b i h.lt).trans (h.cell i hi)
  free := fun i hi => (World.frozen?_alloc_past x b i h.lt).trans (h.free i hi)
theorem Buf.own {A B : World} {b n : Nat} {o : Nat → Int} (h : Buf A b n o) {row : Option Nat} (hg : A.grownBy B row) (hr : ∀ r, row = some r → ∃ o, A.heap[r]? = some o ∧ o.isCells = false) : Buf B b n o where
  lt := Nat.lt_of_lt_of_le h.lt hg.size
  cell := fun i hi => cell_kept (h.cell i hi) hg hr
  free := fun i hi => (frozen_kept (h.cell i hi) hg hr).trans (h.free i hi)

theorem Buf.setFar {w : World} {b n : Nat} {o : Nat → Int} (h : Buf w b n o) (p : Addr) (v : Value) (hp : p.block ≠ b) : Buf (w.setCell p v) b n o where
  lt := by simpa [World.setCell] using h.lt
  cell := fun i hi => (World.cell?_of_block (w := w) (a := ⟨b, i, none⟩) (Below.heap_setCell _ _ _ _ (fun e => hp e.symm))).trans (h.cell i hi)
  free := fun i hi => by rw [World.frozen?_setCell]; exact h.free i hi
theorem cell_far {w : World} {a p : Addr} {u v : Value} (h : w.cell? a = some u) (hp : a.block ≠ p.block) : (w.setCell p v).cell? a = some u := (World.cell?_of_block (w := w) (Below.heap_setCell _ _ _ _ hp)).trans h
theorem cell_drewN {w : World} {a : Addr} {u : Value} (n : Nat) (h : w.cell? a = some u) : (w.drewN n).cell? a = some u := by simpa using h
theorem keepsFrom_drewN {B : Nat} {A W : World} (h : KeepsFrom B A W) (n : Nat) : KeepsFrom B A (W.drewN n) := h.trans ((show KeepsOthers W (W.drewN n) from ⟨by simp, fun _ _ h _ => by simpa using h⟩).from _)
theorem keepsFrom_setCell {B : Nat} {A W : World} (h : KeepsFrom B A W) (p : Addr) (v : Value) : KeepsFrom B A (W.setCell p v) := h.trans ((KeepsOthers.setCell _ _ _).from _)
theorem below_drewN {B : Nat} {a w : World} (h : Below B a w) (n : Nat) : Below B a (w.drewN n) := ⟨h.os, h.tape, h.output, h.size, h.block⟩
theorem and_low (t : Int) (s : Nat) (h0 : 0 ≤ t) (h1 : t < 9223372036854775808) (hs : s < 32) : bits BinOp.and IntKind.u64 t (2 ^ s - 1) = t % 2 ^ s := by
  have hp := Num.pow32 s
  rw [Nat.mod_eq_of_lt hs] at hp
  rw [u64_and _ _ h0 (by omega) (by omega) (by omega)]
  obtain ⟨T, rfl⟩ := Int.eq_ofNat_of_zero_le h0
  have e : ((2 : Int) ^ s - 1).toNat = 2 ^ s - 1 := by
    have : ((2 : Int) ^ s) = ((2 ^ s : Nat) : Int) := by simp
    rw [this]
    omega
  rw [e, Int.toNat_natCast, Nat.and_two_pow_sub_one_eq_mod]
  simp

theorem dl_val (d : Nat) : (dl d).map Fin.val = Num.dn 0 d := by
  apply List.ext_getElem
  · simp [dl, Num.dn]
  · intro i h1 h2
    simp [dl, Num.dn]
theorem some0_val {g : Nat → Int} {n : Nat} (hg : Num.Dig g n) : some0 g n = decide (0 < Num.val g n) := by
  unfold some0
  by_cases h : ∃ i, i < n ∧ 0 < g i
  · obtain ⟨i, hi, h0⟩ := h
    rw [decide_eq_true ⟨i, hi, h0⟩, decide_eq_true (Num.val_ne_zero hg hi h0)]
  · rw [decide_eq_false h, decide_eq_false]
    rw [Num.val_eq_zero hg (fun i hi => by
      have := (hg i hi).1
      rcases Int.lt_or_eq_of_le this with h1 | h1
      · exact absurd ⟨i, hi, h1⟩ h
      · exact h1.symm)]
    omega
theorem left_over {g : Nat → Int} {c d s k : Nat} {q : Int} (hg : Num.Dig g (c + d)) (hk : k = 32 * c + s) (hq : q = Num.val (Num.from_ g c) d % 2 ^ s) : decide (Num.val g (c + d) % 2 ^ k ≠ 0) = (some0 g c || decide (0 < q)) := by
  have hv := (Num.right_value hg hk).2
  have h0 := Num.val_nonneg (hg.mono (Nat.le_add_right c d))
  have hP := Num.P_pos c
  have hq0 : 0 ≤ q := by rw [hq]; exact Int.emod_nonneg _ (by have : (0 : Int) < 2 ^ s := Int.pow_pos (by omega); omega)
  rw [← hq] at hv
  have hm := Int.mul_nonneg hq0 (Int.le_of_lt hP)
  rw [some0_val (hg.mono (Nat.le_add_right c d)), hv, Bool.eq_iff_iff]
  simp only [decide_eq_true_eq, Bool.or_eq_true]
  constructor
  · intro h
    rcases Int.lt_or_eq_of_le hq0 with h1 | h1
    · exact .inr h1
    · rw [← h1, Int.zero_mul] at h
      exact .inl (by omega)
  · rintro (h | h)
    · omega
    · have := Int.mul_pos h hP
      omega

/-- A number divided by a power of 2, and whether something is left. -/
def RightPost (x : Int) (d k : Nat) (w : World) (e : Ending) (w' : World) : Prop :=
  ∃ b o, e = .returned (.tuple #[.slice (some ⟨b, 0, none⟩) d d, .bool (decide (x % 2 ^ k ≠ 0))]) ∧ Buf w' b d o ∧ w.heap.size ≤ b ∧ Num.Dig o d ∧ Num.val o d = x / 2 ^ k ∧ Below w.heap.size w w'

set_option maxRecDepth 100000 in
set_option maxHeartbeats 2000000 in
theorem right_lt (w : World) (b off c d s cap k : Nat) (g : Nat → Int) (hkc : (k : Int) / 32 = c) (hks : (k : Int) % 32 = s) (hn : c + d ≤ 1099511627776) (hd : 0 < d) (hc : c + d ≤ cap) (hb : b < w.heap.size) (hcell : ∀ i, i < c + d → w.cell? ⟨b, off + i, none⟩ = some (.int .u32 (g i))) (hdg : Num.Dig g (c + d)) :
    CallsIn Fence.wide 9 Tryz.prog 151 #[.slice (some ⟨b, off, none⟩) (c + d) cap, .int .i64 k] w (RightPost (Num.val g (c + d)) d k w) := by
  have hk' : k ≤ 35184372088864 := by omega
  have HC := Lib.hid hcell
  have HG := Lib.hid hdg
  have hcap : ¬ cap - c = 0 := by omega
  have hB := Lib.hid hb
  have hmk := make_limbs d (by omega)
  rw [show (d : Int) = (c : Int) + d - c from by omega] at hmk
  clear hcell hdg hb
  refine callsIn_of_wp_marks Tryz.func151 rfl trivial ?_ rfl
  simp only [Tryz.ntmps151, List.size_toArray, List.length_cons, List.length_nil, Nat.reduceAdd, Nat.reduceSub, Array.replicate_succ, Array.replicate_zero, List.push_toArray, List.append_toArray, List.nil_append, List.cons_append]
  gi_wp2_with (first
    | (refine ⟨trivial, ?_⟩; gi_at_call 197; refine (callsIn_wide.2 (contains_calls _ _ c cap g (by omega) (HG.out.mono (by omega)) (fun _ => ⟨b, off, rfl, by have := hB.out; simp; omega, fun i hi => (((Below.refl _ w).alloc (Nat.le_refl _) _).cell (p := ⟨b, off + i, none⟩) hB.out).trans (HC.out i (by omega))⟩))).mono ?_; rintro e w' ⟨rfl, rfl⟩)
    | (refine ⟨trivial, ?_⟩; gi_at_call 193; refine (down_in Fence.wide _ trivial rfl _ _ _ _).mono ?_; rintro e w' ⟨rfl, rfl⟩))
  have hb' := hB.out
  have hkb := Boxed.new w 3 (.int .i64 (k : Int))
  have hbuf := Buf.new (w.alloc (.cells #[.int .i64 (k : Int)] 3)) d 175
  rw [World.size_alloc] at hbuf
  have bO := Boxed.new ((w.alloc (.cells #[.int .i64 (k : Int)] 3)).alloc (.cells (zeros d) 175)) 90 (.slice (some ⟨w.heap.size + 1, 0, none⟩) d d)
  have bC := Boxed.new (((w.alloc (.cells #[.int .i64 (k : Int)] 3)).alloc (.cells (zeros d) 175)).alloc (.cells #[.slice (some ⟨w.heap.size + 1, 0, none⟩) d d] 90)) 112 (.int .u64 0)
  have bN := Boxed.new ((((w.alloc (.cells #[.int .i64 (k : Int)] 3)).alloc (.cells (zeros d) 175)).alloc (.cells #[.slice (some ⟨w.heap.size + 1, 0, none⟩) d d] 90)).alloc (.cells #[.int .u64 0] 112)) 90 (.slice (some ⟨b, off + c, none⟩) d (cap - c))
  simp only [World.size_alloc] at bO bC bN
  have hB0 : Below w.heap.size w (((((w.alloc (.cells #[.int .i64 (k : Int)] 3)).alloc (.cells (zeros d) 175)).alloc (.cells #[.slice (some ⟨w.heap.size + 1, 0, none⟩) d d] 90)).alloc (.cells #[.int .u64 0] 112)).alloc (.cells #[.slice (some ⟨b, off + c, none⟩) d (cap - c)] 90)) := (((((Below.refl _ w).alloc (Nat.le_refl _) _).alloc (by simp) _).alloc (by simp; omega) _).alloc (by simp; omega) _).alloc (by simp; omega) _
  have hs : s < 32 := by omega
  have hp := Num.pow32 s
  rw [Nat.mod_eq_of_lt hs] at hp
  have hG2 : Num.Dig (Num.from_ g c) d := fun i hi => HG.out (c + i) (by omega)
  have HG2 := Lib.hid hG2
  clear hG2 hmk
  refine wpIn_rangeFunc_ownG rfl (by omega) (gf := 225) (lb := #[.pointer (some ⟨w.heap.size + 1 + 1 + 1 + 1, 0, none⟩)]) rfl trivial (enters_of Tryz.func225 (by kernel_rfl) rfl)
    (down_stops Fence.wide _ trivial rfl (by omega) (w.heap.size + 1 + 1 + 1 + 1) w.heap.size (some ⟨b, off + c, none⟩) d (cap - c) (Num.from_ g c) (by omega) _ (by simp) bN.cell (fun _ => ⟨b, off + c, rfl, by simp; omega, fun i hi => by rw [Nat.add_assoc]; exact (hB0.cell (p := ⟨b, off + (c + i), none⟩) hb').trans (HC.out (c + i) (by omega))⟩) (fun b' off' e h0 => by cases e; exact hb'))
    Kp2.trans (fun W l o o' h1 h2 h3 h4 => Kp2.putObj (by simp; omega) (by simp) W l o o' h1 h2 h3 h4) (Below.refl _ _) (fun _ => rfl)
    (fun pre W => (W.cell? ⟨w.heap.size, 0, none⟩ = some (.int .i64 (k : Int)) ∧ W.cell? ⟨w.heap.size + 1 + 1, 0, none⟩ = some (.slice (some ⟨w.heap.size + 1, 0, none⟩) d d) ∧ W.cell? ⟨w.heap.size + 1 + 1 + 1, 0, none⟩ = some (.int .u64 (Num.rfold (2 ^ s) (Num.from_ g c) (pre.map Fin.val)).1) ∧ W.frozen? ⟨w.heap.size + 1 + 1 + 1, 0, none⟩ = false ∧ Buf W (w.heap.size + 1) d (Num.rfold (2 ^ s) (Num.from_ g c) (pre.map Fin.val)).2) ∧ Below w.heap.size w W)
    (fun _ _ _ => False)
    (OwnFrom.and (Own.from (fun s A B row hs hg hr => ⟨cell_kept hs.1 hg hr, cell_kept hs.2.1 hg hr, cell_kept hs.2.2.1 hg hr, (frozen_kept hs.2.2.1 hg hr).trans hs.2.2.2.1, hs.2.2.2.2.own hg hr⟩) _) (ownFrom_below (Nat.le_refl _) (by simp; omega)))
    (fun _ _ _ _ _ hs _ _ => hs)
    ⟨⟨((((hkb.alloc _).alloc _).alloc _).alloc _).cell, ((bO.alloc _).alloc _).cell, (bC.alloc _).cell, (bC.alloc _).frozen, ((hbuf.alloc _).alloc _).alloc _⟩, hB0⟩
    (fun x : Fin d => { tmps := #[.slice (some ⟨b, off, none⟩) (c + d) cap, .int .i64 (k : Int), undef, .pointer (some ⟨w.heap.size, 0, none⟩), .slice none 0 0, .bool false, .int .i64 (c : Int), .bool (some0 g c), .pointer (some ⟨w.heap.size + 1 + 1, 0, none⟩), .pointer (some ⟨w.heap.size + 1 + 1 + 1, 0, none⟩), .int .i64 ((x : Nat) : Int), .int .u32 (Num.from_ g c x), .int .i64 (k : Int), .int .i64 (c : Int), .slice (some ⟨b, off, none⟩) (c + d) cap, .int .i64 ((c : Int) + d), .int .i64 (c : Int), .slice (some ⟨b, off, none⟩) (c + d) cap, .int .i64 (c : Int), .slice (some ⟨b, off, none⟩) c cap, .bool (some0 g c), .slice (some ⟨b, off, none⟩) (c + d) cap, .int .i64 ((c : Int) + d), .int .i64 (c : Int), .int .i64 ((c : Int) + d - c), .slice (some ⟨w.heap.size + 1, 0, none⟩) d d, .slice (some ⟨b, off, none⟩) (c + d) cap, .int .i64 (c : Int), .slice (some ⟨b, off + c, none⟩) d (cap - c), .func (.func 225) #[] #[.pointer (some ⟨w.heap.size + 1 + 1 + 1 + 1, 0, none⟩)], .int .i64 ((x : Nat) : Int), .int .u32 (Num.from_ g c x), undef, undef, undef, undef, undef, undef, undef, undef, undef, undef, undef, undef, undef, undef, undef, undef, undef, undef, undef, undef, undef, undef, undef, undef, undef], defers := [] }) ?assign ?body ?done ?stop
  case assign =>
    intro l x W K hK
    gi_wp2
    exact hK
  case body =>
    rintro l pre x W ⟨⟨hc0, hc2, hc3, hf3, hbf⟩, hBe⟩ hlen
    obtain ⟨i, hi⟩ := x
    have hr := Num.rfold_range (show (0 : Int) < 2 ^ s by omega) (Num.from_ g c) (pre.map Fin.val)
    have hx := HG2.out i hi
    have hbb := hbf.cell i hi
    have hbfr := hbf.free i hi
    have HBf := Lib.hid hbf
    have HBe := Lib.hid hBe
    clear hbf hBe
    obtain ⟨q, hq⟩ : ∃ q, q = (Num.rfold (2 ^ s) (Num.from_ g c) (pre.map Fin.val)).1 := ⟨_, rfl⟩
    obtain ⟨o, ho⟩ : ∃ o, o = (Num.rfold (2 ^ s) (Num.from_ g c) (pre.map Fin.val)).2 := ⟨_, rfl⟩
    obtain ⟨x, hxe⟩ : ∃ x, x = Num.from_ g c i := ⟨_, rfl⟩
    rw [← hq] at hc3 hr
    rw [← ho] at hbb
    rw [← hxe] at hx
    simp only [← hxe]
    have hor := u64_join q x hr.1 (by omega) hx.1 hx.2
    obtain ⟨t, ht⟩ : ∃ t, t = q * 4294967296 + x := ⟨_, rfl⟩
    rw [← ht] at hor
    have ht0 : 0 ≤ t := by omega
    have ht1 : t < 9223372036854775808 := by omega
    have hand := and_low t s ht0 ht1 hs
    have hq3 : t / 2 ^ s < 4294967296 := Int.ediv_lt_of_lt_mul (by omega) (by
      have : q * 4294967296 ≤ (2 ^ s - 1) * 4294967296 := Int.mul_le_mul_of_nonneg_right (by omega) (by omega)
      omega)
    have hq4 : 0 ≤ t / 2 ^ s := Int.ediv_nonneg ht0 (by omega)
    have hmod : t / 2 ^ s % 4294967296 = t / 2 ^ s := by omega
    have HQ := Lib.hid hq
    have HO := Lib.hid ho
    have HX := Lib.hid hxe
    have HT := Lib.hid ht
    clear hq ho hxe ht
    have hkt : (k : Int).tmod 32 = (s : Int) := by rw [Int.tmod_eq_emod_of_nonneg (by omega)]; exact hks
    gi_wp2
    refine regionIn_tail 8 (by kernel_rfl) (by kernel_rfl) (by kernel_rfl) (by rintro ⟨_, _, h⟩; exact h) ?_
    simp only [List.take_succ_cons, List.take_zero, List.drop_succ_cons, List.drop_zero]
    repeat (first | go_big_quiet_step (fail) | quiet_step (fail))
    refine wpQuiet_nil ?_
    rintro w' ⟨nq, rfl⟩
    go_wp2
    refine regionIn_tail 6 (by kernel_rfl) (by kernel_rfl) (by kernel_rfl) (by rintro ⟨_, _, h⟩; exact h) ?_
    simp only [List.take_succ_cons, List.take_zero, List.drop_succ_cons, List.drop_zero]
    repeat (first | go_big_quiet_step (fail) | quiet_step (fail))
    refine wpQuiet_nil ?_
    rintro w' ⟨nq', rfl⟩
    go_wp2
    have hfold : Num.rfold (2 ^ s) (Num.from_ g c) ((pre ++ [(⟨i, hi⟩ : Fin d)]).map Fin.val) = (t % 2 ^ s, Num.upd o i (t / 2 ^ s)) := by
      rw [List.map_append, List.map_cons, List.map_nil, Num.rfold_snoc, Num.rstep, ← HQ.out, ← HO.out, HT.out, HX.out]
    refine ⟨keepsFrom_setCell (keepsFrom_drewN (keepsFrom_setCell (keepsFrom_drewN (keepsFrom_setCell (KeepsFrom.refl _ _) _ _) _) _ _) _) _ _, ?_, ⟨?_, ?_, ?_, ?_, ?_⟩, ?_⟩
    · exact (((((Kp2.refl _ _ _).setCell _ _ (by simp <;> omega) (by simp <;> omega)).drewN _).setCell _ _ (by simp) (by simp <;> omega)).drewN _).setCell _ _ (by simp <;> omega) (by simp <;> omega)
    · exact cell_far (cell_drewN _ (cell_far (cell_drewN _ (cell_far hc0 (by simp <;> omega))) (by simp))) (by simp <;> omega)
    · exact cell_far (cell_drewN _ (cell_far (cell_drewN _ (cell_far hc2 (by simp))) (by simp))) (by simp)
    · rw [hfold]
      have c1 := World.cell?_setCell_same' W ⟨w.heap.size + 1 + 1 + 1, 0, none⟩ (.int .u64 t) (by rw [hc3]; rfl)
      have c2 := cell_far (p := ⟨w.heap.size + 1, i, none⟩) (v := .int .u32 (t / 2 ^ s)) (cell_drewN nq c1) (by simp <;> omega)
      have c3 := cell_drewN nq' c2
      exact World.cell?_setCell_same' _ _ _ (by rw [c3]; rfl)
    · simpa using hf3
    · rw [hfold]
      have := ((((((HO.out ▸ HBf.out).setFar ⟨w.heap.size + 1 + 1 + 1, 0, none⟩ (.int .u64 t) (by simp <;> omega)).drewN nq).set (t / 2 ^ s) hi).drewN nq').setFar ⟨w.heap.size + 1 + 1 + 1, 0, none⟩ (.int .u64 (t % 2 ^ s)) (by simp <;> omega))
      exact this
    · exact (below_drewN ((below_drewN (HBe.out.setCell (p := ⟨w.heap.size + 1 + 1 + 1, 0, none⟩) (by simp <;> omega) _) _).setCell (p := ⟨w.heap.size + 1, i, none⟩) (by simp) _) _).setCell (p := ⟨w.heap.size + 1 + 1 + 1, 0, none⟩) (by simp <;> omega) _
  case done =>
    rintro D ys W hD rfl ⟨⟨hc0, hc2, hc3, hf3, hbf⟩, hBe⟩ hK
    have hl : (dl d).map Fin.val = Num.dn 0 d := dl_val d
    rw [hl] at hc3 hbf
    obtain ⟨f1, f2⟩ := Num.rfold_dn (show (0 : Int) < 2 ^ s by omega) (Num.from_ g c) d 0
    have hr := Num.rfold_range (show (0 : Int) < 2 ^ s by omega) (Num.from_ g c) (Num.dn 0 d)
    have hod := Num.rfold_dig (show (0 : Int) < 2 ^ s by omega) HG2.out (Num.dn 0 d) (fun i hi => by simp [Num.dn] at hi; omega)
    have e0 : ∀ x : Nat → Int, Num.from_ x 0 = x := fun x => by funext i; simp [Num.from_]
    simp only [e0] at f1 f2
    obtain ⟨v1, v2⟩ := Num.right_value HG.out (show k = 32 * c + s by omega)
    obtain ⟨q, hq⟩ : ∃ q, q = (Num.rfold (2 ^ s) (Num.from_ g c) (Num.dn 0 d)).1 := ⟨_, rfl⟩
    obtain ⟨o, ho⟩ : ∃ o, o = (Num.rfold (2 ^ s) (Num.from_ g c) (Num.dn 0 d)).2 := ⟨_, rfl⟩
    rw [← hq] at hc3 hr f1
    rw [← ho] at hbf hod f2
    have HF1 := Lib.hid f1
    have HF2 := Lib.hid f2
    have HV1 := Lib.hid v1
    have HV2 := Lib.hid v2
    have HBf := Lib.hid hbf
    have HOd := Lib.hid hod
    clear f1 f2 v1 v2 hq ho hl e0 hbf hod
    have hL := left_over HG.out (show k = 32 * c + s by omega) HF1.out
    have HL := Lib.hid hL
    clear hL
    have fin : ∀ (n : Nat) (W' : World), W' = (W.drewN n).putObj D (.deferred none) → Buf W' (w.heap.size + 1) d o ∧ Below w.heap.size w W' := fun n W' e => by
      subst e
      have hK' : (W.drewN n).heap[D]? = some (.deferred (some [])) := by simpa using hK
      exact ⟨(HBf.out.drewN n).own (grownBy_putObj' _ D (.deferred none)) (fun r e => by cases e; exact ⟨_, hK', rfl⟩), (below_drewN hBe n).trans (belowK_b (w := w) (Nat.le_refl _) _ D _ _ (by simp at hD; omega) hK' rfl rfl)⟩
    have HFin := Lib.hid fin
    have HK := Lib.hid hK
    clear fin hK
    cases hs0 : some0 g c
    · by_cases hq0 : 0 < q
      · gi_wp2
        refine wpIn_wide.2 ?_
        go_quiet (fail)
        gi_wp2
        refine ⟨by simp, .inl ⟨_, _, rfl, run_takeDeferred (by simpa using HK.out), ?_⟩⟩
        obtain ⟨g1, g2⟩ := HFin.out nq _ rfl
        refine ⟨_, results_tmp2 rfl _ _ _, _, _, ?_, g1, by omega, HOd.out, HF2.out.trans HV1.out.symm, g2⟩
        rw [HL.out]
        simp [hs0, hq0]
      · gi_wp2
        refine wpIn_wide.2 ?_
        go_quiet (fail)
        gi_wp2
        refine ⟨by simp, .inl ⟨_, _, rfl, run_takeDeferred (by simpa using HK.out), ?_⟩⟩
        obtain ⟨g1, g2⟩ := HFin.out nq _ rfl
        refine ⟨_, results_tmp2 rfl _ _ _, _, _, ?_, g1, by omega, HOd.out, HF2.out.trans HV1.out.symm, g2⟩
        rw [HL.out]
        simp [hs0, hq0]
    · gi_wp2
      refine wpIn_wide.2 ?_
      go_quiet (fail)
      gi_wp2
      refine ⟨by simp, .inl ⟨_, _, rfl, run_takeDeferred (by simpa using HK.out), ?_⟩⟩
      obtain ⟨g1, g2⟩ := HFin.out nq _ rfl
      refine ⟨_, results_tmp2 rfl _ _ _, _, _, ?_, g1, by omega, HOd.out, HF2.out.trans HV1.out.symm, g2⟩
      rw [HL.out]
      simp [hs0]
  case stop =>
    rintro D c pre W _ _ h _
    exact h.elim

theorem right_zero {g : Nat → Int} {n k : Nat} (hg : Num.Dig g n) (h : (n : Int) ≤ (k : Int) / 32) : decide (Num.val g n % 2 ^ k ≠ 0) = some0 g n ∧ Num.val g n / 2 ^ k = 0 := by
  have h1 := Num.val_lt hg
  have h2 := Num.val_nonneg hg
  have h3 : Num.P n ≤ 2 ^ k := by
    rw [Num.P_pow2]
    obtain ⟨e, he⟩ : ∃ e, k = 32 * n + e := ⟨k - 32 * n, by omega⟩
    rw [he, Int.pow_add]
    have e1 : (0 : Int) < 2 ^ (32 * n) := Int.pow_pos (by omega)
    have e2 : (0 : Int) < 2 ^ e := Int.pow_pos (by omega)
    have := Int.mul_le_mul_of_nonneg_left (show (1 : Int) ≤ 2 ^ e by omega) (Int.le_of_lt e1)
    omega
  rw [some0_val hg, Int.emod_eq_of_lt h2 (by omega), Int.ediv_eq_zero_of_lt h2 (by omega)]
  refine ⟨?_, rfl⟩
  rw [Bool.eq_iff_iff]
  simp only [decide_eq_true_eq]
  omega

set_option maxRecDepth 100000 in
set_option maxHeartbeats 4000000 in
/-- .. by more limbs than there are. -/
theorem right_ge (w : World) (A : Option Addr) (n cap k : Nat) (g : Nat → Int) (hkn : (n : Int) ≤ (k : Int) / 32) (hn : n ≤ 1099511627776) (hk : k ≤ 1099511627776) (hc : n ≤ cap) (ha : At w A g n) (hdg : Num.Dig g n) :
    CallsIn Fence.wide 9 Tryz.prog 151 #[.slice A n cap, .int .i64 k] w (RightPost (Num.val g n) 0 k w) := by
  have HA := Lib.hid ha
  have HG := Lib.hid hdg
  have hmk := make_limbs 0 (by omega)
  simp only [Int.cast_ofNat_Int] at hmk
  clear ha hdg
  refine callsIn_of_wp_marks Tryz.func151 rfl trivial ?_ rfl
  simp only [Tryz.ntmps151, List.size_toArray, List.length_cons, List.length_nil, Nat.reduceAdd, Nat.reduceSub, Array.replicate_succ, Array.replicate_zero, List.push_toArray, List.append_toArray, List.nil_append, List.cons_append]
  have hz1 : decide (Num.val g n % 2 ^ k ≠ 0) = some0 g n := (right_zero HG.out hkn).1
  have hz2 : Num.val g n / 2 ^ k = 0 := (right_zero HG.out hkn).2
  have HZ1 := Lib.hid hz1
  have HZ2 := Lib.hid hz2
  clear hz1 hz2
  rcases Int.lt_or_eq_of_le hkn with hlt | hkc
  · clear hkn
    gi_wp2_with (first
      | (refine ⟨trivial, ?_⟩; gi_at_call 197; refine (callsIn_wide.2 (contains_calls _ A n cap g hn HG.out (HA.out.below ((Below.refl _ _).alloc (Nat.le_refl _) _)))).mono ?_; rintro e w' ⟨rfl, rfl⟩)
      | (refine ⟨trivial, ?_⟩; gi_at_call 193; refine (down_in Fence.wide _ trivial rfl _ _ _ _).mono ?_; rintro e w' ⟨rfl, rfl⟩))
    · have hz1 := HZ1.out
      have hz2 := HZ2.out
      have bO := Boxed.new ((w.alloc (.cells #[.int .i64 (k : Int)] 3)).alloc (.cells (zeros 0) 175)) 90 (.slice (some ⟨w.heap.size + 1, 0, none⟩) 0 0)
      have bC := Boxed.new (((w.alloc (.cells #[.int .i64 (k : Int)] 3)).alloc (.cells (zeros 0) 175)).alloc (.cells #[.slice (some ⟨w.heap.size + 1, 0, none⟩) 0 0] 90)) 112 (.int .u64 0)
      have bN := Boxed.new ((((w.alloc (.cells #[.int .i64 (k : Int)] 3)).alloc (.cells (zeros 0) 175)).alloc (.cells #[.slice (some ⟨w.heap.size + 1, 0, none⟩) 0 0] 90)).alloc (.cells #[.int .u64 0] 112)) 90 (.slice A 0 0)
      simp only [World.size_alloc] at bO bC bN
      have hB0 : Below w.heap.size w (((((w.alloc (.cells #[.int .i64 (k : Int)] 3)).alloc (.cells (zeros 0) 175)).alloc (.cells #[.slice (some ⟨w.heap.size + 1, 0, none⟩) 0 0] 90)).alloc (.cells #[.int .u64 0] 112)).alloc (.cells #[.slice A 0 0] 90)) := (((((Below.refl _ w).alloc (Nat.le_refl _) _).alloc (by simp) _).alloc (by simp; omega) _).alloc (by simp; omega) _).alloc (by simp; omega) _
      refine wpIn_rangeFunc_ownG rfl (by omega) (gf := 225) (lb := #[.pointer (some ⟨w.heap.size + 1 + 1 + 1 + 1, 0, none⟩)]) rfl trivial (enters_of Tryz.func225 (by kernel_rfl) rfl)
        (down_stops Fence.wide _ trivial rfl (by omega) (w.heap.size + 1 + 1 + 1 + 1) w.heap.size (A) 0 (0) (fun _ => 0) (by omega) _ (by simp) bN.cell (At.zero _ _ _) (fun _ _ _ h0 => absurd h0 (by omega)))
        Kp2.trans (fun W l o o' h1 h2 h3 h4 => Kp2.putObj (by simp; omega) (by simp) W l o o' h1 h2 h3 h4) (Below.refl _ _) (fun _ => rfl)
        (fun pre W => (W.cell? ⟨w.heap.size + 1 + 1, 0, none⟩ = some (.slice (some ⟨w.heap.size + 1, 0, none⟩) 0 0) ∧ W.cell? ⟨w.heap.size + 1 + 1 + 1, 0, none⟩ = some (.int .u64 0)) ∧ Below w.heap.size w W)
        (fun _ _ _ => False)
        (OwnFrom.and (Own.from (fun s A B row hs hg hr => ⟨cell_kept hs.1 hg hr, cell_kept hs.2 hg hr⟩) _) (ownFrom_below (Nat.le_refl _) (by simp; omega)))
        (fun _ _ _ _ _ hs _ _ => hs)
        ⟨⟨((bO.alloc _).alloc _).cell, (bC.alloc _).cell⟩, hB0⟩
        (fun x : Fin 0 => x.elim0) (fun _ x => x.elim0) (fun _ _ x => x.elim0) ?_ (fun _ _ _ _ _ _ h _ => h.elim)
      rintro D ys W hD _ ⟨⟨hc2, hc3⟩, hBe⟩ hK
      have fin : ∀ (n : Nat) (W' : World), W' = (W.drewN n).putObj D (.deferred none) → Below w.heap.size w W' ∧ w.heap.size + 1 < W'.heap.size := fun n W' e => by
        subst e
        have hK' : (W.drewN n).heap[D]? = some (.deferred (some [])) := by simpa using hK
        exact ⟨(below_drewN hBe n).trans (belowK_b (w := w) (Nat.le_refl _) _ D _ _ (by simp at hD; omega) hK' rfl rfl), by have := (Array.getElem?_eq_some_iff.1 hK).1; simp [World.putObj]; simp at hD; omega⟩
      have HFin := Lib.hid fin
      have HK := Lib.hid hK
      clear fin hK
      cases hs0 : some0 g n
      · gi_wp2
        refine wpIn_wide.2 ?_
        go_quiet (fail)
        gi_wp2
        refine ⟨by simp, .inl ⟨_, _, rfl, run_takeDeferred (by simpa using HK.out), ?_⟩⟩
        obtain ⟨g1, g2⟩ := HFin.out nq _ rfl
        refine ⟨_, results_tmp2 rfl _ _ _, w.heap.size + 1, fun _ => 0, ?_, ⟨g2, fun i hi => absurd hi (by omega), fun i hi => absurd hi (by omega)⟩, by omega, fun i hi => absurd hi (by omega), hz2.symm, g1⟩
        rw [hz1, hs0]
        simp
      · gi_wp2
        refine wpIn_wide.2 ?_
        go_quiet (fail)
        gi_wp2
        refine ⟨by simp, .inl ⟨_, _, rfl, run_takeDeferred (by simpa using HK.out), ?_⟩⟩
        obtain ⟨g1, g2⟩ := HFin.out nq _ rfl
        refine ⟨_, results_tmp2 rfl _ _ _, w.heap.size + 1, fun _ => 0, ?_, ⟨g2, fun i hi => absurd hi (by omega), fun i hi => absurd hi (by omega)⟩, by omega, fun i hi => absurd hi (by omega), hz2.symm, g1⟩
        rw [hz1, hs0]
        simp
    · have hz1 := HZ1.out
      have hz2 := HZ2.out
      have bO := Boxed.new ((w.alloc (.cells #[.int .i64 (k : Int)] 3)).alloc (.cells (zeros 0) 175)) 90 (.slice (some ⟨w.heap.size + 1, 0, none⟩) 0 0)
      have bC := Boxed.new (((w.alloc (.cells #[.int .i64 (k : Int)] 3)).alloc (.cells (zeros 0) 175)).alloc (.cells #[.slice (some ⟨w.heap.size + 1, 0, none⟩) 0 0] 90)) 112 (.int .u64 0)
      have bN := Boxed.new ((((w.alloc (.cells #[.int .i64 (k : Int)] 3)).alloc (.cells (zeros 0) 175)).alloc (.cells #[.slice (some ⟨w.heap.size + 1, 0, none⟩) 0 0] 90)).alloc (.cells #[.int .u64 0] 112)) 90 (.slice (Option.map (fun x => x.add n) A) 0 (cap - n))
      simp only [World.size_alloc] at bO bC bN
      have hB0 : Below w.heap.size w (((((w.alloc (.cells #[.int .i64 (k : Int)] 3)).alloc (.cells (zeros 0) 175)).alloc (.cells #[.slice (some ⟨w.heap.size + 1, 0, none⟩) 0 0] 90)).alloc (.cells #[.int .u64 0] 112)).alloc (.cells #[.slice (Option.map (fun x => x.add n) A) 0 (cap - n)] 90)) := (((((Below.refl _ w).alloc (Nat.le_refl _) _).alloc (by simp) _).alloc (by simp; omega) _).alloc (by simp; omega) _).alloc (by simp; omega) _
      refine wpIn_rangeFunc_ownG rfl (by omega) (gf := 225) (lb := #[.pointer (some ⟨w.heap.size + 1 + 1 + 1 + 1, 0, none⟩)]) rfl trivial (enters_of Tryz.func225 (by kernel_rfl) rfl)
        (down_stops Fence.wide _ trivial rfl (by omega) (w.heap.size + 1 + 1 + 1 + 1) w.heap.size ((Option.map (fun x => x.add n) A)) 0 ((cap - n)) (fun _ => 0) (by omega) _ (by simp) bN.cell (At.zero _ _ _) (fun _ _ _ h0 => absurd h0 (by omega)))
        Kp2.trans (fun W l o o' h1 h2 h3 h4 => Kp2.putObj (by simp; omega) (by simp) W l o o' h1 h2 h3 h4) (Below.refl _ _) (fun _ => rfl)
        (fun pre W => (W.cell? ⟨w.heap.size + 1 + 1, 0, none⟩ = some (.slice (some ⟨w.heap.size + 1, 0, none⟩) 0 0) ∧ W.cell? ⟨w.heap.size + 1 + 1 + 1, 0, none⟩ = some (.int .u64 0)) ∧ Below w.heap.size w W)
        (fun _ _ _ => False)
        (OwnFrom.and (Own.from (fun s A B row hs hg hr => ⟨cell_kept hs.1 hg hr, cell_kept hs.2 hg hr⟩) _) (ownFrom_below (Nat.le_refl _) (by simp; omega)))
        (fun _ _ _ _ _ hs _ _ => hs)
        ⟨⟨((bO.alloc _).alloc _).cell, (bC.alloc _).cell⟩, hB0⟩
        (fun x : Fin 0 => x.elim0) (fun _ x => x.elim0) (fun _ _ x => x.elim0) ?_ (fun _ _ _ _ _ _ h _ => h.elim)
      rintro D ys W hD _ ⟨⟨hc2, hc3⟩, hBe⟩ hK
      have fin : ∀ (n : Nat) (W' : World), W' = (W.drewN n).putObj D (.deferred none) → Below w.heap.size w W' ∧ w.heap.size + 1 < W'.heap.size := fun n W' e => by
        subst e
        have hK' : (W.drewN n).heap[D]? = some (.deferred (some [])) := by simpa using hK
        exact ⟨(below_drewN hBe n).trans (belowK_b (w := w) (Nat.le_refl _) _ D _ _ (by simp at hD; omega) hK' rfl rfl), by have := (Array.getElem?_eq_some_iff.1 hK).1; simp [World.putObj]; simp at hD; omega⟩
      have HFin := Lib.hid fin
      have HK := Lib.hid hK
      clear fin hK
      cases hs0 : some0 g n
      · gi_wp2
        refine wpIn_wide.2 ?_
        go_quiet (fail)
        gi_wp2
        refine ⟨by simp, .inl ⟨_, _, rfl, run_takeDeferred (by simpa using HK.out), ?_⟩⟩
        obtain ⟨g1, g2⟩ := HFin.out nq _ rfl
        refine ⟨_, results_tmp2 rfl _ _ _, w.heap.size + 1, fun _ => 0, ?_, ⟨g2, fun i hi => absurd hi (by omega), fun i hi => absurd hi (by omega)⟩, by omega, fun i hi => absurd hi (by omega), hz2.symm, g1⟩
        rw [hz1, hs0]
        simp
      · gi_wp2
        refine wpIn_wide.2 ?_
        go_quiet (fail)
        gi_wp2
        refine ⟨by simp, .inl ⟨_, _, rfl, run_takeDeferred (by simpa using HK.out), ?_⟩⟩
        obtain ⟨g1, g2⟩ := HFin.out nq _ rfl
        refine ⟨_, results_tmp2 rfl _ _ _, w.heap.size + 1, fun _ => 0, ?_, ⟨g2, fun i hi => absurd hi (by omega), fun i hi => absurd hi (by omega)⟩, by omega, fun i hi => absurd hi (by omega), hz2.symm, g1⟩
        rw [hz1, hs0]
        simp
  · have hkc' : (k : Int) / 32 = (n : Int) := hkc.symm
    clear hkn hkc
    gi_wp2_with (first
      | (refine ⟨trivial, ?_⟩; gi_at_call 197; refine (callsIn_wide.2 (contains_calls _ A n cap g hn HG.out (HA.out.below ((Below.refl _ _).alloc (Nat.le_refl _) _)))).mono ?_; rintro e w' ⟨rfl, rfl⟩)
      | (refine ⟨trivial, ?_⟩; gi_at_call 193; refine (down_in Fence.wide _ trivial rfl _ _ _ _).mono ?_; rintro e w' ⟨rfl, rfl⟩))
    · have hz1 := HZ1.out
      have hz2 := HZ2.out
      have bO := Boxed.new ((w.alloc (.cells #[.int .i64 (k : Int)] 3)).alloc (.cells (zeros 0) 175)) 90 (.slice (some ⟨w.heap.size + 1, 0, none⟩) 0 0)
      have bC := Boxed.new (((w.alloc (.cells #[.int .i64 (k : Int)] 3)).alloc (.cells (zeros 0) 175)).alloc (.cells #[.slice (some ⟨w.heap.size + 1, 0, none⟩) 0 0] 90)) 112 (.int .u64 0)
      have bN := Boxed.new ((((w.alloc (.cells #[.int .i64 (k : Int)] 3)).alloc (.cells (zeros 0) 175)).alloc (.cells #[.slice (some ⟨w.heap.size + 1, 0, none⟩) 0 0] 90)).alloc (.cells #[.int .u64 0] 112)) 90 (.slice A 0 0)
      simp only [World.size_alloc] at bO bC bN
      have hB0 : Below w.heap.size w (((((w.alloc (.cells #[.int .i64 (k : Int)] 3)).alloc (.cells (zeros 0) 175)).alloc (.cells #[.slice (some ⟨w.heap.size + 1, 0, none⟩) 0 0] 90)).alloc (.cells #[.int .u64 0] 112)).alloc (.cells #[.slice A 0 0] 90)) := (((((Below.refl _ w).alloc (Nat.le_refl _) _).alloc (by simp) _).alloc (by simp; omega) _).alloc (by simp; omega) _).alloc (by simp; omega) _
      refine wpIn_rangeFunc_ownG rfl (by omega) (gf := 225) (lb := #[.pointer (some ⟨w.heap.size + 1 + 1 + 1 + 1, 0, none⟩)]) rfl trivial (enters_of Tryz.func225 (by kernel_rfl) rfl)
        (down_stops Fence.wide _ trivial rfl (by omega) (w.heap.size + 1 + 1 + 1 + 1) w.heap.size (A) 0 (0) (fun _ => 0) (by omega) _ (by simp) bN.cell (At.zero _ _ _) (fun _ _ _ h0 => absurd h0 (by omega)))
        Kp2.trans (fun W l o o' h1 h2 h3 h4 => Kp2.putObj (by simp; omega) (by simp) W l o o' h1 h2 h3 h4) (Below.refl _ _) (fun _ => rfl)
        (fun pre W => (W.cell? ⟨w.heap.size + 1 + 1, 0, none⟩ = some (.slice (some ⟨w.heap.size + 1, 0, none⟩) 0 0) ∧ W.cell? ⟨w.heap.size + 1 + 1 + 1, 0, none⟩ = some (.int .u64 0)) ∧ Below w.heap.size w W)
        (fun _ _ _ => False)
        (OwnFrom.and (Own.from (fun s A B row hs hg hr => ⟨cell_kept hs.1 hg hr, cell_kept hs.2 hg hr⟩) _) (ownFrom_below (Nat.le_refl _) (by simp; omega)))
        (fun _ _ _ _ _ hs _ _ => hs)
        ⟨⟨((bO.alloc _).alloc _).cell, (bC.alloc _).cell⟩, hB0⟩
        (fun x : Fin 0 => x.elim0) (fun _ x => x.elim0) (fun _ _ x => x.elim0) ?_ (fun _ _ _ _ _ _ h _ => h.elim)
      rintro D ys W hD _ ⟨⟨hc2, hc3⟩, hBe⟩ hK
      have fin : ∀ (n : Nat) (W' : World), W' = (W.drewN n).putObj D (.deferred none) → Below w.heap.size w W' ∧ w.heap.size + 1 < W'.heap.size := fun n W' e => by
        subst e
        have hK' : (W.drewN n).heap[D]? = some (.deferred (some [])) := by simpa using hK
        exact ⟨(below_drewN hBe n).trans (belowK_b (w := w) (Nat.le_refl _) _ D _ _ (by simp at hD; omega) hK' rfl rfl), by have := (Array.getElem?_eq_some_iff.1 hK).1; simp [World.putObj]; simp at hD; omega⟩
      have HFin := Lib.hid fin
      have HK := Lib.hid hK
      clear fin hK
      cases hs0 : some0 g n
      · gi_wp2
        refine wpIn_wide.2 ?_
        go_quiet (fail)
        gi_wp2
        refine ⟨by simp, .inl ⟨_, _, rfl, run_takeDeferred (by simpa using HK.out), ?_⟩⟩
        obtain ⟨g1, g2⟩ := HFin.out nq _ rfl
        refine ⟨_, results_tmp2 rfl _ _ _, w.heap.size + 1, fun _ => 0, ?_, ⟨g2, fun i hi => absurd hi (by omega), fun i hi => absurd hi (by omega)⟩, by omega, fun i hi => absurd hi (by omega), hz2.symm, g1⟩
        rw [hz1, hs0]
        simp
      · gi_wp2
        refine wpIn_wide.2 ?_
        go_quiet (fail)
        gi_wp2
        refine ⟨by simp, .inl ⟨_, _, rfl, run_takeDeferred (by simpa using HK.out), ?_⟩⟩
        obtain ⟨g1, g2⟩ := HFin.out nq _ rfl
        refine ⟨_, results_tmp2 rfl _ _ _, w.heap.size + 1, fun _ => 0, ?_, ⟨g2, fun i hi => absurd hi (by omega), fun i hi => absurd hi (by omega)⟩, by omega, fun i hi => absurd hi (by omega), hz2.symm, g1⟩
        rw [hz1, hs0]
        simp
    · have hz1 := HZ1.out
      have hz2 := HZ2.out
      have bO := Boxed.new ((w.alloc (.cells #[.int .i64 (k : Int)] 3)).alloc (.cells (zeros 0) 175)) 90 (.slice (some ⟨w.heap.size + 1, 0, none⟩) 0 0)
      have bC := Boxed.new (((w.alloc (.cells #[.int .i64 (k : Int)] 3)).alloc (.cells (zeros 0) 175)).alloc (.cells #[.slice (some ⟨w.heap.size + 1, 0, none⟩) 0 0] 90)) 112 (.int .u64 0)
      have bN := Boxed.new ((((w.alloc (.cells #[.int .i64 (k : Int)] 3)).alloc (.cells (zeros 0) 175)).alloc (.cells #[.slice (some ⟨w.heap.size + 1, 0, none⟩) 0 0] 90)).alloc (.cells #[.int .u64 0] 112)) 90 (.slice (Option.map (fun x => x.add n) A) 0 (cap - n))
      simp only [World.size_alloc] at bO bC bN
      have hB0 : Below w.heap.size w (((((w.alloc (.cells #[.int .i64 (k : Int)] 3)).alloc (.cells (zeros 0) 175)).alloc (.cells #[.slice (some ⟨w.heap.size + 1, 0, none⟩) 0 0] 90)).alloc (.cells #[.int .u64 0] 112)).alloc (.cells #[.slice (Option.map (fun x => x.add n) A) 0 (cap - n)] 90)) := (((((Below.refl _ w).alloc (Nat.le_refl _) _).alloc (by simp) _).alloc (by simp; omega) _).alloc (by simp; omega) _).alloc (by simp; omega) _
      refine wpIn_rangeFunc_ownG rfl (by omega) (gf := 225) (lb := #[.pointer (some ⟨w.heap.size + 1 + 1 + 1 + 1, 0, none⟩)]) rfl trivial (enters_of Tryz.func225 (by kernel_rfl) rfl)
        (down_stops Fence.wide _ trivial rfl (by omega) (w.heap.size + 1 + 1 + 1 + 1) w.heap.size ((Option.map (fun x => x.add n) A)) 0 ((cap - n)) (fun _ => 0) (by omega) _ (by simp) bN.cell (At.zero _ _ _) (fun _ _ _ h0 => absurd h0 (by omega)))
        Kp2.trans (fun W l o o' h1 h2 h3 h4 => Kp2.putObj (by simp; omega) (by simp) W l o o' h1 h2 h3 h4) (Below.refl _ _) (fun _ => rfl)
        (fun pre W => (W.cell? ⟨w.heap.size + 1 + 1, 0, none⟩ = some (.slice (some ⟨w.heap.size + 1, 0, none⟩) 0 0) ∧ W.cell? ⟨w.heap.size + 1 + 1 + 1, 0, none⟩ = some (.int .u64 0)) ∧ Below w.heap.size w W)
        (fun _ _ _ => False)
        (OwnFrom.and (Own.from (fun s A B row hs hg hr => ⟨cell_kept hs.1 hg hr, cell_kept hs.2 hg hr⟩) _) (ownFrom_below (Nat.le_refl _) (by simp; omega)))
        (fun _ _ _ _ _ hs _ _ => hs)
        ⟨⟨((bO.alloc _).alloc _).cell, (bC.alloc _).cell⟩, hB0⟩
        (fun x : Fin 0 => x.elim0) (fun _ x => x.elim0) (fun _ _ x => x.elim0) ?_ (fun _ _ _ _ _ _ h _ => h.elim)
      rintro D ys W hD _ ⟨⟨hc2, hc3⟩, hBe⟩ hK
      have fin : ∀ (n : Nat) (W' : World), W' = (W.drewN n).putObj D (.deferred none) → Below w.heap.size w W' ∧ w.heap.size + 1 < W'.heap.size := fun n W' e => by
        subst e
        have hK' : (W.drewN n).heap[D]? = some (.deferred (some [])) := by simpa using hK
        exact ⟨(below_drewN hBe n).trans (belowK_b (w := w) (Nat.le_refl _) _ D _ _ (by simp at hD; omega) hK' rfl rfl), by have := (Array.getElem?_eq_some_iff.1 hK).1; simp [World.putObj]; simp at hD; omega⟩
      have HFin := Lib.hid fin
      have HK := Lib.hid hK
      clear fin hK
      cases hs0 : some0 g n
      · gi_wp2
        refine wpIn_wide.2 ?_
        go_quiet (fail)
        gi_wp2
        refine ⟨by simp, .inl ⟨_, _, rfl, run_takeDeferred (by simpa using HK.out), ?_⟩⟩
        obtain ⟨g1, g2⟩ := HFin.out nq _ rfl
        refine ⟨_, results_tmp2 rfl _ _ _, w.heap.size + 1, fun _ => 0, ?_, ⟨g2, fun i hi => absurd hi (by omega), fun i hi => absurd hi (by omega)⟩, by omega, fun i hi => absurd hi (by omega), hz2.symm, g1⟩
        rw [hz1, hs0]
        simp
      · gi_wp2
        refine wpIn_wide.2 ?_
        go_quiet (fail)
        gi_wp2
        refine ⟨by simp, .inl ⟨_, _, rfl, run_takeDeferred (by simpa using HK.out), ?_⟩⟩
        obtain ⟨g1, g2⟩ := HFin.out nq _ rfl
        refine ⟨_, results_tmp2 rfl _ _ _, w.heap.size + 1, fun _ => 0, ?_, ⟨g2, fun i hi => absurd hi (by omega), fun i hi => absurd hi (by omega)⟩, by omega, fun i hi => absurd hi (by omega), hz2.symm, g1⟩
        rw [hz1, hs0]
        simp

theorem right_calls (w : World) (A : Option Addr) (n cap k : Nat) (g : Nat → Int) (hn : n ≤ 1099511627776) (hk : k ≤ 1099511627776) (hc : n ≤ cap) (ha : At w A g n) (hdg : Num.Dig g n) :
    Calls Tryz.prog 151 #[.slice A n cap, .int .i64 k] w (RightPost (Num.val g n) (n - k / 32) k w) := by
  rcases Nat.lt_or_ge (k / 32) n with hlt | hge
  · obtain ⟨b, off, rfl, hb, hcell⟩ := ha (by omega)
    have h := right_lt w b off (k / 32) (n - k / 32) (k % 32) cap k g (by omega) (by omega) (by omega) (by omega) (by omega) hb (fun i hi => hcell i (by omega)) (by rw [show k / 32 + (n - k / 32) = n by omega]; exact hdg)
    rw [show k / 32 + (n - k / 32) = n by omega] at h
    exact callsIn_wide.1 h
  · rw [show n - k / 32 = 0 by omega]
    exact callsIn_wide.1 (right_ge w A n cap k g (by omega) hn hk hc ha hdg)

end Go.Proofs.YtilaheplclaokaaGreatDoor
namespace Go.Proofs.YtilaheplclaokaaGreatDoor
open Go.RowKit Go.Shelf
attribute [local go_sem] Oper.semAt_some

/-- A row divided by one limb. -/
def ShortPost (x e : Int) (w : World) (en : Ending) (w' : World) : Prop :=
  ∃ A n cap o, en = .returned (.tuple #[.slice A n cap, .int .u32 (x % e)]) ∧ n ≤ cap ∧ New w w' A o n ∧ Num.Dig o n ∧ Num.Trim o n ∧ Num.val o n = x / e ∧ Below w.heap.size w w'

set_option maxRecDepth 100000 in
set_option maxHeartbeats 2000000 in
theorem short_in (w : World) (A : Option Addr) (d cap : Nat) (e : Int) (g : Nat → Int) (hn : d ≤ 1099511627776) (he0 : 0 < e) (he1 : e < 4294967296) (ha : At w A g d) (hdg : Num.Dig g d) :
    CallsIn Fence.wide 9 Tryz.prog 147 #[.slice A d cap, .int .u32 e] w (ShortPost (Num.val g d) e w) := by
  have HA := Lib.hid ha
  have HG := Lib.hid hdg
  have hmk := make_limbs d (by omega)
  clear ha hdg
  refine callsIn_of_wp_marks Tryz.func147 rfl trivial ?_ rfl
  simp only [Tryz.ntmps147, List.size_toArray, List.length_cons, List.length_nil, Nat.reduceAdd, Nat.reduceSub, Array.replicate_succ, Array.replicate_zero, List.push_toArray, List.append_toArray, List.nil_append, List.cons_append]
  gi_wp2_with (refine ⟨trivial, ?_⟩; gi_at_call 193; refine (down_in Fence.wide _ trivial rfl _ _ _ _).mono ?_; rintro e w' ⟨rfl, rfl⟩)
  have hkb := Boxed.new w 175 (.int .u32 e)
  have hbuf := Buf.new (w.alloc (.cells #[.int .u32 e] 175)) d 175
  rw [World.size_alloc] at hbuf
  have bO := Boxed.new ((w.alloc (.cells #[.int .u32 e] 175)).alloc (.cells (zeros d) 175)) 90 (.slice (some ⟨w.heap.size + 1, 0, none⟩) d d)
  have bC := Boxed.new (((w.alloc (.cells #[.int .u32 e] 175)).alloc (.cells (zeros d) 175)).alloc (.cells #[.slice (some ⟨w.heap.size + 1, 0, none⟩) d d] 90)) 175 (.int .u32 0)
  have bN := Boxed.new ((((w.alloc (.cells #[.int .u32 e] 175)).alloc (.cells (zeros d) 175)).alloc (.cells #[.slice (some ⟨w.heap.size + 1, 0, none⟩) d d] 90)).alloc (.cells #[.int .u32 0] 175)) 90 (.slice A d cap)
  simp only [World.size_alloc] at bO bC bN
  have hB0 : Below w.heap.size w (((((w.alloc (.cells #[.int .u32 e] 175)).alloc (.cells (zeros d) 175)).alloc (.cells #[.slice (some ⟨w.heap.size + 1, 0, none⟩) d d] 90)).alloc (.cells #[.int .u32 0] 175)).alloc (.cells #[.slice A d cap] 90)) := (((((Below.refl _ w).alloc (Nat.le_refl _) _).alloc (by simp) _).alloc (by simp; omega) _).alloc (by simp; omega) _).alloc (by simp; omega) _
  clear hmk
  refine wpIn_rangeFunc_ownG rfl (by omega) (gf := 225) (lb := #[.pointer (some ⟨w.heap.size + 1 + 1 + 1 + 1, 0, none⟩)]) rfl trivial (enters_of Tryz.func225 (by kernel_rfl) rfl)
    (down_stops Fence.wide _ trivial rfl (by omega) (w.heap.size + 1 + 1 + 1 + 1) w.heap.size A d cap g hn _ (by simp) bN.cell (HA.out.below hB0) (fun b off e h0 => by obtain ⟨b', off', e', hlt, _⟩ := HA.out h0; rw [e] at e'; cases e'; exact hlt))
    Kp2.trans (fun W l o o' h1 h2 h3 h4 => Kp2.putObj (by simp; omega) (by simp) W l o o' h1 h2 h3 h4) (Below.refl _ _) (fun _ => rfl)
    (fun pre W => (W.cell? ⟨w.heap.size, 0, none⟩ = some (.int .u32 e) ∧ W.cell? ⟨w.heap.size + 1 + 1, 0, none⟩ = some (.slice (some ⟨w.heap.size + 1, 0, none⟩) d d) ∧ W.cell? ⟨w.heap.size + 1 + 1 + 1, 0, none⟩ = some (.int .u32 (Num.rfold e g (pre.map Fin.val)).1) ∧ W.frozen? ⟨w.heap.size + 1 + 1 + 1, 0, none⟩ = false ∧ Buf W (w.heap.size + 1) d (Num.rfold e g (pre.map Fin.val)).2) ∧ Below w.heap.size w W)
    (fun _ _ _ => False)
    (OwnFrom.and (Own.from (fun s A B row hs hg hr => ⟨cell_kept hs.1 hg hr, cell_kept hs.2.1 hg hr, cell_kept hs.2.2.1 hg hr, (frozen_kept hs.2.2.1 hg hr).trans hs.2.2.2.1, hs.2.2.2.2.own hg hr⟩) _) (ownFrom_below (Nat.le_refl _) (by simp; omega)))
    (fun _ _ _ _ _ hs _ _ => hs)
    ⟨⟨((((hkb.alloc _).alloc _).alloc _).alloc _).cell, ((bO.alloc _).alloc _).cell, (bC.alloc _).cell, (bC.alloc _).frozen, ((hbuf.alloc _).alloc _).alloc _⟩, hB0⟩
    (fun x : Fin d => { tmps := #[.slice A d cap, .int .u32 e, undef, .pointer (some ⟨w.heap.size, 0, none⟩), .slice none 0 0, .int .u32 0, .pointer (some ⟨w.heap.size + 1 + 1, 0, none⟩), .pointer (some ⟨w.heap.size + 1 + 1 + 1, 0, none⟩), .int .i64 ((x : Nat) : Int), .int .u32 (g x), .slice A d cap, .int .i64 (d : Int), .slice (some ⟨w.heap.size + 1, 0, none⟩) d d, .slice A d cap, .func (.func 225) #[] #[.pointer (some ⟨w.heap.size + 1 + 1 + 1 + 1, 0, none⟩)], .int .i64 ((x : Nat) : Int), .int .u32 (g x), undef, undef, undef, undef, undef, undef, undef, undef, undef, undef, undef, undef, undef], defers := [] }) ?assign ?body ?done ?stop
  case assign =>
    intro l x W K hK
    gi_wp2
    exact hK
  case body =>
    rintro l pre x W ⟨⟨hc0, hc2, hc3, hf3, hbf⟩, hBe⟩ hlen
    obtain ⟨i, hi⟩ := x
    have hr := Num.rfold_range he0 g (pre.map Fin.val)
    have hx := HG.out i hi
    have hbb := hbf.cell i hi
    have hbfr := hbf.free i hi
    have HBf := Lib.hid hbf
    have HBe := Lib.hid hBe
    clear hbf hBe
    obtain ⟨q, hq⟩ : ∃ q, q = (Num.rfold e g (pre.map Fin.val)).1 := ⟨_, rfl⟩
    obtain ⟨o, ho⟩ : ∃ o, o = (Num.rfold e g (pre.map Fin.val)).2 := ⟨_, rfl⟩
    obtain ⟨x, hxe⟩ : ∃ x, x = g i := ⟨_, rfl⟩
    rw [← hq] at hc3 hr
    rw [← ho] at hbb
    rw [← hxe] at hx
    simp only [← hxe]
    have HQ := Lib.hid hq
    have HO := Lib.hid ho
    have HX := Lib.hid hxe
    clear hq ho hxe
    gi_wp2
    refine regionIn_any (by kernel_rfl) (by kernel_rfl) (by rintro ⟨_, _, h⟩; exact h) ?_
    refine wpAny_of_held (S := fun W' => W'.cell? ⟨w.heap.size, 0, none⟩ = some (.int .u32 e) ∧ W'.cell? ⟨w.heap.size + 1 + 1, 0, none⟩ = some (.slice (some ⟨w.heap.size + 1, 0, none⟩) d d)) _ _ _ _ ?_
    have hS : (W.drew).cell? ⟨w.heap.size, 0, none⟩ = some (.int .u32 e) ∧ (W.drew).cell? ⟨w.heap.size + 1 + 1, 0, none⟩ = some (.slice (some ⟨w.heap.size + 1, 0, none⟩) d d) := ⟨hc0, hc2⟩
    refine wpAnyH_take (i := 0) (v := .slice (some ⟨w.heap.size + 1, 0, none⟩) d d) rfl (by kernel_rfl) (by kernel_rfl) (by kernel_rfl) (fun _ _ _ h => h) (.inl ⟨rfl, fun w0 hw0 => ?a0⟩) hS ?_
    case a0 =>
      obtain ⟨g0, g2⟩ := hw0
      go_simp
    refine wpAnyH_take (i := 1) (v := .int .i64 (i : Int)) rfl (by kernel_rfl) (by kernel_rfl) (by kernel_rfl) (fun _ _ _ h => h) (.inl ⟨rfl, fun w0 hw0 => ?a1⟩) hS ?_
    case a1 => go_simp
    refine wpAnyH_take (i := 3) (v := .int .u32 x) rfl (by kernel_rfl) (by kernel_rfl) (by kernel_rfl) (fun _ _ _ h => h) (.inl ⟨rfl, fun w0 hw0 => ?a3⟩) hS ?_
    case a3 =>
      go_simp
    refine wpAnyH_take (i := 4) (v := .int .u32 e) rfl (by kernel_rfl) (by kernel_rfl) (by kernel_rfl) (fun _ _ _ h => h) (.inl ⟨rfl, fun w0 hw0 => ?a4⟩) hS ?_
    case a4 =>
      obtain ⟨g0, g2⟩ := hw0
      go_simp
    refine wpAnyH_all (rs := [2]) (by kernel_rfl) (by simp) ?_
    intro i0 hi0
    obtain rfl : i0 = 2 := by simpa using hi0
    refine wpOp_plain rfl rfl fun K' hK' => ?_
    go_simp
    refine hK' _ _ ⟨hS, ?_⟩
    clear hK' K'
    refine wpAnyH_all (rs := [5]) (by kernel_rfl) (by simp) ?_
    intro i0 hi0
    obtain rfl : i0 = 5 := by simpa using hi0
    refine wpOp_plain rfl rfl fun K' hK' => ?_
    go_simp
    refine (div32_calls q x e hr.1 (by omega) hx.1 hx.2 hr.2 he1 _).mono ?_
    rintro en W3 ⟨rfl, nq, rfl⟩
    have hS : (W.drew.drewN nq).cell? ⟨w.heap.size, 0, none⟩ = some (.int .u32 e) ∧ (W.drew.drewN nq).cell? ⟨w.heap.size + 1 + 1, 0, none⟩ = some (.slice (some ⟨w.heap.size + 1, 0, none⟩) d d) := ⟨cell_drewN nq hS.1, cell_drewN nq hS.2⟩
    refine hK' _ _ ⟨hS, ?_⟩
    clear hK' K'
    refine wpAnyH_take (i := 6) (v := .tuple #[.int .u32 ((q * 4294967296 + x) / e), .int .u32 ((q * 4294967296 + x) % e)]) rfl (by kernel_rfl) (by kernel_rfl) (by kernel_rfl) (fun _ _ _ h => h) (.inl ⟨rfl, fun w0 hw0 => ?a6⟩) hS ?_
    case a6 =>
      go_simp
    refine wpAnyH_take (i := 7) (v := .int .u32 ((q * 4294967296 + x) / e)) rfl (by kernel_rfl) (by kernel_rfl) (by kernel_rfl) (fun _ _ _ h => h) (.inl ⟨rfl, fun w0 hw0 => ?a7⟩) hS ?_
    case a7 =>
      go_simp
    refine wpAnyH_take (i := 8) (v := .int .u32 ((q * 4294967296 + x) % e)) rfl (by kernel_rfl) (by kernel_rfl) (by kernel_rfl) (fun _ _ _ h => h) (.inl ⟨rfl, fun w0 hw0 => ?a8⟩) hS ?_
    case a8 =>
      go_simp
    refine wpAnyH_take (i := 9) (v := .pointer (some ⟨w.heap.size + 1, i, none⟩)) rfl (by kernel_rfl) (by kernel_rfl) (by kernel_rfl) (fun _ _ _ h => h) (.inl ⟨rfl, fun w0 hw0 => ?a9⟩) hS ?_
    case a9 =>
      go_simp
    refine wpAnyH_all (rs := [10]) (by kernel_rfl) (by simp) ?_
    intro i0 hi0
    obtain rfl : i0 = 10 := by simpa using hi0
    refine wpOp_plain rfl rfl fun K' hK' => ?_
    go_simp
    have hS3 : ((W.drewN (1 + nq)).setCell ⟨w.heap.size + 1, i, none⟩ (.int .u32 ((q * 4294967296 + x) / e))).cell? ⟨w.heap.size, 0, none⟩ = some (.int .u32 e) ∧ ((W.drewN (1 + nq)).setCell ⟨w.heap.size + 1, i, none⟩ (.int .u32 ((q * 4294967296 + x) / e))).cell? ⟨w.heap.size + 1 + 1, 0, none⟩ = some (.slice (some ⟨w.heap.size + 1, 0, none⟩) d d) :=
      ⟨cell_far (cell_drewN _ hc0) (by simp <;> omega), cell_far (cell_drewN _ hc2) (by simp <;> omega)⟩
    have hc3' : ((W.drewN (1 + nq)).setCell ⟨w.heap.size + 1, i, none⟩ (.int .u32 ((q * 4294967296 + x) / e))).cell? ⟨w.heap.size + 1 + 1 + 1, 0, none⟩ = some (.int .u32 q) := cell_far (cell_drewN _ hc3) (by simp <;> omega)
    refine hK' _ _ ⟨hS3, ?_⟩
    clear hK' K'
    refine wpAnyH_all (rs := [11]) (by kernel_rfl) (by simp) ?_
    intro i0 hi0
    obtain rfl : i0 = 11 := by simpa using hi0
    refine wpOp_plain rfl rfl fun K' hK' => ?_
    go_simp
    refine hK' _ _ ⟨⟨cell_far hS3.1 (by simp <;> omega), cell_far hS3.2 (by simp <;> omega)⟩, ?_⟩
    clear hK' K'
    refine wpAnyH_done (by kernel_rfl) ?_ _
    have hfold : Num.rfold e g ((pre ++ [(⟨i, hi⟩ : Fin d)]).map Fin.val) = ((q * 4294967296 + x) % e, Num.upd o i ((q * 4294967296 + x) / e)) := by
      rw [List.map_append, List.map_cons, List.map_nil, Num.rfold_snoc, Num.rstep, ← HQ.out, ← HO.out, HX.out]
    refine ⟨keepsFrom_setCell (keepsFrom_setCell (keepsFrom_drewN (KeepsFrom.refl _ _) _) _ _) _ _, ?_, ⟨?_, ?_, ?_, ?_, ?_⟩, ?_⟩
    · exact (((Kp2.refl _ _ _).drewN _).setCell _ _ (by simp <;> omega) (by simp <;> omega)).setCell _ _ (by simp <;> omega) (by simp <;> omega)
    · exact cell_far hS3.1 (by simp <;> omega)
    · exact cell_far hS3.2 (by simp <;> omega)
    · rw [hfold]
      exact World.cell?_setCell_same' _ _ _ (by rw [hc3']; rfl)
    · simpa using hf3
    · rw [hfold]
      have := (((HO.out ▸ HBf.out).drewN (1 + nq)).set ((q * 4294967296 + x) / e) hi).setFar ⟨w.heap.size + 1 + 1 + 1, 0, none⟩ (.int .u32 ((q * 4294967296 + x) % e)) (by simp <;> omega)
      exact this
    · exact ((below_drewN HBe.out _).setCell (p := ⟨w.heap.size + 1, i, none⟩) (by simp) _).setCell (p := ⟨w.heap.size + 1 + 1 + 1, 0, none⟩) (by simp <;> omega) _
  case done =>
    rintro D ys W hD rfl ⟨⟨hc0, hc2, hc3, hf3, hbf⟩, hBe⟩ hK
    rw [dl_val d] at hc3 hbf
    obtain ⟨f1, f2⟩ := Num.rfold_dn he0 g d 0
    have hr := Num.rfold_range he0 g (Num.dn 0 d)
    have hod := Num.rfold_dig he0 HG.out (Num.dn 0 d) (fun i hi => by simp [Num.dn] at hi; omega)
    have e0 : ∀ x : Nat → Int, Num.from_ x 0 = x := fun x => by funext i; simp [Num.from_]
    simp only [e0] at f1 f2
    rw [f1] at hc3
    obtain ⟨o, ho⟩ : ∃ o, o = (Num.rfold e g (Num.dn 0 d)).2 := ⟨_, rfl⟩
    rw [← ho] at hbf hod f2
    obtain ⟨r, hr⟩ : ∃ r, r = Num.val g d % e := ⟨_, rfl⟩
    rw [← hr] at hc3
    have HR := Lib.hid hr
    have HF2 := Lib.hid f2
    have HBf := Lib.hid hbf
    have HOd := Lib.hid hod
    clear f1 f2 ho hbf hod e0 hr
    gi_wp2
    refine wpIn_wide.2 ?_
    go_quiet ((go_at_call 144; exact Calls.quiet_of_same ((trim_some _ (w.heap.size + 1) 0 d d o (Nat.le_refl _) hn (fun i hi => by rw [Nat.zero_add]; exact cell_drewN _ (HBf.out.cell i hi))).mono fun _ _ h => ⟨h.1, h.2.symm⟩)))
    gi_wp2
    refine ⟨by simp, .inl ⟨_, _, rfl, run_takeDeferred (by simpa using hK), ?_⟩⟩
    have hK' : (W.drewN nq).heap[D]? = some (.deferred (some [])) := by simpa using hK
    have hB' := (HBf.out.drewN nq).own (grownBy_putObj' _ D (.deferred none)) (fun r e => by cases e; exact ⟨_, hK', rfl⟩)
    have hle := Num.tl_le o d
    refine ⟨_, results_tmp2 rfl _ _ _, _, Num.tl o d, _, o, ?_, hle, fun _ => ⟨_, rfl, by omega, ⟨hB'.lt, fun i hi => hB'.cell i (by omega), fun i hi => hB'.free i (by omega)⟩⟩, HOd.out.mono hle, Num.tl_trim o d, by rw [← Num.tl_val]; exact HF2.out, (below_drewN hBe nq).trans (belowK_b (w := w) (Nat.le_refl _) _ D _ _ (by simp at hD; omega) hK' rfl rfl)⟩
    rw [← HR.out]
    rfl
  case stop =>
    rintro D c pre W _ _ h _
    exact h.elim

end Go.Proofs.YtilaheplclaokaaGreatDoor
namespace Go.Proofs.YtilaheplclaokaaGreatDoor
namespace Num

theorem Dig.of_upd {o g : Nat → Int} {k n : Nat} {z : Int} (h : Dig o n) (h0 : 0 ≤ z) (h1 : z < 4294967296) : Dig (Num.upd o k z) n := h.upd h0 h1

/-- One round of a multiple taken away. -/
theorem take_step {g h o : Nat → Int} {k : Nat} {q c r : Int} (h0 : 0 ≤ g k) (h1 : g k < 4294967296) (hr0 : 0 ≤ r) (hr1 : r ≤ 1)
    (hv : val o k - (c + r) * P k = val g k - q * val h k) :
    val (upd o k ((g k - (c + q * h k) % 4294967296 - r) % 4294967296)) (k + 1) - ((c + q * h k) / 4294967296 + bor (g k) ((c + q * h k) % 4294967296) r) * P (k + 1) = val g (k + 1) - q * val h (k + 1) := by
  have h2 : 0 ≤ (c + q * h k) % 4294967296 := Int.emod_nonneg _ (by omega)
  have h3 : (c + q * h k) % 4294967296 < 4294967296 := Int.emod_lt_of_pos _ (by omega)
  rw [bor_eq h0 h1 h2 h3 hr0 hr1]
  have h4 : c + q * h k = 4294967296 * ((c + q * h k) / 4294967296) + (c + q * h k) % 4294967296 := by omega
  generalize (c + q * h k) / 4294967296 = d at *
  generalize (c + q * h k) % 4294967296 = l at *
  generalize bor (g k) l r = s
  simp only [val, upd_same, P_succ, B_eq, val_upd_ge (Nat.le_refl k)]
  generalize val o k = V at *
  generalize val g k = G at *
  generalize val h k = H at *
  generalize P k = p at *
  have h5 : c = 4294967296 * d + l - q * h k := by omega
  subst h5
  grind
theorem take_last {g h o : Nat → Int} {n : Nat} {q c r : Int} (h0 : 0 ≤ g n) (h1 : g n < 4294967296) (hr0 : 0 ≤ r) (hr1 : r ≤ 1) (hc0 : 0 ≤ c) (hc1 : c < 4294967296)
    (hv : val o n - (c + r) * P n = val g n - q * val h n) :
    val (upd o n ((g n - c - r) % 4294967296)) (n + 1) - bor (g n) c r * P (n + 1) = val g (n + 1) - q * val h n := by
  rw [bor_eq h0 h1 hc0 hc1 hr0 hr1]
  generalize bor (g n) c r = s
  simp only [val, upd_same, P_succ, B_eq, val_upd_ge (Nat.le_refl n)]
  generalize val o n = V at *
  generalize val g n = G at *
  generalize val h n = H at *
  generalize P n = p at *
  grind
theorem take_carry {q x c : Int} (hq0 : 0 ≤ q) (hq1 : q < 4294967296) (hx0 : 0 ≤ x) (hx1 : x < 4294967296) (hc0 : 0 ≤ c) (hc1 : c < 4294967296) :
    0 ≤ q * x ∧ q * x ≤ 18446744065119617025 ∧ 0 ≤ (c + q * x) / 4294967296 ∧ (c + q * x) / 4294967296 < 4294967296 ∧ 0 ≤ (c + q * x) % 4294967296 ∧ (c + q * x) % 4294967296 < 4294967296 := by
  have := prod_lt hq0 hq1 hx0 hx1
  generalize q * x = y at *
  omega
/-- The borrow at the end says whether the multiple was too great. -/
theorem take_end {o : Nat → Int} {n : Nat} {x y s : Int} (hd : Dig o n) (hs0 : 0 ≤ s) (hs1 : s ≤ 1) (hv : val o n - s * P n = x - y) (hx1 : x < P n) (hy1 : 0 ≤ y) : (s == 0) = decide (y ≤ x) ∧ (y ≤ x → val o n = x - y) := by
  have h0 := val_nonneg hd
  have h1 := val_lt hd
  have h2 : s = 0 ∨ s = 1 := by omega
  rcases h2 with rfl | rfl
  · rw [decide_eq_true (by omega)]; exact ⟨rfl, fun _ => by omega⟩
  · rw [decide_eq_false (by omega)]; exact ⟨rfl, fun _ => by omega⟩

/-- The first guess at a digit is not too small. -/
theorem digit {u v : Nat → Int} {m : Nat} (hu : Dig u (m + 1 + 1)) (hv : Dig v (m + 1)) (h0 : v m ≠ 0) (hlt : val u (m + 1 + 1) < val v (m + 1) * 4294967296) :
    0 < val v (m + 1) ∧ 0 ≤ val u (m + 1 + 1) / val v (m + 1) ∧ val u (m + 1 + 1) / val v (m + 1) < 4294967296 ∧
    (∀ y, y * val v (m + 1) ≤ val u (m + 1 + 1) ↔ y ≤ val u (m + 1 + 1) / val v (m + 1)) ∧
    (u (m + 1) < v m → val u (m + 1 + 1) / val v (m + 1) ≤ (u (m + 1) * 4294967296 + u m) / v m) := by
  have hV := val_ge hv h0
  have hP := P_pos m
  have hU := val_nonneg hu
  have hV0 : 0 < val v (m + 1) := by omega
  have hv1 := (hv m (by omega)).1
  refine ⟨hV0, Int.ediv_nonneg hU (by omega), Int.ediv_lt_of_lt_mul hV0 (by rw [Int.mul_comm]; exact hlt), fun y => (Int.le_ediv_iff_mul_le hV0).symm, fun _ => ?_⟩
  rw [Int.le_ediv_iff_mul_le (by omega)]
  have h1 : val u (m + 1 + 1) / val v (m + 1) * val v (m + 1) ≤ val u (m + 1 + 1) := Int.ediv_mul_le _ (by omega)
  have h2 : 0 ≤ val u (m + 1 + 1) / val v (m + 1) := Int.ediv_nonneg hU (by omega)
  generalize val u (m + 1 + 1) / val v (m + 1) = q at *
  have h3 : q * (v m * P m) ≤ q * val v (m + 1) := Int.mul_le_mul_of_nonneg_left (by simp only [val]; have := val_nonneg (hv.mono (Nat.le_succ m)); omega) h2
  have h4 : val u (m + 1 + 1) < (u (m + 1) * 4294967296 + u m + 1) * P m := by
    have := val_lt (hu.mono (show m ≤ m + 1 + 1 by omega))
    simp only [val, P_succ, B_eq]
    generalize P m = p at *
    generalize val u m = z at *
    have e : (u (m + 1) * 4294967296 + u m + 1) * p = u (m + 1) * (p * 4294967296) + u m * p + p := by grind
    omega
  have h5 : q * v m * P m < (u (m + 1) * 4294967296 + u m + 1) * P m := by rw [Int.mul_assoc]; omega
  have := Int.lt_of_mul_lt_mul_right h5 (Int.le_of_lt hP)
  omega

/-- Two rows that differ in a window only. -/
theorem val_window {o o' : Nat → Int} {j w M : Nat} (hM : j + w ≤ M) (h : ∀ i, i < j ∨ j + w ≤ i → o' i = o i) : val o' M = val o M + (val (from_ o' j) w - val (from_ o j) w) * P j := by
  obtain ⟨d, rfl⟩ := Nat.exists_eq_add_of_le hM
  have e1 := val_split o (j + w) d
  have e2 := val_split o' (j + w) d
  have e3 := val_split o j w
  have e4 := val_split o' j w
  have e5 : val (from_ o' (j + w)) d = val (from_ o (j + w)) d := val_congr fun i _ => h _ (by omega)
  have e6 : val o' j = val o j := val_congr fun i hi => h _ (by omega)
  rw [e1, e2, e3, e4, e5, e6, Int.sub_mul]
  omega
/-- The head of a division: the highest limbs of the dividend are less than the divisor. -/
theorem div_head {o : Nat → Int} {n d : Nat} {a b s : Int} (ho : Dig o (d + n)) (hv : val o (d + n) = a * s) (hs : 0 < s) (hb : a < b * P d) : val (from_ o d) n < b * s := by
  have h1 := val_split o d n
  have h2 := val_nonneg (ho.mono (Nat.le_add_right d n))
  have hP := P_pos d
  have h3 : val (from_ o d) n * P d ≤ a * s := by omega
  have h4 : a * s < b * P d * s := Int.mul_lt_mul_of_pos_right hb hs
  have h5 : val (from_ o d) n * P d < b * s * P d := by
    have : b * P d * s = b * s * P d := by grind
    omega
  exact Int.lt_of_mul_lt_mul_right h5 (Int.le_of_lt hP)
theorem div_first {g h : Nat → Int} {d m : Nat} (hg : Dig g (d + m)) (hh : Dig h (m + 1)) (h0 : h m ≠ 0) : val g (d + m) < val h (m + 1) * P d := by
  have h1 := val_lt hg
  have h2 := val_ge hh h0
  have hP := P_pos d
  have h3 : P m * P d ≤ val h (m + 1) * P d := Int.mul_le_mul_of_nonneg_right h2 (by omega)
  rw [← P_add, Nat.add_comm m d] at h3
  omega
/-- The divisor, shifted till its highest limb is great. -/
theorem div_norm {h o : Nat → Int} {m : Nat} {S : Int} (hh : Dig h (m + 1)) (ho : Dig o (m + 1 + 1)) (hv : val o (m + 1 + 1) = val h (m + 1) * S) (hS : 0 < S) (hx : (h m + 1) * S ≤ 4294967296) (h0 : h m ≠ 0) :
    val o (m + 1) = val h (m + 1) * S ∧ o m ≠ 0 ∧ val h (m + 1) * S < P (m + 1) := by
  have hP := P_pos m
  have h1 := val_lt (hh.mono (Nat.le_succ m))
  have h2 := val_ge hh h0
  have h3 : val h (m + 1) < (h m + 1) * P m := by
    simp only [val]
    rw [Int.add_mul]
    omega
  have h4 : val h (m + 1) * S < P (m + 1) := by
    have h5 := Int.mul_lt_mul_of_pos_right h3 hS
    have h6 : (h m + 1) * S * P m ≤ 4294967296 * P m := Int.mul_le_mul_of_nonneg_right hx (by omega)
    have e : (h m + 1) * P m * S = (h m + 1) * S * P m := by grind
    rw [P_succ, B_eq]
    omega
  have h7 : o (m + 1) = 0 := by
    by_cases h : o (m + 1) = 0
    · exact h
    · have := val_ge ho h
      omega
  have h8 : val o (m + 1) = val h (m + 1) * S := by
    rw [← hv]
    show val o (m + 1) = val o (m + 1) + o (m + 1) * P (m + 1)
    rw [h7]
    omega
  refine ⟨h8, fun h9 => ?_, h4⟩
  have h10 : val o (m + 1) < P m := by
    have := val_lt (ho.mono (show m ≤ m + 1 + 1 by omega))
    simp only [val, h9]
    omega
  have h11 : val h (m + 1) * 1 ≤ val h (m + 1) * S := Int.mul_le_mul_of_nonneg_left (by omega) (by omega)
  omega
/-- One round of a division. -/
theorem div_window {o : Nat → Int} {j n : Nat} {V : Int} (ho : 0 ≤ o j ∧ o j < 4294967296) (h : val (from_ o (j + 1)) n < V) : val (from_ o j) (n + 1) < V * 4294967296 := by
  rw [val_cons]
  omega
theorem div_rest {o : Nat → Int} {j n : Nat} {V : Int} (ho : Dig (from_ o j) (n + 1)) (h : val (from_ o j) (n + 1) < V) (hV : V < P n) : from_ o j n = 0 ∧ val (from_ o j) n < V := by
  have h1 := val_nonneg (ho.mono (Nat.le_succ n))
  by_cases h0 : from_ o j n = 0
  · refine ⟨h0, ?_⟩
    simp only [val, h0] at h
    omega
  · have := val_ge ho h0
    omega
theorem div_round {o o' qq : Nat → Int} {j w M d : Nat} {U V q r X : Int} (hM : j + w ≤ M) (hj : j < d) (h : ∀ i, i < j ∨ j + w ≤ i → o' i = o i) (hX : X = val (from_ o j) w) (hr : val (from_ o' j) w = r) (hqr : X = V * q + r) (h0 : qq j = 0)
    (hU : U = val o M + V * val qq d) : U = val o' M + V * val (upd qq j q) d := by
  rw [val_window hM h, val_upd hj, h0, hr, ← hX, hqr, hU]
  grind
theorem div_end {o : Nat → Int} {n M : Nat} {a b s q : Int} (hM : n ≤ M) (ho : Dig o M) (hz : ∀ i, n ≤ i → i < M → o i = 0) (hlt : val o n < b * s) (hs : 0 < s) (hb : 0 < b) (hU : a * s = val o M + b * s * q) : q = a / b ∧ val o M / s = a % b := by
  rw [val_cut hM hz] at hU ⊢
  have h0 := val_nonneg (ho.mono hM)
  generalize val o n = v at *
  have hd := Int.mul_ediv_add_emod a b
  have hm0 := Int.emod_nonneg a (show b ≠ 0 by omega)
  have hm1 := Int.emod_lt_of_pos a hb
  have hq : q = a / b := by
    symm
    have e : v = (a - b * q) * s := by grind
    have h1 : 0 ≤ a - b * q := by
      rcases Int.lt_or_le (a - b * q) 0 with h | h
      · have := Int.mul_neg_of_neg_of_pos h hs
        omega
      · exact h
    have h2 : a - b * q < b := by
      rw [e] at hlt
      exact Int.lt_of_mul_lt_mul_right hlt (Int.le_of_lt hs)
    have := (Int.ediv_emod_unique (a := a) (b := b) (r := a - b * q) (q := q) hb).2 ⟨by omega, h1, h2⟩
    exact this.1
  refine ⟨hq, ?_⟩
  have e : v = (a - b * q) * s := by grind
  rw [e, Int.mul_ediv_cancel _ (by omega), hq]
  omega

end Num
end Go.Proofs.YtilaheplclaokaaGreatDoor

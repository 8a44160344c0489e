/-
Walk of the closure of trig's circular.
Many blocks and numbers of a world at once.
Many blocks of a world at once: a cell of a block that holds no limbs is laid anew.
A region that draws its order and in which some blocks are made whenever: the making may be put off till the calls have been made.
Numbers far below the limit fit.
A region that draws its order, and one operation of which (a store) undoes what others read ahead of it: two facts on the world, the second of which holds until that operation has come up. No program here.
-/
import Derived.OrdersHeld
import Derived.Test.YtilaheplclaokaaGreatDoorTurn01
import Derived.Test.YtilaheplclaokaaGreatDoorTurn06
set_option linter.unusedVariables false
set_option linter.unusedSimpArgs false
namespace Go.Proofs.YtilaheplclaokaaGreatDoor
open Go.RowKit Go.Shelf
attribute [local go_sem] Oper.semAt_some

theorem At.setI {w : World} {A : Option Addr} {g : Nat → Int} {n b : Nat} {z : Int} {t : TypeId} (h : At w A g n) (hb : Blk w b #[.int .i64 z] t) (u : Value) : At (w.setCell ⟨b, 0, none⟩ u) A g n := fun h0 => by
  obtain ⟨b', off, rfl, hlt, hcell⟩ := h h0
  have hne : b' ≠ b := fun e => by
    subst e
    have h1 := hcell 0 h0
    rw [hb.at] at h1
    match off, h1 with
    | 0, h1 => simp at h1
    | k + 1, h1 => simp at h1
  exact ⟨b', off, rfl, by simpa [World.setCell] using hlt, fun i hi => cell_far (hcell i hi) hne⟩
theorem WD.setI {w : World} {neg : Bool} {A : Option Addr} {n cap : Nat} {x : Int} {b : Nat} {z : Int} {t : TypeId} (h : WD w neg A n cap x) (hb : Blk w b #[.int .i64 z] t) (u : Value) : WD (w.setCell ⟨b, 0, none⟩ u) neg A n cap x := by
  obtain ⟨g, h1, h2, h3, h4, h5⟩ := h
  exact ⟨g, h1, h2, h3, h4.setI hb u, h5⟩
theorem Keeps.setI {C : Nat → Prop} {W : World} {b : Nat} {z : Int} {t : TypeId} (hb : Blk W b #[.int .i64 z] t) (hC : C b) (u : Value) : Keeps C W (W.setCell ⟨b, 0, none⟩ u) where
  os := rfl
  tape := rfl
  output := rfl
  size := by simp [World.setCell]
  block := fun k _ hk => by
    have hne : k ≠ b := fun e => hk (e ▸ hC)
    exact Below.heap_setCell _ _ _ _ hne
  row := fun _ _ _ ha => ha.setI hb u

/-- The closure's state: t, y2, p, k. -/
def CircI (bt bv bp bk : Nat) (v p k x : Int) (W : World) : Prop := ∃ neg A n cap neg' A' n' cap', Blk W bt #[.bool neg, .slice A n cap] 92 ∧ WD W neg A n cap x ∧ Blk W bv #[.bool neg', .slice A' n' cap'] 92 ∧ WD W neg' A' n' cap' v ∧ Blk W bp #[.int .i64 p] 3 ∧ Blk W bk #[.int .i64 k] 2

set_option maxRecDepth 100000 in
set_option maxHeartbeats 1000000 in
theorem circ_next (w : World) (bt bv bp bk : Nat) (v p k x : Int) (i : Nat) (h1 : bt ≠ bv) (h2 : bt ≠ bp) (h3 : bt ≠ bk) (h4 : bv ≠ bk) (h5 : bp ≠ bk) (hk0 : 0 ≤ k) (hk : k ≤ 1000000) (hp : 0 ≤ p ∧ p ≤ 1000000) (hI : CircI bt bv bp bk v p k x w) :
    Calls Tryz.prog 254 #[.int .i64 (i : Int), .pointer (some ⟨bt, 0, none⟩), .pointer (some ⟨bv, 0, none⟩), .pointer (some ⟨bp, 0, none⟩), .pointer (some ⟨bk, 0, none⟩)] w (NextPost (fun b => b = bt ∨ b = bk) x (CircI bt bv bp bk v p (k + 2) (shiftF (Num.fit (x * v)) (-p) / ((k + 1) * (k + 2)))) w) := by
  obtain ⟨neg, A, n, cap, neg', A', n', cap', st, hx, sv, hv, sp, sk⟩ := hI
  have c0 := st.c0
  have c1 := st.c1
  have lt := st.lt
  have lv := sv.lt
  have lp := sp.lt
  have lk := sk.lt
  go_enter Tryz.func254, Tryz.ntmps254
  go_wp2
  have hal := ((Below.refl w.heap.size w).alloc (Nat.le_refl _) (.cells #[.bool false, .slice none 0 0] 92)).alloc (by simp) (.cells #[.bool neg, .slice A n cap] 92)
  have r6 := (Blk.new w #[.bool false, .slice none 0 0] 92).alloc (.cells #[.bool neg, .slice A n cap] 92)
  have r7 := Blk.new (w.alloc (.cells #[.bool false, .slice none 0 0] 92)) #[.bool neg, .slice A n cap] 92
  simp only [World.size_alloc] at r7
  have st := st.below hal
  have sv := sv.below hal
  have sp := sp.below hal
  have sk := sk.below hal
  have hx := hx.below hal
  have hv := hv.below hal
  have hkp : Keeps (fun b => b = bt ∨ b = bk) w ((w.alloc (.cells #[.bool false, .slice none 0 0] 92)).alloc (.cells #[.bool neg, .slice A n cap] 92)) := Keeps.of_below hal
  have hsz := hal.size
  clear hal c0 c1
  generalize ((w.alloc (.cells #[.bool false, .slice none 0 0] 92)).alloc (.cells #[.bool neg, .slice A n cap] 92)) = V at *
  have hw1 : IntKind.i64.wrap (-p) = -p := wrap_i64 _ (by omega) (by omega)
  have hw2 : IntKind.i64.wrap (k + 1) = k + 1 := wrap_i64 _ (by omega) (by omega)
  have hw3 : IntKind.i64.wrap (k + 2) = k + 2 := wrap_i64 _ (by omega) (by omega)
  have hkk : 0 < (k + 1) * (k + 2) ∧ (k + 1) * (k + 2) ≤ 1000001 * 1000002 := ⟨Int.mul_pos (by omega) (by omega), Int.mul_le_mul (by omega) (by omega) (by omega) (by omega)⟩
  have hw4 : IntKind.i64.wrap ((k + 1) * (k + 2)) = (k + 1) * (k + 2) := wrap_i64 _ (by omega) (by omega)
  have R6 := Lib.hid r6
  have R7 := Lib.hid r7
  have St := Lib.hid st
  have Sv := Lib.hid sv
  have Sp := Lib.hid sp
  have Sk := Lib.hid sk
  have Hx := Lib.hid hx
  have Hv := Lib.hid hv
  have Hkp := Lib.hid hkp
  clear r6 r7 st sv sp sk hx hv hkp
  refine region_start (S := fun W' => Blk W' bv #[.bool neg', .slice A' n' cap'] 92 ∧ Blk W' bp #[.int .i64 p] 3 ∧ Blk W' bk #[.int .i64 k] 2) (by kernel_rfl) ?_
  intro W hW
  have hS : Blk W bv #[.bool neg', .slice A' n' cap'] 92 ∧ Blk W bp #[.int .i64 p] 3 ∧ Blk W bk #[.int .i64 k] 2 := by rw [hW]; exact ⟨Sv.out, Sp.out, Sk.out⟩
  have st : Blk W bt #[.bool neg, .slice A n cap] 92 := by rw [hW]; exact St.out
  have hx : WD W neg A n cap x := by rw [hW]; exact Hx.out
  have hv : WD W neg' A' n' cap' v := by rw [hW]; exact Hv.out
  have r6 : Blk W w.heap.size #[.bool false, .slice none 0 0] 92 := by rw [hW]; exact R6.out
  have r7 : Blk W (w.heap.size + 1) #[.bool neg, .slice A n cap] 92 := by rw [hW]; exact R7.out
  have hkp : Keeps (fun b => b = bt ∨ b = bk) w W := by rw [hW]; exact Hkp.out.trans (Keeps.of_below (below_drewN (Below.refl _ _) 1))
  clear hW R6 R7 St Sv Sp Sk Hx Hv Hkp
  refine wpAnyH_take (i := 1) (v := .agg #[.bool neg', .slice A' n' cap']) rfl (by kernel_rfl) (by kernel_rfl) (by kernel_rfl) (fun _ _ _ h => h) (.inl ⟨rfl, fun w0 hw0 => ?a1⟩) hS ?_
  case a1 =>
    obtain ⟨ga, gb, gc⟩ := hw0; have e0 := ga.c0; have e1 := ga.c1; have e2 := gb.c; have e3 := gc.c
    go_simp
  refine wpAnyH_take (i := 3) (v := .int .i64 p) rfl (by kernel_rfl) (by kernel_rfl) (by kernel_rfl) (fun _ _ _ h => h) (.inl ⟨rfl, fun w0 hw0 => ?a3⟩) hS ?_
  case a3 =>
    obtain ⟨ga, gb, gc⟩ := hw0; have e0 := ga.c0; have e1 := ga.c1; have e2 := gb.c; have e3 := gc.c
    go_simp
  refine wpAnyH_take (i := 4) (v := .int .i64 (-p)) rfl (by kernel_rfl) (by kernel_rfl) (by kernel_rfl) (fun _ _ _ h => h) (.inl ⟨rfl, fun w0 hw0 => ?a4⟩) hS ?_
  case a4 =>
    obtain ⟨ga, gb, gc⟩ := hw0; have e0 := ga.c0; have e1 := ga.c1; have e2 := gb.c; have e3 := gc.c
    go_simp
  refine wpAnyH_take (i := 6) (v := .int .i64 k) rfl (by kernel_rfl) (by kernel_rfl) (by kernel_rfl) (fun _ _ _ h => h) (.inl ⟨rfl, fun w0 hw0 => ?a6⟩) hS ?_
  case a6 =>
    obtain ⟨ga, gb, gc⟩ := hw0; have e0 := ga.c0; have e1 := ga.c1; have e2 := gb.c; have e3 := gc.c
    go_simp
  refine wpAnyH_take (i := 7) (v := .int .i64 (k + 1)) rfl (by kernel_rfl) (by kernel_rfl) (by kernel_rfl) (fun _ _ _ h => h) (.inl ⟨rfl, fun w0 hw0 => ?a7⟩) hS ?_
  case a7 =>
    obtain ⟨ga, gb, gc⟩ := hw0; have e0 := ga.c0; have e1 := ga.c1; have e2 := gb.c; have e3 := gc.c
    go_simp
  refine wpAnyH_take (i := 8) (v := .int .i64 k) rfl (by kernel_rfl) (by kernel_rfl) (by kernel_rfl) (fun _ _ _ h => h) (.inl ⟨rfl, fun w0 hw0 => ?a8⟩) hS ?_
  case a8 =>
    obtain ⟨ga, gb, gc⟩ := hw0; have e0 := ga.c0; have e1 := ga.c1; have e2 := gb.c; have e3 := gc.c
    go_simp
  refine wpAnyH_take (i := 9) (v := .int .i64 (k + 2)) rfl (by kernel_rfl) (by kernel_rfl) (by kernel_rfl) (fun _ _ _ h => h) (.inl ⟨rfl, fun w0 hw0 => ?a9⟩) hS ?_
  case a9 =>
    obtain ⟨ga, gb, gc⟩ := hw0; have e0 := ga.c0; have e1 := ga.c1; have e2 := gb.c; have e3 := gc.c
    go_simp
  refine wpAnyH_take (i := 10) (v := .int .i64 ((k + 1) * (k + 2))) rfl (by kernel_rfl) (by kernel_rfl) (by kernel_rfl) (fun _ _ _ h => h) (.inl ⟨rfl, fun w0 hw0 => ?a10⟩) hS ?_
  case a10 =>
    obtain ⟨ga, gb, gc⟩ := hw0; have e0 := ga.c0; have e1 := ga.c1; have e2 := gb.c; have e3 := gc.c
    go_simp
  have e0 := st.c0
  have e1 := st.c1
  refine wpAnyH_all (rs := [0]) (by kernel_rfl) (by simp) ?_
  intro i0 hi0
  obtain rfl : i0 = 0 := by simpa using hi0
  refine wpOp_plain rfl rfl fun K' hK' => ?_
  go_simp
  refine hK' _ _ ⟨hS, ?_⟩
  clear hK' K' e0 e1
  refine wpAnyH_all (rs := [2]) (by kernel_rfl) (by simp) ?_
  intro i0 hi0
  obtain rfl : i0 = 2 := by simpa using hi0
  refine wpOp_plain rfl rfl fun K' hK' => ?_
  go_simp
  refine (tmul_calls _ neg neg' A A' n n' cap cap' x v hx hv).mono ?_
  rintro e W2 ⟨na, Aa, ka, ca, rfl, ha, hb2⟩
  have hS := (⟨hS.1.below hb2, hS.2.1.below hb2, hS.2.2.below hb2⟩ : _ ∧ _ ∧ _)
  have st := st.below hb2
  have r6 := r6.below hb2
  have r7 := r7.below hb2
  have hx := hx.below hb2
  have hv := hv.below hb2
  have hkp := hkp.trans (Keeps.of_below hb2)
  refine hK' _ _ ⟨hS, ?_⟩
  clear hK' K'
  refine wpAnyH_all (rs := [5]) (by kernel_rfl) (by simp) ?_
  intro i0 hi0
  obtain rfl : i0 = 5 := by simpa using hi0
  refine wpOp_plain rfl rfl fun K' hK' => ?_
  go_simp
  refine (tshift_calls _ na Aa ka ca (Num.fit (x * v)) (-p) ha).mono ?_
  rintro e W3 ⟨nb, Ab, kb, cb, rfl, hb, hb3⟩
  have hS := (⟨hS.1.below hb3, hS.2.1.below hb3, hS.2.2.below hb3⟩ : _ ∧ _ ∧ _)
  have st := st.below hb3
  have r6 := r6.below hb3
  have r7 := r7.below hb3
  have hx := hx.below hb3
  have hv := hv.below hb3
  have hkp := hkp.trans (Keeps.of_below hb3)
  refine hK' _ _ ⟨hS, ?_⟩
  clear hK' K'
  refine wpAnyH_all (rs := [11]) (by kernel_rfl) (by simp) ?_
  intro i0 hi0
  obtain rfl : i0 = 11 := by simpa using hi0
  refine wpOp_plain rfl rfl fun K' hK' => ?_
  go_simp
  refine (num_calls _ ((k + 1) * (k + 2)) (by omega) (by omega)).mono ?_
  rintro e W4 ⟨nc, Ac, kc, cc, rfl, hc, hb4⟩
  have hb := hb.below hb4
  have hS := (⟨hS.1.below hb4, hS.2.1.below hb4, hS.2.2.below hb4⟩ : _ ∧ _ ∧ _)
  have st := st.below hb4
  have r6 := r6.below hb4
  have r7 := r7.below hb4
  have hx := hx.below hb4
  have hv := hv.below hb4
  have hkp := hkp.trans (Keeps.of_below hb4)
  refine hK' _ _ ⟨hS, ?_⟩
  clear hK' K'
  refine wpAnyH_all (rs := [12]) (by kernel_rfl) (by simp) ?_
  intro i0 hi0
  obtain rfl : i0 = 12 := by simpa using hi0
  refine wpOp_plain rfl rfl fun K' hK' => ?_
  go_simp
  refine (tdiv_calls _ nb nc Ab Ac kb kc cb cc (shiftF (Num.fit (x * v)) (-p)) ((k + 1) * (k + 2)) hb hc hkk.1).mono ?_
  rintro e W5 ⟨nd, Ad, kd, cd, rfl, hd, hb5⟩
  have hS := (⟨hS.1.below hb5, hS.2.1.below hb5, hS.2.2.below hb5⟩ : _ ∧ _ ∧ _)
  have st := st.below hb5
  have r6 := r6.below hb5
  have r7 := r7.below hb5
  have hx := hx.below hb5
  have hv := hv.below hb5
  have hkp := hkp.trans (Keeps.of_below hb5)
  refine hK' _ _ ⟨hS, ?_⟩
  clear hK' K'
  have f0 := st.c0
  have f1 := st.c1
  have f2 := st.fr 0
  have f3 := st.fr 1
  refine wpAnyH_all (rs := [13]) (by kernel_rfl) (by simp) ?_
  intro i0 hi0
  obtain rfl : i0 = 13 := by simpa using hi0
  refine wpOp_plain rfl rfl fun K' hK' => ?_
  go_simp
  have hd := hd.set2 st (.bool nd) (.slice Ad kd cd)
  have hx := hx.set2 st (.bool nd) (.slice Ad kd cd)
  have hv := hv.set2 st (.bool nd) (.slice Ad kd cd)
  have r6 := r6.far2 bt (.bool nd) (.slice Ad kd cd) (by omega)
  have r7 := r7.far2 bt (.bool nd) (.slice Ad kd cd) (by omega)
  have hS := (⟨hS.1.far2 bt (.bool nd) (.slice Ad kd cd) (by omega), hS.2.1.far2 bt (.bool nd) (.slice Ad kd cd) (by omega), hS.2.2.far2 bt (.bool nd) (.slice Ad kd cd) (by omega)⟩ : _ ∧ _ ∧ _)
  have hkp := hkp.trans (Keeps.set2 (C := fun b => b = bt ∨ b = bk) st (.inl rfl) (.bool nd) (.slice Ad kd cd))
  have st := st.set2 (.bool nd) (.slice Ad kd cd)
  clear f0 f1 f2 f3
  generalize (W5.setCell ⟨bt, 0, none⟩ (.bool nd)).setCell ⟨bt, 1, none⟩ (.slice Ad kd cd) = W6 at *
  refine hK' _ _ ⟨hS, wpAnyH_done (by kernel_rfl) ?_ _⟩
  clear hK' K'
  have q0 := hS.2.2.c
  have q1 := hS.2.2.fr 0
  have q2 := r7.c0
  have q3 := r7.c1
  have q4 := r6.c0
  have q5 := r6.c1
  have q6 := r6.fr 0
  have q7 := r6.fr 1
  have HS := Lib.hid hS
  have R6 := Lib.hid r6
  have St := Lib.hid st
  have Hd := Lib.hid hd
  have Hx := Lib.hid hx
  have Hv := Lib.hid hv
  have Hkp := Lib.hid hkp
  clear hS r6 r7 st hd hx hv hkp
  go_wp2
  have k6 := R6.out.far ⟨bk, 0, none⟩ (.int .i64 (k + 2)) (by simp; omega)
  have h8 := k6.set2 (.bool neg) (.slice A n cap)
  have r0 := h8.c0
  have r1 := h8.c1
  clear q0 q1 q2 q3 q4 q5 q6 q7
  refine bodyPost_ret (v := .agg #[.bool neg, .slice A n cap]) (by simp [results, Tryz.results254, go_sem, r0, r1]) rfl ?_
  have hs := HS.out
  exact ⟨neg, A, n, cap, rfl, (Hx.out.setI hs.2.2 _).set2 k6 _ _, ⟨nd, Ad, kd, cd, neg', A', n', cap', (St.out.far ⟨bk, 0, none⟩ _ h3).far2 _ _ _ (by omega), (Hd.out.setI hs.2.2 _).set2 k6 _ _, (hs.1.far ⟨bk, 0, none⟩ _ h4).far2 _ _ _ (by omega), (Hv.out.setI hs.2.2 _).set2 k6 _ _, (hs.2.1.far ⟨bk, 0, none⟩ _ h5).far2 _ _ _ (by omega), (hs.2.2.set 0 _).far2 _ _ _ (by omega)⟩, (Hkp.out.trans (Keeps.setI hs.2.2 (.inr rfl) _)).setNew k6 (Nat.le_refl _) _ _⟩

end Go.Proofs.YtilaheplclaokaaGreatDoor
namespace Go.Proofs.YtilaheplclaokaaGreatDoor
open Go.RowKit Go.Shelf

/-- These blocks lie in the world. -/
def Blks (W : World) : List (Nat × Array Value × TypeId) → Prop
  | [] => True
  | q :: l => Blk W q.1 q.2.1 q.2.2 ∧ Blks W l
/-- These numbers lie in the world. -/
def Wds (W : World) : List (Bool × Option Addr × Nat × Nat × Int) → Prop
  | [] => True
  | q :: l => WD W q.1 q.2.1 q.2.2.1 q.2.2.2.1 q.2.2.2.2 ∧ Wds W l
/-- None of these blocks is b. -/
def Free (b : Nat) : List (Nat × Array Value × TypeId) → Prop
  | [] => True
  | q :: l => q.1 ≠ b ∧ Free b l
theorem Free.of_lt {W : World} {b : Nat} : ∀ {L : List (Nat × Array Value × TypeId)}, Blks W L → W.heap.size ≤ b → Free b L
  | [], _, _ => trivial
  | q :: _, h, hb => ⟨by have := h.1.lt; omega, Free.of_lt h.2 hb⟩
theorem Blks.below {W W' : World} (hb : Below W.heap.size W W') : ∀ {L : List (Nat × Array Value × TypeId)}, Blks W L → Blks W' L
  | [], _ => trivial
  | _ :: _, h => ⟨h.1.below hb, Blks.below hb h.2⟩
theorem Wds.below {W W' : World} (hb : Below W.heap.size W W') : ∀ {L : List (Bool × Option Addr × Nat × Nat × Int)}, Wds W L → Wds W' L
  | [], _ => trivial
  | _ :: _, h => ⟨h.1.below hb, Wds.below hb h.2⟩
theorem Blks.far {W : World} (p : Addr) (u : Value) : ∀ {L : List (Nat × Array Value × TypeId)}, Free p.block L → Blks W L → Blks (W.setCell p u) L
  | [], _, _ => trivial
  | _ :: _, hf, h => ⟨h.1.far p u hf.1, Blks.far p u hf.2 h.2⟩
theorem Wds.setI {W : World} {b : Nat} {z : Int} {t : TypeId} (hb : Blk W b #[.int .i64 z] t) (u : Value) : ∀ {L : List (Bool × Option Addr × Nat × Nat × Int)}, Wds W L → Wds (W.setCell ⟨b, 0, none⟩ u) L
  | [], _ => trivial
  | _ :: _, h => ⟨h.1.setI hb u, Wds.setI hb u h.2⟩
theorem Wds.set2 {W : World} {b : Nat} {c : Bool} {D : Option Addr} {k l : Nat} {t : TypeId} (hb : Blk W b #[.bool c, .slice D k l] t) (u v : Value) : ∀ {L : List (Bool × Option Addr × Nat × Nat × Int)}, Wds W L → Wds ((W.setCell ⟨b, 0, none⟩ u).setCell ⟨b, 1, none⟩ v) L
  | [], _ => trivial
  | _ :: _, h => ⟨h.1.set2 hb u v, Wds.set2 hb u v h.2⟩
theorem Wds.set3 {W : World} {b : Nat} {c : Bool} {D : Option Addr} {k l : Nat} {z : Int} {t : TypeId} (hb : Blk W b #[.bool c, .slice D k l, .int .i64 z] t) (u v x : Value) : ∀ {L : List (Bool × Option Addr × Nat × Nat × Int)}, Wds W L → Wds (((W.setCell ⟨b, 0, none⟩ u).setCell ⟨b, 1, none⟩ v).setCell ⟨b, 2, none⟩ x) L
  | [], _ => trivial
  | _ :: _, h => ⟨h.1.set3 hb u v x, Wds.set3 hb u v x h.2⟩

/-- What a walk knows of its world: blocks, numbers, and that what lay there before is as it was. -/
structure Env (w : World) (L : List (Nat × Array Value × TypeId)) (N : List (Bool × Option Addr × Nat × Nat × Int)) (W : World) : Prop where
  blks : Blks W L
  wds : Wds W N
  bel : Below w.heap.size w W
theorem Env.size {w W : World} {L : List (Nat × Array Value × TypeId)} {N : List (Bool × Option Addr × Nat × Nat × Int)} (h : Env w L N W) : w.heap.size ≤ W.heap.size := h.bel.size
theorem Env.start (w : World) : Env w [] [] w := ⟨trivial, trivial, Below.refl _ _⟩
theorem Env.below {w W W' : World} {L : List (Nat × Array Value × TypeId)} {N : List (Bool × Option Addr × Nat × Nat × Int)} (h : Env w L N W) (hb : Below W.heap.size W W') : Env w L N W' := ⟨h.blks.below hb, h.wds.below hb, h.bel.trans (hb.mono h.bel.size)⟩
theorem Env.drew {w W : World} {L : List (Nat × Array Value × TypeId)} {N : List (Bool × Option Addr × Nat × Nat × Int)} (h : Env w L N W) : Env w L N W.drew := h.below (below_drewN (Below.refl _ _) 1)
theorem Env.alloc {w W : World} {L : List (Nat × Array Value × TypeId)} {N : List (Bool × Option Addr × Nat × Nat × Int)} (h : Env w L N W) (cs : Array Value) (t : TypeId) : Env w ((W.heap.size, cs, t) :: L) N (W.alloc (.cells cs t)) :=
  have hb := (Below.refl W.heap.size W).alloc (Nat.le_refl _) (.cells cs t)
  ⟨⟨Blk.new W cs t, h.blks.below hb⟩, h.wds.below hb, h.bel.trans (hb.mono h.bel.size)⟩
/-- A number more. -/
theorem Env.wd {w W : World} {L : List (Nat × Array Value × TypeId)} {N : List (Bool × Option Addr × Nat × Nat × Int)} (h : Env w L N W) {neg : Bool} {A : Option Addr} {n cap : Nat} {x : Int} (hx : WD W neg A n cap x) : Env w L ((neg, A, n, cap, x) :: N) W := ⟨h.blks, ⟨hx, h.wds⟩, h.bel⟩
theorem Env.blk {w W : World} {L : List (Nat × Array Value × TypeId)} {N : List (Bool × Option Addr × Nat × Nat × Int)} (h : Env w L N W) {b : Nat} {cs : Array Value} {t : TypeId} (hx : Blk W b cs t) : Env w ((b, cs, t) :: L) N W := ⟨⟨hx, h.blks⟩, h.wds, h.bel⟩
/-- A number is laid into the first block. -/
theorem Env.set2 {w W : World} {L : List (Nat × Array Value × TypeId)} {N : List (Bool × Option Addr × Nat × Nat × Int)} {b : Nat} {c : Bool} {D : Option Addr} {k l : Nat} {t : TypeId} (h : Env w ((b, #[.bool c, .slice D k l], t) :: L) N W) (hB : w.heap.size ≤ b) (hf : Free b L) (u v : Value) : Env w ((b, #[u, v], t) :: L) N ((W.setCell ⟨b, 0, none⟩ u).setCell ⟨b, 1, none⟩ v) :=
  ⟨⟨Blk.set2 h.blks.1 u v, (h.blks.2.far ⟨b, 0, none⟩ u hf).far ⟨b, 1, none⟩ v hf⟩, h.wds.set2 h.blks.1 u v, below_set2 h.bel b hB u v⟩
theorem Env.set3 {w W : World} {L : List (Nat × Array Value × TypeId)} {N : List (Bool × Option Addr × Nat × Nat × Int)} {b : Nat} {c : Bool} {D : Option Addr} {k l : Nat} {z : Int} {t : TypeId} (h : Env w ((b, #[.bool c, .slice D k l, .int .i64 z], t) :: L) N W) (hB : w.heap.size ≤ b) (hf : Free b L) (u v x : Value) : Env w ((b, #[u, v, x], t) :: L) N (((W.setCell ⟨b, 0, none⟩ u).setCell ⟨b, 1, none⟩ v).setCell ⟨b, 2, none⟩ x) :=
  ⟨⟨Blk.set3 h.blks.1 u v x, ((h.blks.2.far ⟨b, 0, none⟩ u hf).far ⟨b, 1, none⟩ v hf).far ⟨b, 2, none⟩ x hf⟩, h.wds.set3 h.blks.1 u v x, below_set3 h.bel b hB u v x⟩
theorem At.set23 {w : World} {A : Option Addr} {g : Nat → Int} {n b : Nat} {c : Bool} {D : Option Addr} {k l : Nat} {z : Int} {t : TypeId} (h : At w A g n) (hb : Blk w b #[.bool c, .slice D k l, .int .i64 z] t) (u v : Value) : At ((w.setCell ⟨b, 0, none⟩ u).setCell ⟨b, 1, none⟩ v) A g n := fun h0 => by
  obtain ⟨b', off, rfl, hlt, hcell⟩ := h h0
  have hne : b' ≠ b := fun e => by
    subst e
    have h1 := hcell 0 h0
    rw [hb.at] at h1
    match off, h1 with
    | 0, h1 => simp at h1
    | 1, h1 => simp at h1
    | 2, h1 => simp at h1
    | k + 3, h1 => simp at h1
  exact ⟨b', off, rfl, by simpa [World.setCell] using hlt, fun i hi => cell_far (cell_far (hcell i hi) hne) hne⟩
theorem Wds.set23 {W : World} {b : Nat} {c : Bool} {D : Option Addr} {k l : Nat} {z : Int} {t : TypeId} (hb : Blk W b #[.bool c, .slice D k l, .int .i64 z] t) (u v : Value) : ∀ {L : List (Bool × Option Addr × Nat × Nat × Int)}, Wds W L → Wds ((W.setCell ⟨b, 0, none⟩ u).setCell ⟨b, 1, none⟩ v) L
  | [], _ => trivial
  | _ :: _, ⟨⟨g, h1, h2, h3, h4, h5⟩, h⟩ => ⟨⟨g, h1, h2, h3, h4.set23 hb u v, h5⟩, Wds.set23 hb u v h⟩
/-- A ball's middle is laid anew. -/
theorem Env.set23 {w W : World} {L : List (Nat × Array Value × TypeId)} {N : List (Bool × Option Addr × Nat × Nat × Int)} {b : Nat} {c : Bool} {D : Option Addr} {k l : Nat} {z : Int} {t : TypeId} (h : Env w ((b, #[.bool c, .slice D k l, .int .i64 z], t) :: L) N W) (hB : w.heap.size ≤ b) (hf : Free b L) (u v : Value) : Env w ((b, #[u, v, .int .i64 z], t) :: L) N ((W.setCell ⟨b, 0, none⟩ u).setCell ⟨b, 1, none⟩ v) :=
  ⟨⟨(Blk.set h.blks.1 0 u).set 1 v, (h.blks.2.far ⟨b, 0, none⟩ u hf).far ⟨b, 1, none⟩ v hf⟩, h.wds.set23 h.blks.1 u v, below_set2 h.bel b hB u v⟩
theorem Env.swap {w W : World} {q r : Nat × Array Value × TypeId} {L : List (Nat × Array Value × TypeId)} {N : List (Bool × Option Addr × Nat × Nat × Int)} (h : Env w (q :: r :: L) N W) : Env w (r :: q :: L) N W := ⟨⟨h.blks.2.1, h.blks.1, h.blks.2.2⟩, h.wds, h.bel⟩
theorem Env.drop {w W : World} {q : Nat × Array Value × TypeId} {L : List (Nat × Array Value × TypeId)} {N : List (Bool × Option Addr × Nat × Nat × Int)} (h : Env w (q :: L) N W) : Env w L N W := ⟨h.blks.2, h.wds, h.bel⟩
theorem Env.dropN {w W : World} {q : Bool × Option Addr × Nat × Nat × Int} {L : List (Nat × Array Value × TypeId)} {N : List (Bool × Option Addr × Nat × Nat × Int)} (h : Env w L (q :: N) W) : Env w L N W := ⟨h.blks, h.wds.2, h.bel⟩
theorem Env.lastN {w W : World} {L : List (Nat × Array Value × TypeId)} {N : List (Bool × Option Addr × Nat × Nat × Int)} (h : Env w L N W) : Env w L [] W := ⟨h.blks, trivial, h.bel⟩

/-- A value that is no limb. -/
def noLimb : Value → Bool
  | .int .u32 _ => false
  | _ => true
theorem At.setX {w : World} {A : Option Addr} {g : Nat → Int} {n b : Nat} {cs : Array Value} {t : TypeId} (h : At w A g n) (hb : Blk w b cs t) (hn : cs.all noLimb = true) (i : Nat) (u : Value) : At (w.setCell ⟨b, i, none⟩ u) A g n := fun h0 => by
  obtain ⟨b', off, rfl, hlt, hcell⟩ := h h0
  have hne : b' ≠ b := fun e => by
    subst e
    have h1 := hcell 0 h0
    rw [hb.at] at h1
    obtain ⟨hl, h2⟩ := Array.getElem?_eq_some_iff.1 h1
    rw [Array.all_eq_true] at hn
    have h3 := hn _ hl
    rw [h2] at h3
    exact absurd h3 (by simp [noLimb])
  exact ⟨b', off, rfl, by simpa [World.setCell] using hlt, fun i hi => cell_far (hcell i hi) hne⟩
theorem Wds.setX {W : World} {b : Nat} {cs : Array Value} {t : TypeId} (hb : Blk W b cs t) (hn : cs.all noLimb = true) (i : Nat) (u : Value) : ∀ {L : List (Bool × Option Addr × Nat × Nat × Int)}, Wds W L → Wds (W.setCell ⟨b, i, none⟩ u) L
  | [], _ => trivial
  | _ :: _, ⟨⟨g, h1, h2, h3, h4, h5⟩, h⟩ => ⟨⟨g, h1, h2, h3, h4.setX hb hn i u, h5⟩, Wds.setX hb hn i u h⟩
/-- One cell of the first block is laid anew. -/
theorem Env.setX {w W : World} {L : List (Nat × Array Value × TypeId)} {N : List (Bool × Option Addr × Nat × Nat × Int)} {b : Nat} {cs : Array Value} {t : TypeId} (h : Env w ((b, cs, t) :: L) N W) (hB : w.heap.size ≤ b) (hf : Free b L) (hn : cs.all noLimb = true) (i : Nat) (u : Value) : Env w ((b, cs.setIfInBounds i u, t) :: L) N (W.setCell ⟨b, i, none⟩ u) :=
  ⟨⟨Blk.set h.blks.1 i u, h.blks.2.far ⟨b, i, none⟩ u hf⟩, h.wds.setX h.blks.1 hn i u, h.bel.setCell (p := ⟨b, i, none⟩) hB u⟩

end Go.Proofs.YtilaheplclaokaaGreatDoor
namespace Go.Proofs.YtilaheplclaokaaGreatDoor
open Go.RowKit Go.Shelf

theorem Env.setY {w W : World} {L : List (Nat × Array Value × TypeId)} {N : List (Bool × Option Addr × Nat × Nat × Int)} {b : Nat} {cs : Array Value} {t : TypeId} (h : Env w ((b, cs, t) :: L) N W) (hB : w.heap.size ≤ b) (hf : Free b L) (hn : cs.toList.all noLimb = true) (i : Nat) (u : Value) : Env w ((b, cs.setIfInBounds i u, t) :: L) N (W.setCell ⟨b, i, none⟩ u) :=
  h.setX hB hf (by rw [← Array.all_toList]; exact hn) i u

example (n : Int) : (#[Value.int .i64 0, .int .i64 0].setIfInBounds 0 (.int .i64 n)).toList.all noLimb = true := rfl
end Go.Proofs.YtilaheplclaokaaGreatDoor
namespace Go.Proofs.YtilaheplclaokaaGreatDoor
open Go.RowKit Go.Shelf

def ptrTo (b : Nat) : Value := .pointer (some ⟨b, 0, none⟩)
def rowTo (n : Nat) (b : Nat) : Value := .slice (some ⟨b, 0, none⟩) n n
/-- An operation that makes a block: its number, its slot, what the block holds, its type, what it yields. -/
structure Al where
  i : Nat
  d : Nat
  z : Array Value
  t : TypeId
  v : Nat → Value

def lis (l : Array Bool) : List Al → List (Option Nat) → Array Bool
  | al :: A, some _ :: bs => (lis l A bs).setIfInBounds al.i true
  | _ :: A, none :: bs => lis l A bs
  | _, _ => l
def puts (a : Act) : List Al → List (Option Nat) → Act
  | al :: A, some b :: bs => (puts a A bs).put (some al.d) (al.v b)
  | _ :: A, none :: bs => puts a A bs
  | _, _ => a
def cnt : List (Option Nat) → Nat
  | some _ :: bs => cnt bs + 1
  | none :: bs => cnt bs
  | [] => 0
/-- The blocks that have been made. -/
def OkA (B : Nat) (W : World) : List Al → List (Option Nat) → Prop
  | al :: A, some b :: bs => (Blk W b al.z al.t ∧ B ≤ b ∧ ∀ c, some c ∈ bs → c ≠ b) ∧ OkA B W A bs
  | _ :: A, none :: bs => OkA B W A bs
  | _, _ => True
/-- An operation is one of those that have not come up. -/
def unex : List Al → List (Option Nat) → Nat → Bool
  | al :: A, none :: bs, k => al.i == k || unex A bs k
  | _ :: A, some _ :: bs, k => unex A bs k
  | _, _, _ => false
def masks : Nat → List (List (Option Nat))
  | 0 => [[]]
  | n + 1 => (masks n).map (none :: ·) ++ (masks n).map (some 0 :: ·)
def mask (bs : List (Option Nat)) : List (Option Nat) := bs.map (·.map fun _ => 0)

theorem mask_mem : ∀ bs : List (Option Nat), mask bs ∈ masks bs.length
  | [] => by simp [mask, masks]
  | none :: bs => by have := mask_mem bs; simp only [mask, List.map_cons, List.length_cons, masks] at *; simp [this]
  | some b :: bs => by have := mask_mem bs; simp only [mask, List.map_cons, List.length_cons, masks] at *; simp [this]
theorem lis_mask (l : Array Bool) : ∀ (A : List Al) (bs : List (Option Nat)), lis l A (mask bs) = lis l A bs
  | [], bs => by cases bs <;> rfl
  | al :: A, [] => rfl
  | al :: A, none :: bs => lis_mask l A bs
  | al :: A, some b :: bs => by
    show (lis l A (mask bs)).setIfInBounds al.i true = (lis l A bs).setIfInBounds al.i true
    rw [lis_mask l A bs]
theorem unex_mask (k : Nat) : ∀ (A : List Al) (bs : List (Option Nat)), unex A (mask bs) k = unex A bs k
  | [], bs => by cases bs <;> rfl
  | al :: A, [] => rfl
  | al :: A, none :: bs => by
    show (al.i == k || unex A (mask bs) k) = (al.i == k || unex A bs k)
    rw [unex_mask k A bs]
  | al :: A, some b :: bs => unex_mask k A bs
theorem set_comm (l : Array Bool) (i j : Nat) : (l.setIfInBounds i true).setIfInBounds j true = (l.setIfInBounds j true).setIfInBounds i true := by
  by_cases h : i = j
  · rw [h]
  · exact Array.setIfInBounds_comm _ _ h
theorem lis_set (l : Array Bool) (k : Nat) : ∀ (A : List Al) (bs : List (Option Nat)), lis (l.setIfInBounds k true) A bs = (lis l A bs).setIfInBounds k true
  | [], bs => by cases bs <;> rfl
  | al :: A, [] => rfl
  | al :: A, none :: bs => lis_set l k A bs
  | al :: A, some b :: bs => by
    show (lis (l.setIfInBounds k true) A bs).setIfInBounds al.i true = _
    rw [lis_set l k A bs, set_comm]
    rfl
theorem puts_put (a : Act) (d : Option Tmp) (v : Value) : ∀ (A : List Al) (bs : List (Option Nat)), (∀ al ∈ A, d ≠ some al.d) → puts (a.put d v) A bs = (puts a A bs).put d v
  | [], bs, _ => by cases bs <;> rfl
  | al :: A, [], _ => rfl
  | al :: A, none :: bs, h => puts_put a d v A bs fun x hx => h x (by simp [hx])
  | al :: A, some b :: bs, h => by
    show (puts (a.put d v) A bs).put (some al.d) (al.v b) = ((puts a A bs).put (some al.d) (al.v b)).put d v
    rw [puts_put a d v A bs fun x hx => h x (by simp [hx])]
    exact Act.put_comm _ _ _ fun x hx e => h al (by simp) (hx ▸ e ▸ rfl)
theorem puts_defers (a : Act) (D : Deferred) : ∀ (A : List Al) (bs : List (Option Nat)), puts { a with defers := D :: a.defers } A bs = { puts a A bs with defers := D :: (puts a A bs).defers }
  | [], bs => by cases bs <;> rfl
  | al :: A, [] => rfl
  | al :: A, none :: bs => puts_defers a D A bs
  | al :: A, some b :: bs => by
    show (puts { a with defers := D :: a.defers } A bs).put (some al.d) (al.v b) = _
    rw [puts_defers a D A bs]
    rfl
theorem OkA.below {B : Nat} {W W' : World} (hb : Below W.heap.size W W') : ∀ (A : List Al) (bs : List (Option Nat)), OkA B W A bs → OkA B W' A bs
  | [], bs, _ => by cases bs <;> trivial
  | al :: A, [], _ => trivial
  | al :: A, none :: bs, h => OkA.below hb A bs h
  | al :: A, some b :: bs, h => ⟨⟨h.1.1.below hb, h.1.2⟩, OkA.below hb A bs h.2⟩
theorem OkA.lt {B : Nat} {W : World} : ∀ (A : List Al) (bs : List (Option Nat)), bs.length = A.length → OkA B W A bs → ∀ c, some c ∈ bs → c < W.heap.size
  | [], [], _, _, c, hc => nomatch hc
  | al :: A, none :: bs, hl, h, c, hc => OkA.lt A bs (by simpa using hl) h c (by simpa using hc)
  | al :: A, some b :: bs, hl, h, c, hc => by
    rcases List.mem_cons.1 hc with e | e
    · cases e; exact h.1.1.lt
    · exact OkA.lt A bs (by simpa using hl) h.2 c e
theorem cnt_le : ∀ (bs : List (Option Nat)), cnt bs ≤ bs.length
  | [] => Nat.le_refl _
  | none :: bs => Nat.le_succ_of_le (cnt_le bs)
  | some _ :: bs => Nat.succ_le_succ (cnt_le bs)

/-- One of those that have not come up comes up. -/
theorem unex_up {B : Nat} (l : Array Bool) (a : Act) (k : Nat) : ∀ (A : List Al) (bs : List (Option Nat)), bs.length = A.length → (A.map (·.d)).Nodup → unex A bs k = true →
    ∃ al ∈ A, al.i = k ∧ ∀ (W : World) (b : Nat), OkA B W A bs → (∀ c, some c ∈ bs → c ≠ b) → Blk W b al.z al.t → B ≤ b → ∃ bs', bs'.length = A.length ∧ cnt bs' = cnt bs + 1 ∧ lis l A bs' = (lis l A bs).setIfInBounds k true ∧ puts a A bs' = (puts a A bs).put (some al.d) (al.v b) ∧ OkA B W A bs' ∧ ∀ c, some c ∈ bs' → c = b ∨ some c ∈ bs
  | [], bs, _, _, h => by cases bs <;> cases h
  | al :: A, [], hl, _, _ => by cases hl
  | al :: A, none :: bs, hl, hn, h => by
    by_cases he : al.i = k
    · exact ⟨al, by simp, he, fun W b hok hf hB hb => ⟨some b :: bs, hl, rfl, by rw [← he]; rfl, rfl, ⟨⟨hB, hb, fun c hc => hf c (by simp [hc])⟩, hok⟩, fun c hc => by simpa using hc⟩⟩
    · have h2 : unex A bs k = true := by
        have h1 : (al.i == k || unex A bs k) = true := h
        simpa [he] using h1
      obtain ⟨al', hm, hi, hup⟩ := unex_up (B := B) l a k A bs (by simpa using hl) (by simp at hn; exact hn.2) h2
      refine ⟨al', by simp [hm], hi, fun W b hok hf hB hb => ?_⟩
      obtain ⟨bs', h3, h4, h5, h6, h7, h8⟩ := hup W b hok (fun c hc => hf c (by simp [hc])) hB hb
      exact ⟨none :: bs', by simp [h3], h4, h5, h6, h7, fun c hc => by simpa using h8 c (by simpa using hc)⟩
  | al :: A, some c0 :: bs, hl, hn, h => by
    obtain ⟨al', hm, hi, hup⟩ := unex_up (B := B) l a k A bs (by simpa using hl) (by simp at hn; exact hn.2) h
    refine ⟨al', by simp [hm], hi, fun W b hok hf hB hb => ?_⟩
    obtain ⟨bs', h3, h4, h5, h6, h7, h8⟩ := hup W b hok.2 (fun c hc => hf c (by simp [hc])) hB hb
    refine ⟨some c0 :: bs', by simp [h3], by show cnt bs' + 1 = cnt bs + 1 + 1; rw [h4], ?_, ?_, ⟨⟨hok.1.1, hok.1.2.1, fun c hc => ?_⟩, h7⟩, fun c hc => ?_⟩
    · show (lis l A bs').setIfInBounds al.i true = ((lis l A bs).setIfInBounds al.i true).setIfInBounds k true
      rw [h5, set_comm]
    · show (puts a A bs').put (some al.d) (al.v c0) = ((puts a A bs).put (some al.d) (al.v c0)).put (some al'.d) (al'.v b)
      rw [h6]
      refine Act.put_comm _ _ _ fun x hx e => ?_
      have h9 : al'.d = al.d := (Option.some.inj hx).trans (Option.some.inj e).symm
      simp only [List.map_cons, List.nodup_cons, List.mem_map] at hn
      exact hn.1 ⟨al', hm, h9⟩
    · rcases h8 c hc with e | e
      · rw [e]; exact fun h9 => hf c0 (by simp) h9.symm
      · exact hok.1.2.2 c e
    · rcases List.mem_cons.1 hc with e | e
      · exact .inr (by rw [e]; simp)
      · rcases h8 c e with e2 | e2
        · exact .inl e2
        · exact .inr (by simp [e2])

section
variable {P : Program} {ops : Array Oper} {Q : Exit → Act → World → Prop} {md : Region.Mode} {S0 : World → Prop} {A : List Al} {B : Nat}

/-- Facts that stay as the world grows. -/
def Mono (S : World → Prop) : Prop := ∀ W W', S W → Below W.heap.size W W' → S W'

/-- An operation that does not look at their slots. -/
def apartA0 (ops : Array Oper) (A : List Al) (o : Oper) : Bool := A.all fun al => !(o.looksAt ops).contains al.d
/-- An operation apart from them. -/
def apartA (ops : Array Oper) (A : List Al) (o : Oper) : Bool := A.all fun al => !(o.looksAt ops).contains al.d && o.dst != some al.d

theorem apartA_spec {o : Oper} (h : apartA ops A o = true) : ∀ al ∈ A, al.d ∉ o.looksAt ops ∧ o.dst ≠ some al.d := fun al hm => by
  have h1 := List.all_eq_true.1 h al hm
  simpa using h1

/-- What is asked of the making operations. -/
structure Float (P : Program) (ops : Array Oper) (A : List Al) (a : Act) : Prop where
  nodup : (A.map (·.d)).Nodup
  run : ∀ al ∈ A, ∃ o, ops[al.i]? = some o ∧ o.dst = some al.d ∧ o.guard = none ∧ apartA0 ops A o = true ∧ ∀ w, (execOp (Act.eval a) o).run P w = .ok (.value (al.v w.heap.size)) (w.alloc (.cells al.z al.t))
/-- A slot at which the making operations do not look. -/
def unseen (ops : Array Oper) (A : List Al) (d : Option Tmp) : Bool := A.all fun al => (ops[al.i]?).all fun o => match d with | none => true | some d => !(o.looksAt ops).contains d

/-- Whichever blocks have been made, the region goes on from here in every world that meets S. -/
def Pend (P : Program) (md : Region.Mode) (ops : Array Oper) (Q : Exit → Act → World → Prop) (S0 : World → Prop) (A : List Al) (B : Nat) (S : World → Prop) (n : Nat) (l : Array Bool) (a : Act) : Prop :=
  Float P ops A a → ∀ bs w, bs.length = A.length → S0 w → S w → B ≤ w.heap.size → OkA B w A bs → wpAnyH P md ops Q S0 (n - cnt bs) (lis l A bs) (puts a A bs) w

theorem apartA0_of {o : Oper} (h : apartA ops A o = true) : apartA0 ops A o = true := List.all_eq_true.2 fun al hm => by have := (apartA_spec h al hm).1; simpa using this
theorem Float.put {a : Act} (hsel : Region.noSelect ops = true) (h : Float P ops A a) {d : Option Tmp} (hd : unseen ops A d = true) (u : Value) : Float P ops A (a.put d u) :=
  ⟨h.nodup, fun al hm => by
    obtain ⟨o, h1, h2, h3, h4, h5⟩ := h.run al hm
    refine ⟨o, h1, h2, h3, h4, fun w => ?_⟩
    have hx : ∀ x, d = some x → x ∉ o.looksAt ops := by
      intro x hx
      have := List.all_eq_true.1 hd al hm
      rw [h1, hx] at this
      simpa using this
    rw [execOp_put o (fun cs b => Region.noSelect_spec hsel al.i o cs b h1) a d u hx]
    exact h5 w⟩

theorem exec_puts {o : Oper} (hs : ∀ cs b, o.op ≠ .select cs b) (a : Act) : ∀ (A : List Al) (bs : List (Option Nat)), apartA0 ops A o = true → execOp (puts a A bs).eval o = execOp a.eval o ∧ Region.wanted o (yielded ops (puts a A bs).tmps) = Region.wanted o (yielded ops a.tmps)
  | [], bs, _ => by cases bs <;> exact ⟨rfl, rfl⟩
  | al :: A, [], _ => ⟨rfl, rfl⟩
  | al :: A, none :: bs, h => exec_puts hs a A bs (by simp only [apartA0, List.all_cons, Bool.and_eq_true] at h; exact h.2)
  | al :: A, some b :: bs, h => by
    have h1 := exec_puts hs a A bs (by simp only [apartA0, List.all_cons, Bool.and_eq_true] at h; exact h.2)
    have h2 : al.d ∉ o.looksAt ops := by simp only [apartA0, List.all_cons, Bool.and_eq_true] at h; simpa using h.1
    have h3 : ∀ d, some al.d = some d → d ∉ o.looksAt ops := fun d hd => by cases hd; exact h2
    show execOp ((puts a A bs).put (some al.d) (al.v b)).eval o = _ ∧ Region.wanted o (yielded ops ((puts a A bs).put (some al.d) (al.v b)).tmps) = _
    rw [execOp_put o hs _ _ _ h3, wanted_put o _ _ _ h3]
    exact h1

theorem Pend.take {S : World → Prop} {i : Nat} {oi : Oper} {v : Value} {n : Nat} {l : Array Bool} {a : Act} (hn' : Nat.ble A.length n = true) (hus : unseen ops A oi.dst = true) (hi : ops[i]? = some oi) (hs : Region.noSelect ops = true)
    (hf : (masks A.length).all (fun m => Region.free md ops (lis l A m) i && (Region.ready md ops (lis l A m)).contains i) = true) (hap : apartA ops A oi = true)
    (hQ : ∀ c a w, Q (.panic c) (a.put oi.dst v) w → Q (.panic c) a w) (hy : YieldsIf P ops S0 oi v a)
    (h : Pend P md ops Q S0 A B S n (l.setIfInBounds i true) (a.put oi.dst v)) : Pend P md ops Q S0 A B S (n + 1) l a := by
  have hn := Nat.le_of_ble_eq_true hn'
  intro hfl bs w hl h0 hS hB hok
  have h1 := List.all_eq_true.1 hf (mask bs) (by rw [← hl]; exact mask_mem bs)
  rw [lis_mask, Bool.and_eq_true] at h1
  have hc := cnt_le bs
  have e : n + 1 - cnt bs = (n - cnt bs) + 1 := by omega
  rw [e]
  have hsel := Region.noSelect_spec hs
  have hx := exec_puts (fun cs b => hsel i oi cs b hi) a A bs (apartA0_of hap)
  refine wpAnyH_take hi hs h1.1 h1.2 hQ (hy.of_same hx.1 hx.2) h0 ?_
  have h2 := h (hfl.put hs hus v) bs w hl h0 hS hB hok
  rw [lis_set, puts_put a _ _ A bs fun al hm => (apartA_spec hap al hm).2] at h2
  exact h2

theorem wpOp_puts {i : Nat} {oi : Oper} (hi : ops[i]? = some oi) (hs : Region.noSelect ops = true) (hus : unseen ops A oi.dst = true) (hap : apartA ops A oi = true) (hQ : ∀ c a d v w, Q (.panic c) a w → Q (.panic c) (a.put d v) w)
    {K : Act → World → Prop} {a : Act} {w : World} (hfl : Float P ops A a) (bs : List (Option Nat)) (h : wpOp P ops Q i K a w) :
    wpOp P ops Q i (fun a' w' => ∃ a0, a' = puts a0 A bs ∧ Float P ops A a0 ∧ K a0 w') (puts a A bs) w := by
  have hsel : ∀ cs b, oi.op ≠ .select cs b := fun cs b => Region.noSelect_spec hs i oi cs b hi
  have hx := exec_puts hsel a A bs (apartA0_of hap)
  have hd : ∀ al ∈ A, oi.dst ≠ some al.d := fun al hm => (apartA_spec hap al hm).2
  have hQ2 : ∀ (A : List Al) (bs : List (Option Nat)) c a w, Q (.panic c) a w → Q (.panic c) (puts a A bs) w := by
    intro A
    induction A with
    | nil => intro bs c a w h; cases bs <;> exact h
    | cons al A ih =>
      intro bs c a w h
      match bs with
      | [] => exact h
      | none :: bs => exact ih bs c a w h
      | some b :: bs => exact hQ _ _ _ _ _ (ih bs c a w h)
  unfold wpOp at *
  simp only [hi] at *
  rw [hx.2]
  split
  · rename_i hw
    simp only [hw, if_true] at h
    rcases h with h | ⟨hasks, hlets⟩
    case inr => exact .inr ⟨by unfold Oper.asks at *; rw [hx.1]; exact hasks, hlets⟩
    refine .inl ?_
    unfold Oper.wp at *
    rw [hx.1]
    generalize (execOp a.eval oi).run P w = r at *
    cases r with
    | ok n w' =>
      cases n <;> simp only [Oper.upon] at h ⊢
      case value u => exact ⟨_, (puts_put a _ u A bs hd).symm, hfl.put hs hus u, h⟩
      case skip => exact ⟨_, (puts_put a _ _ A bs hd).symm, hfl.put hs hus _, h⟩
      case defer d =>
        refine ⟨_, ?_, Float.put (a := { a with defers := d :: a.defers }) hs ⟨hfl.nodup, hfl.run⟩ hus _, h⟩
        rw [puts_put _ _ _ A bs hd, puts_defers]
      case enter f args =>
        refine Calls.mono h fun e w'' he => ?_
        cases e with
        | returned u => exact ⟨_, (puts_put a _ u A bs hd).symm, hfl.put hs hus u, he⟩
        | panicked c => exact hQ2 _ _ _ _ _ he
        | outgrown => exact he
      case row row args => exact Rows.mono h fun u w'' he => ⟨_, (puts_put a _ u A bs hd).symm, hfl.put hs hus u, he⟩
    | halt x w' =>
      cases x <;> simp only [Oper.upon] at h ⊢
      case panic u => exact hQ2 _ _ _ _ _ h
  · rename_i hw
    simp only [hw] at h
    exact ⟨_, (puts_put a _ _ A bs hd).symm, hfl.put hs hus _, h⟩

/-- A block that has not been made is made. -/
theorem float_up {S : World → Prop} {K : Act → World → Prop} {l : Array Bool} {a : Act} {w : World} {bs : List (Option Nat)} {k : Nat} (hsel : Region.noSelect ops = true) (hfl : Float P ops A a) (hS0 : Mono S0) (hS : Mono S) (hl : bs.length = A.length) (hu : unex A bs k = true)
    (h0 : S0 w) (h1 : S w) (hB : B ≤ w.heap.size) (hok : OkA B w A bs)
    (hK : ∀ bs' w', bs'.length = A.length → cnt bs' = cnt bs + 1 → S0 w' → S w' → B ≤ w'.heap.size → OkA B w' A bs' → lis l A bs' = (lis l A bs).setIfInBounds k true → K (puts a A bs') w') :
    wpOp P ops Q k K (puts a A bs) w := by
  obtain ⟨al, hm, hi, hup⟩ := unex_up (B := B) l a k A bs hl hfl.nodup hu
  obtain ⟨o, ho, hd, hg, hap, hrun⟩ := hfl.run al hm
  have hb := (Below.refl w.heap.size w).alloc (Nat.le_refl _) (.cells al.z al.t)
  obtain ⟨bs', h3, h4, h5, h6, h7, _⟩ := hup (w.alloc (.cells al.z al.t)) w.heap.size (hok.below hb) (fun c hc => by have := OkA.lt A bs hl hok c hc; omega) (Blk.new w al.z al.t) hB
  have h8 := hK bs' _ h3 h4 (hS0 _ _ h0 hb) (hS _ _ h1 hb) (Nat.le_trans hB hb.size) h7 h5
  rw [h6] at h8
  have hw : Region.wanted o (yielded ops (puts a A bs).tmps) = true := by unfold Region.wanted; rw [hg]
  subst hi
  unfold wpOp
  simp only [ho, hw, if_true, Oper.wp, (exec_puts (fun cs b => Region.noSelect_spec hsel al.i o cs b ho) a A bs hap).1, hrun, Oper.upon]
  rw [hd]
  exact .inl h8

theorem Pend.step {S : World → Prop} {i : Nat} {oi : Oper} {n : Nat} {l : Array Bool} {a : Act} (hn' : Nat.ble A.length n = true) (hus : unseen ops A oi.dst = true) (hi : ops[i]? = some oi) (hs : Region.noSelect ops = true)
    (hf : (masks A.length).all (fun m => !(Region.ready md ops (lis l A m)).isEmpty && (Region.ready md ops (lis l A m)).all fun k => k == i || unex A m k) = true) (hap : apartA ops A oi = true)
    (hQ : ∀ c a d v w, Q (.panic c) a w → Q (.panic c) (a.put d v) w) (hS0 : Mono S0) (hS : Mono S)
    (h : ∀ w, S0 w → S w → B ≤ w.heap.size → wpOp P ops Q i (fun a' w' => Below w.heap.size w w' ∧ ∃ S', S' w' ∧ Mono S' ∧ Pend P md ops Q S0 A B S' n (l.setIfInBounds i true) a') a w) :
    Pend P md ops Q S0 A B S (n + 1) l a := by
  have hn := Nat.le_of_ble_eq_true hn'
  intro hfl bs
  generalize hm : A.length - cnt bs = m
  induction m using Nat.strongRecOn generalizing bs with
  | _ m ih =>
    intro w hl h0 h1 hB hok
    have hc := cnt_le bs
    have e : n + 1 - cnt bs = (n - cnt bs) + 1 := by omega
    rw [e]
    have hst := List.all_eq_true.1 hf (mask bs) (by rw [← hl]; exact mask_mem bs)
    rw [lis_mask, Bool.and_eq_true] at hst
    refine ⟨fun hr => by rw [hr] at hst; exact absurd hst.1 (by simp), fun k hk => ?_⟩
    have hk2 := List.all_eq_true.1 hst.2 k hk
    rw [unex_mask, Bool.or_eq_true] at hk2
    rcases hk2 with hk2 | hk2
    · obtain rfl : k = i := by simpa using hk2
      refine wpOp_mono (fun a' w' hh => ?_) (wpOp_puts hi hs hus hap hQ hfl bs (h w h0 h1 hB))
      obtain ⟨a0, rfl, hfl', hb, S', hS', hm', hp⟩ := hh
      refine ⟨hS0 _ _ h0 hb, ?_⟩
      rw [← lis_set]
      exact hp hfl' bs w' hl (hS0 _ _ h0 hb) hS' (Nat.le_trans hB hb.size) (hok.below hb)
    · refine float_up (l := l) hs hfl hS0 hS hl hk2 h0 h1 hB hok fun bs' w' h3 h4 h5 h6 h7 h8 h9 => ⟨h5, ?_⟩
      rw [← h9]
      have hc' := cnt_le bs'
      have := ih (A.length - cnt bs') (by omega) bs' rfl w' h3 h5 h6 h7 h8
      rw [h4] at this
      rwa [show n + 1 - (cnt bs + 1) = n - cnt bs from by omega] at this

theorem Pend.done {S : World → Prop} {n : Nat} {l : Array Bool} {a : Act} (k : Nat) (hk : (n == k + A.length) = true) (hs : Region.noSelect ops = true)
    (hf : (masks A.length).all (fun m => cnt m == A.length || (!(Region.ready md ops (lis l A m)).isEmpty && (Region.ready md ops (lis l A m)).all fun k => unex A m k)) = true)
    (hS0 : Mono S0) (hS : Mono S)
    (h : ∀ bs w, bs.length = A.length → cnt bs = A.length → S0 w → S w → OkA B w A bs → wpAnyH P md ops Q S0 k (lis l A bs) (puts a A bs) w) :
    Pend P md ops Q S0 A B S n l a := by
  have hk : n = k + A.length := by simpa using hk
  have hn : A.length ≤ n := by omega
  intro hfl bs
  generalize hm : A.length - cnt bs = m
  induction m using Nat.strongRecOn generalizing bs with
  | _ m ih =>
    intro w hl h0 h1 hB hok
    have hc := cnt_le bs
    rcases Nat.eq_or_lt_of_le hc with hc1 | hc1
    · rw [hc1, hl, show n - A.length = k from by omega]
      exact h bs w hl (hc1.trans hl) h0 h1 hok
    have hst := List.all_eq_true.1 hf (mask bs) (by rw [← hl]; exact mask_mem bs)
    have hcm : ∀ bs : List (Option Nat), cnt (mask bs) = cnt bs := by
      intro bs
      induction bs with
      | nil => rfl
      | cons o bs ih =>
        cases o with
        | none => exact ih
        | some b => show cnt (mask bs) + 1 = cnt bs + 1; rw [ih]
    rw [lis_mask, hcm, Bool.or_eq_true, Bool.and_eq_true] at hst
    have hst := hst.resolve_left (by simp; omega)
    have e : n - cnt bs = (n - cnt bs - 1) + 1 := by omega
    rw [e]
    refine ⟨fun hr => by rw [hr] at hst; exact absurd hst.1 (by simp), fun k hk => ?_⟩
    have hk2 := List.all_eq_true.1 hst.2 k hk
    rw [unex_mask] at hk2
    refine float_up (l := l) hs hfl hS0 hS hl hk2 h0 h1 hB hok fun bs' w' h3 h4 h5 h6 h7 h8 h9 => ⟨h5, ?_⟩
    rw [← h9]
    have hc' := cnt_le bs'
    have := ih (A.length - cnt bs') (by omega) bs' rfl w' h3 h5 h6 h7 h8
    rwa [h4, show n - (cnt bs + 1) = n - cnt bs - 1 from by omega] at this

theorem Pend.start {S : World → Prop} {n : Nat} {l : Array Bool} {a : Act} {w : World} (h : Pend P md ops Q S0 A B S n l a) (hfl : Float P ops A a) (h0 : S0 w) (h1 : S w) (hB : B ≤ w.heap.size) : wpAnyH P md ops Q S0 n l a w := by
  have e1 : ∀ A : List Al, cnt (A.map fun _ => none) = 0 := by intro A; induction A with | nil => rfl | cons _ _ ih => exact ih
  have e2 : ∀ A : List Al, lis l A (A.map fun _ => none) = l := by intro A; induction A with | nil => rfl | cons _ _ ih => exact ih
  have e3 : ∀ A : List Al, puts a A (A.map fun _ => none) = a := by intro A; induction A with | nil => rfl | cons _ _ ih => exact ih
  have e4 : ∀ A : List Al, OkA B w A (A.map fun _ => none) := by intro A; induction A with | nil => trivial | cons _ _ ih => exact ih
  have := h hfl (A.map fun _ => none) w (by simp) h0 h1 hB (e4 A)
  rwa [e1, e2, e3] at this

def FloatOne (P : Program) (ops : Array Oper) (A : List Al) (a : Act) (al : Al) : Prop := ∃ o, ops[al.i]? = some o ∧ o.dst = some al.d ∧ o.guard = none ∧ apartA0 ops A o = true ∧ ∀ w, (execOp (Act.eval a) o).run P w = .ok (.value (al.v w.heap.size)) (w.alloc (.cells al.z al.t))
theorem float1 {al : Al} {a : Act} (h : FloatOne P ops [al] a al) : Float P ops [al] a := ⟨by simp, fun x hx => by simp at hx; subst hx; exact h⟩
theorem float2 {al al' : Al} {a : Act} (hn : (al.d == al'.d) = false) (h : FloatOne P ops [al, al'] a al) (h' : FloatOne P ops [al, al'] a al') : Float P ops [al, al'] a :=
  ⟨by simpa using hn, fun x hx => by simp at hx; rcases hx with rfl | rfl; exact h; exact h'⟩
theorem Env.mono {w : World} {L : List (Nat × Array Value × TypeId)} {N : List (Bool × Option Addr × Nat × Nat × Int)} : Mono (Env w L N) := fun _ _ h hb => h.below hb

/-- One block. -/
theorem one_al {al : Al} {bs : List (Option Nat)} {w : World} (h1 : bs.length = [al].length) (h2 : cnt bs = [al].length) (h3 : OkA B w [al] bs) : ∃ b, bs = [some b] ∧ Blk w b al.z al.t ∧ B ≤ b := by
  match bs, h1, h2, h3 with
  | [some b], _, _, h3 => exact ⟨b, rfl, h3.1.1, h3.1.2.1⟩
  | [none], _, h2, _ => exact absurd h2 (by simp [cnt])
/-- Two blocks. -/
theorem two_al {al al' : Al} {bs : List (Option Nat)} {w : World} (h1 : bs.length = [al, al'].length) (h2 : cnt bs = [al, al'].length) (h3 : OkA B w [al, al'] bs) : ∃ b c, bs = [some b, some c] ∧ Blk w b al.z al.t ∧ Blk w c al'.z al'.t ∧ B ≤ b ∧ B ≤ c ∧ c ≠ b := by
  match bs, h1, h2, h3 with
  | [some b, some c], _, _, h3 => exact ⟨b, c, rfl, h3.1.1, h3.2.1.1, h3.1.2.1, h3.2.1.2.1, h3.1.2.2 c (by simp)⟩
  | [some b, none], _, h2, _ => exact absurd h2 (by simp [cnt])
  | [none, some c], _, h2, _ => exact absurd h2 (by simp [cnt])
  | [none, none], _, h2, _ => exact absurd h2 (by simp [cnt])

end
end Go.Proofs.YtilaheplclaokaaGreatDoor
namespace Go.Proofs.YtilaheplclaokaaGreatDoor
open Go.RowKit

theorem fits_lit {x : Int} (h : -1000000000000000000000000000000000000000000000000000000000000 ≤ x ∧ x ≤ 1000000000000000000000000000000000000000000000000000000000000) : Num.fits x = true := by
  have h2 : (1000000000000000000000000000000000000000000000000000000000000 : Int) < 2 ^ 250 := by decide
  have h1 : (2 : Int) ^ 250 < 2 ^ 131072 := Int.pow_lt_pow_of_lt (by omega) (by omega)
  have h3 := Int.lt_trans h2 h1
  clear h1 h2
  have hP : Num.P 4096 = 2 ^ 131072 := by rw [Num.P_pow2]
  simp only [Num.fits, decide_eq_true_eq, hP]
  generalize (2 : Int) ^ 131072 = b at *
  omega
theorem fit_big {x : Int} (h : -1000000000000000000000000000000000000000000000000000000000000 ≤ x ∧ x ≤ 1000000000000000000000000000000000000000000000000000000000000) : Num.fit x = x := Num.fit_of (fits_lit h)

/-- A number and no error. -/
def Wid2Post (x : Int) (w : World) (e : Ending) (w' : World) : Prop := ∃ neg A n cap, e = .returned (.tuple #[.agg #[.bool neg, .slice A n cap], .int .i64 0]) ∧ WD w' neg A n cap x ∧ Below w.heap.size w w'
theorem NumPost.big {x y : Int} {w w' : World} {e : Ending} (h : NumPost x w e w') (hy : x = y) (hx : -1000000000000000000000000000000000000000000000000000000000000 ≤ y ∧ y ≤ 1000000000000000000000000000000000000000000000000000000000000) : Wid2Post y w e w' := by
  subst hy
  obtain ⟨v, rfl, ⟨neg, A, n, cap, rfl, hw⟩, hb⟩ := h
  have hf : Num.fits x = true := fits_lit hx
  rw [Num.fit_of hf] at hw
  exact ⟨neg, A, n, cap, by simp [Num.ferr, hf], hw, hb⟩

end Go.Proofs.YtilaheplclaokaaGreatDoor
namespace Go.Proofs.YtilaheplclaokaaGreatDoor
open Go

section
variable {P : Program} {ops : Array Oper} {Q : Exit → Act → World → Prop} {md : Region.Mode} {m : Nat} {A B : World → Prop}

/-- Whatever order is picked from here on: A holds behind every operation, B until number m has come up. -/
def wpAnyM (P : Program) (md : Region.Mode) (ops : Array Oper) (Q : Exit → Act → World → Prop) (m : Nat) (A B : World → Prop) : Nat → Array Bool → Act → World → Prop
  | 0, listed, a, w => Region.ready md ops listed = [] ∧ Q .normal a w
  | fuel + 1, listed, a, w =>
    (Region.ready md ops listed = [] → Q .normal a w) ∧
    ∀ i ∈ Region.ready md ops listed, wpOp P ops Q i (fun a' w' => (A w' ∧ ((listed.setIfInBounds i true).getD m true = false → B w')) ∧ wpAnyM P md ops Q m A B fuel (listed.setIfInBounds i true) a' w') a w

theorem wpAny_of_anyM : ∀ (fuel : Nat) (listed : Array Bool) (a : Act) (w : World), wpAnyM P md ops Q m A B fuel listed a w → wpAny P md ops Q fuel listed a w
  | 0, _, _, _, h => h
  | fuel + 1, _, _, _, h => ⟨h.1, fun i hi => wpOp_mono (fun a' w' h' => wpAny_of_anyM fuel _ a' w' h'.2) (h.2 i hi)⟩

theorem wpAnyM_first {i : Nat} {oi om : Oper} {v : Value} (hi : ops[i]? = some oi) (hm : ops[m]? = some om) (him : i ≠ m) (hw : ∃ e ∈ om.after, Region.binds md e = true ∧ e.on = i) (hsel : ∀ (j : Nat) (o : Oper) cs b, ops[j]? = some o → o.op ≠ .select cs b)
    (hQ : ∀ c a w, Q (.panic c) (a.put oi.dst v) w → Q (.panic c) a w) :
    ∀ (fuel : Nat) (listed : Array Bool) (a : Act) (w : World),
      (∀ j oj, ops[j]? = some oj → j ≠ i → listed.getD j true = false → (∀ e ∈ oj.after, Region.binds md e = true → e.on ≠ i) → oi.apart ops oj = true) →
      listed.getD m true = false →
      i ∈ Region.ready md ops listed → YieldsIf P ops (fun w => A w ∧ B w) oi v a → A w ∧ B w →
      wpAnyM P md ops Q m A B fuel (listed.setIfInBounds i true) (a.put oi.dst v) w → wpAnyM P md ops Q m A B (fuel + 1) listed a w := by
  intro fuel
  induction fuel with
  | zero =>
    intro listed a w _ hlm hr hy hS H
    refine ⟨fun h => (by rw [h] at hr; cases hr), fun j hj => ?_⟩
    by_cases hji : j = i
    · subst hji; exact hy.wpOp hi hS ⟨⟨hS.1, fun _ => hS.2⟩, H⟩
    · have := ready_mono hj hji
      rw [H.1] at this
      cases this
  | succ fuel ih =>
    intro listed a w hfree hlm hr hy hS H
    refine ⟨fun h => (by rw [h] at hr; cases hr), fun j hj => ?_⟩
    by_cases hji : j = i
    · subst hji; exact hy.wpOp hi hS ⟨⟨hS.1, fun _ => hS.2⟩, H⟩
    · have h1 := H.2 j (ready_mono hj hji)
      obtain ⟨hjun, oj, hoj, hall⟩ := mem_ready.1 hj
      have hnot : ∀ e ∈ oj.after, Region.binds md e = true → e.on ≠ i := fun e he hb heq => by
        have h1 := hall e he hb
        have h0 := (mem_ready.1 hr).1
        rw [heq] at h1
        rcases Nat.lt_or_ge i listed.size with h' | h'
        · simp [h'] at h0 h1; rw [h0] at h1; cases h1
        · simp [Array.getElem?_eq_none h'] at h1
      have hjm : j ≠ m := fun e => by
        subst e
        obtain ⟨ed, he, hb, hon⟩ := hw
        have : oj = om := by rw [hoj] at hm; exact Option.some.inj hm
        subst this
        exact hnot ed he hb hon
      have hlm' : (listed.setIfInBounds j true).getD m true = false := by rw [getD_set_ne true hjm]; exact hlm
      have h2 := wpOp_putIf hoj (hfree j oj hoj hji hjun hnot) (fun cs b => hsel i oi cs b hi) (fun cs b => hsel j oj cs b hoj) hQ hy h1
      have hfree' : ∀ k ok, ops[k]? = some ok → k ≠ i → (listed.setIfInBounds j true).getD k true = false →
          (∀ e ∈ ok.after, Region.binds md e = true → e.on ≠ i) → oi.apart ops ok = true := fun k ok hk hki hun hno => by
        refine hfree k ok hk hki ?_ hno
        by_cases hjk : j = k
        · subst hjk; exact hjun
        · rw [getD_set_ne true hjk] at hun; exact hun
      have hB : ((listed.setIfInBounds i true).setIfInBounds j true).getD m true = false := by rw [getD_set_ne true hjm, getD_set_ne true him]; exact hlm
      refine wpOp_mono (fun a' w' h3 => ⟨⟨h3.2.1.1, fun _ => h3.2.1.2 hB⟩, ih (listed.setIfInBounds j true) a' w' hfree' hlm' (ready_mono hr (Ne.symm hji)) h3.1 ⟨h3.2.1.1, h3.2.1.2 hB⟩ ?_⟩) h2
      rw [Array.setIfInBounds_comm _ _ hji]
      exact h3.2.2

theorem wpAnyM_take {i : Nat} {oi om : Oper} {v : Value} {fuel : Nat} {listed : Array Bool} {a : Act} {w : World} (hi : ops[i]? = some oi)
    (hs : Region.noSelect ops = true) (hf : Region.free md ops listed i = true) (hr : (Region.ready md ops listed).contains i = true)
    (hm : ops[m]? = some om) (him : (i == m) = false) (hw : om.after.any (fun e => Region.binds md e && e.on == i) = true) (hlm : listed.getD m true = false)
    (hQ : ∀ c a w, Q (.panic c) (a.put oi.dst v) w → Q (.panic c) a w) (hy : YieldsIf P ops (fun w => A w ∧ B w) oi v a) (hS : A w ∧ B w)
    (h : wpAnyM P md ops Q m A B fuel (listed.setIfInBounds i true) (a.put oi.dst v) w) : wpAnyM P md ops Q m A B (fuel + 1) listed a w :=
  wpAnyM_first hi hm (by simpa using him) (by
    rw [Array.any_eq_true'] at hw
    obtain ⟨e, he, h2⟩ := hw
    simp only [Bool.and_eq_true, beq_iff_eq] at h2
    exact ⟨e, he, h2⟩) (Region.noSelect_spec hs) hQ fuel listed a w (Region.free_spec hi hf) hlm (by simpa using hr) hy hS h

/-- The like, of an operation that asks nothing of B, and for which number m need not wait. -/
theorem wpAnyM_firstA {i : Nat} {oi : Oper} {v : Value} (hi : ops[i]? = some oi) (him : i ≠ m) (hsel : ∀ (j : Nat) (o : Oper) cs b, ops[j]? = some o → o.op ≠ .select cs b)
    (hQ : ∀ c a w, Q (.panic c) (a.put oi.dst v) w → Q (.panic c) a w) :
    ∀ (fuel : Nat) (listed : Array Bool) (a : Act) (w : World),
      (∀ j oj, ops[j]? = some oj → j ≠ i → listed.getD j true = false → (∀ e ∈ oj.after, Region.binds md e = true → e.on ≠ i) → oi.apart ops oj = true) →
      i ∈ Region.ready md ops listed → YieldsIf P ops A oi v a → A w ∧ (listed.getD m true = false → B w) →
      wpAnyM P md ops Q m A B fuel (listed.setIfInBounds i true) (a.put oi.dst v) w → wpAnyM P md ops Q m A B (fuel + 1) listed a w := by
  intro fuel
  induction fuel with
  | zero =>
    intro listed a w _ hr hy hS H
    refine ⟨fun h => (by rw [h] at hr; cases hr), fun j hj => ?_⟩
    by_cases hji : j = i
    · subst hji; exact hy.wpOp hi hS.1 ⟨⟨hS.1, fun h => hS.2 (by rw [getD_set_ne true him] at h; exact h)⟩, H⟩
    · have := ready_mono hj hji
      rw [H.1] at this
      cases this
  | succ fuel ih =>
    intro listed a w hfree hr hy hS H
    refine ⟨fun h => (by rw [h] at hr; cases hr), fun j hj => ?_⟩
    by_cases hji : j = i
    · subst hji; exact hy.wpOp hi hS.1 ⟨⟨hS.1, fun h => hS.2 (by rw [getD_set_ne true him] at h; exact h)⟩, H⟩
    · have h1 := H.2 j (ready_mono hj hji)
      obtain ⟨hjun, oj, hoj, hall⟩ := mem_ready.1 hj
      have hnot : ∀ e ∈ oj.after, Region.binds md e = true → e.on ≠ i := fun e he hb heq => by
        have h1 := hall e he hb
        have h0 := (mem_ready.1 hr).1
        rw [heq] at h1
        rcases Nat.lt_or_ge i listed.size with h' | h'
        · simp [h'] at h0 h1; rw [h0] at h1; cases h1
        · simp [Array.getElem?_eq_none h'] at h1
      have h2 := wpOp_putIf hoj (hfree j oj hoj hji hjun hnot) (fun cs b => hsel i oi cs b hi) (fun cs b => hsel j oj cs b hoj) hQ hy h1
      have hfree' : ∀ k ok, ops[k]? = some ok → k ≠ i → (listed.setIfInBounds j true).getD k true = false →
          (∀ e ∈ ok.after, Region.binds md e = true → e.on ≠ i) → oi.apart ops ok = true := fun k ok hk hki hun hno => by
        refine hfree k ok hk hki ?_ hno
        by_cases hjk : j = k
        · subst hjk; exact hjun
        · rw [getD_set_ne true hjk] at hun; exact hun
      have hB : (listed.setIfInBounds j true).getD m true = false → ((listed.setIfInBounds i true).setIfInBounds j true).getD m true = false := fun h => by
        rw [Array.setIfInBounds_comm _ _ (Ne.symm hji), getD_set_ne true him]
        exact h
      refine wpOp_mono (fun a' w' h3 => ⟨⟨h3.2.1.1, fun h => h3.2.1.2 (hB h)⟩, ih (listed.setIfInBounds j true) a' w' hfree' (ready_mono hr (Ne.symm hji)) h3.1 ⟨h3.2.1.1, fun h => h3.2.1.2 (hB h)⟩ ?_⟩) h2
      rw [Array.setIfInBounds_comm _ _ hji]
      exact h3.2.2

theorem wpAnyM_takeA {i : Nat} {oi : Oper} {v : Value} {fuel : Nat} {listed : Array Bool} {a : Act} {w : World} (hi : ops[i]? = some oi)
    (hs : Region.noSelect ops = true) (hf : Region.free md ops listed i = true) (hr : (Region.ready md ops listed).contains i = true) (him : (i == m) = false)
    (hQ : ∀ c a w, Q (.panic c) (a.put oi.dst v) w → Q (.panic c) a w) (hy : YieldsIf P ops A oi v a) (hS : A w ∧ B w)
    (h : wpAnyM P md ops Q m A B fuel (listed.setIfInBounds i true) (a.put oi.dst v) w) : wpAnyM P md ops Q m A B (fuel + 1) listed a w :=
  wpAnyM_firstA hi (by simpa using him) (Region.noSelect_spec hs) hQ fuel listed a w (Region.free_spec hi hf) (by simpa using hr) hy ⟨hS.1, fun _ => hS.2⟩ h

theorem wpAnyM_all {rs : List Nat} {fuel : Nat} {listed : Array Bool} {a : Act} {w : World} (hr : Region.ready md ops listed = rs) (hne : rs ≠ [])
    (h : ∀ i ∈ rs, wpOp P ops Q i (fun a' w' => (A w' ∧ ((listed.setIfInBounds i true).getD m true = false → B w')) ∧ wpAnyM P md ops Q m A B fuel (listed.setIfInBounds i true) a' w') a w) : wpAnyM P md ops Q m A B (fuel + 1) listed a w :=
  ⟨fun h0 => absurd (hr ▸ h0) hne, hr ▸ h⟩

theorem wpAnyM_done {listed : Array Bool} {a : Act} {w : World} (hr : Region.ready md ops listed = []) (h : Q .normal a w) :
    ∀ fuel, wpAnyM P md ops Q m A B fuel listed a w
  | 0 => ⟨hr, h⟩
  | _ + 1 => ⟨fun _ => h, by rw [hr]; simp⟩

theorem region_startM {id : Nat} {a : Act} {w : World} (hm : P.follows .mixedOrders = true)
    (h : ∀ W, W = w.drew → wpAnyM P .any ops Q m A B ops.size (Array.replicate ops.size false) a W) : (Code.region id ops true).wp P Q a w := by
  refine wp_region_any hm (wpAny_of_anyM _ _ _ _ (h _ rfl))
end

end Go.Proofs.YtilaheplclaokaaGreatDoor

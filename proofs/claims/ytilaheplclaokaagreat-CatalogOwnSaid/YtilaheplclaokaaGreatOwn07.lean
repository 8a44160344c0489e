/-
Walk of the closure of trig's circular.
Many blocks and numbers of a world at once.
Many blocks of a world at once: a cell of a block that holds no limbs is laid anew.
Walks of package span: check, Check, made.
Walks of package span: numbers of two words: times, neg, cmp.
Walks of package span: numbers of two words: neg, cmp.
Walks of package span: division of a number of two words by 2^40: down, up.
Walks of package span: the least and the greatest of four numbers of two words.
-/
import Derived.Shelf.Spec.BitsCarry
import Derived.Test.YtilaheplclaokaaGreatOwn01
import Derived.Test.YtilaheplclaokaaGreatOwn06
set_option linter.unusedVariables false
set_option linter.unusedSimpArgs false
namespace Go.Proofs.YtilaheplclaokaaGreat
open Go.RowKit Go.Shelf
attribute [local go_sem] Oper.semAt_some

theorem At.setI {w : World} {A : Option Addr} {g : Nat → Int} {n b : Nat} {z : Int} {t : TypeId} (h : At w A g n) (hb : Blk w b #[.int .i64 z] t) (u : Value) : At (w.setCell ⟨b, 0, none⟩ u) A g n := fun h0 => by
  obtain ⟨b', off, rfl, hlt, hcell⟩ := h h0
  have hne : b' ≠ b := fun e => by
    subst e
    have h1 := hcell 0 h0
    rw [hb.at] at h1
    match off, h1 with
    | 0, h1 => simp at h1
    | k + 1, h1 => simp at h1
  exact ⟨b', off, rfl, by simpa [World.setCell] using hlt, fun i hi => cell_far (hcell i hi) hne⟩
theorem WD.setI {w : World} {neg : Bool} {A : Option Addr} {n cap : Nat} {x : Int} {b : Nat} {z : Int} {t : TypeId} (h : WD w neg A n cap x) (hb : Blk w b #[.int .i64 z] t) (u : Value) : WD (w.setCell ⟨b, 0, none⟩ u) neg A n cap x := by
  obtain ⟨g, h1, h2, h3, h4, h5⟩ := h
  exact ⟨g, h1, h2, h3, h4.setI hb u, h5⟩
theorem Keeps.setI {C : Nat → Prop} {W : World} {b : Nat} {z : Int} {t : TypeId} (hb : Blk W b #[.int .i64 z] t) (hC : C b) (u : Value) : Keeps C W (W.setCell ⟨b, 0, none⟩ u) where
  os := rfl
  tape := rfl
  output := rfl
  size := by simp [World.setCell]
  block := fun k _ hk => by
    have hne : k ≠ b := fun e => hk (e ▸ hC)
    exact Below.heap_setCell _ _ _ _ hne
  row := fun _ _ _ ha => ha.setI hb u

/-- The closure's state: t, y2, p, k. -/
def CircI (bt bv bp bk : Nat) (v p k x : Int) (W : World) : Prop := ∃ neg A n cap neg' A' n' cap', Blk W bt #[.bool neg, .slice A n cap] 78 ∧ WD W neg A n cap x ∧ Blk W bv #[.bool neg', .slice A' n' cap'] 78 ∧ WD W neg' A' n' cap' v ∧ Blk W bp #[.int .i64 p] 3 ∧ Blk W bk #[.int .i64 k] 2

set_option maxRecDepth 100000 in
set_option maxHeartbeats 1000000 in
theorem circ_next (w : World) (bt bv bp bk : Nat) (v p k x : Int) (i : Nat) (h1 : bt ≠ bv) (h2 : bt ≠ bp) (h3 : bt ≠ bk) (h4 : bv ≠ bk) (h5 : bp ≠ bk) (hk0 : 0 ≤ k) (hk : k ≤ 1000000) (hp : 0 ≤ p ∧ p ≤ 1000000) (hI : CircI bt bv bp bk v p k x w) :
    Calls Tryz.prog 156 #[.int .i64 (i : Int), .pointer (some ⟨bt, 0, none⟩), .pointer (some ⟨bv, 0, none⟩), .pointer (some ⟨bp, 0, none⟩), .pointer (some ⟨bk, 0, none⟩)] w (NextPost (fun b => b = bt ∨ b = bk) x (CircI bt bv bp bk v p (k + 2) (shiftF (Num.fit (x * v)) (-p) / ((k + 1) * (k + 2)))) w) := by
  obtain ⟨neg, A, n, cap, neg', A', n', cap', st, hx, sv, hv, sp, sk⟩ := hI
  have c0 := st.c0
  have c1 := st.c1
  have lt := st.lt
  have lv := sv.lt
  have lp := sp.lt
  have lk := sk.lt
  go_enter Tryz.func156, Tryz.ntmps156
  go_wp2
  have hal := ((Below.refl w.heap.size w).alloc (Nat.le_refl _) (.cells #[.bool false, .slice none 0 0] 78)).alloc (by simp) (.cells #[.bool neg, .slice A n cap] 78)
  have r6 := (Blk.new w #[.bool false, .slice none 0 0] 78).alloc (.cells #[.bool neg, .slice A n cap] 78)
  have r7 := Blk.new (w.alloc (.cells #[.bool false, .slice none 0 0] 78)) #[.bool neg, .slice A n cap] 78
  simp only [World.size_alloc] at r7
  have st := st.below hal
  have sv := sv.below hal
  have sp := sp.below hal
  have sk := sk.below hal
  have hx := hx.below hal
  have hv := hv.below hal
  have hkp : Keeps (fun b => b = bt ∨ b = bk) w ((w.alloc (.cells #[.bool false, .slice none 0 0] 78)).alloc (.cells #[.bool neg, .slice A n cap] 78)) := Keeps.of_below hal
  have hsz := hal.size
  clear hal c0 c1
  generalize ((w.alloc (.cells #[.bool false, .slice none 0 0] 78)).alloc (.cells #[.bool neg, .slice A n cap] 78)) = V at *
  have hw1 : IntKind.i64.wrap (-p) = -p := wrap_i64 _ (by omega) (by omega)
  have hw2 : IntKind.i64.wrap (k + 1) = k + 1 := wrap_i64 _ (by omega) (by omega)
  have hw3 : IntKind.i64.wrap (k + 2) = k + 2 := wrap_i64 _ (by omega) (by omega)
  have hkk : 0 < (k + 1) * (k + 2) ∧ (k + 1) * (k + 2) ≤ 1000001 * 1000002 := ⟨Int.mul_pos (by omega) (by omega), Int.mul_le_mul (by omega) (by omega) (by omega) (by omega)⟩
  have hw4 : IntKind.i64.wrap ((k + 1) * (k + 2)) = (k + 1) * (k + 2) := wrap_i64 _ (by omega) (by omega)
  have R6 := Lib.hid r6
  have R7 := Lib.hid r7
  have St := Lib.hid st
  have Sv := Lib.hid sv
  have Sp := Lib.hid sp
  have Sk := Lib.hid sk
  have Hx := Lib.hid hx
  have Hv := Lib.hid hv
  have Hkp := Lib.hid hkp
  clear r6 r7 st sv sp sk hx hv hkp
  refine region_start (S := fun W' => Blk W' bv #[.bool neg', .slice A' n' cap'] 78 ∧ Blk W' bp #[.int .i64 p] 3 ∧ Blk W' bk #[.int .i64 k] 2) (by kernel_rfl) ?_
  intro W hW
  have hS : Blk W bv #[.bool neg', .slice A' n' cap'] 78 ∧ Blk W bp #[.int .i64 p] 3 ∧ Blk W bk #[.int .i64 k] 2 := by rw [hW]; exact ⟨Sv.out, Sp.out, Sk.out⟩
  have st : Blk W bt #[.bool neg, .slice A n cap] 78 := by rw [hW]; exact St.out
  have hx : WD W neg A n cap x := by rw [hW]; exact Hx.out
  have hv : WD W neg' A' n' cap' v := by rw [hW]; exact Hv.out
  have r6 : Blk W w.heap.size #[.bool false, .slice none 0 0] 78 := by rw [hW]; exact R6.out
  have r7 : Blk W (w.heap.size + 1) #[.bool neg, .slice A n cap] 78 := by rw [hW]; exact R7.out
  have hkp : Keeps (fun b => b = bt ∨ b = bk) w W := by rw [hW]; exact Hkp.out.trans (Keeps.of_below (below_drewN (Below.refl _ _) 1))
  clear hW R6 R7 St Sv Sp Sk Hx Hv Hkp
  refine wpAnyH_take (i := 1) (v := .agg #[.bool neg', .slice A' n' cap']) rfl (by kernel_rfl) (by kernel_rfl) (by kernel_rfl) (fun _ _ _ h => h) (.inl ⟨rfl, fun w0 hw0 => ?a1⟩) hS ?_
  case a1 =>
    obtain ⟨ga, gb, gc⟩ := hw0; have e0 := ga.c0; have e1 := ga.c1; have e2 := gb.c; have e3 := gc.c
    go_simp
  refine wpAnyH_take (i := 3) (v := .int .i64 p) rfl (by kernel_rfl) (by kernel_rfl) (by kernel_rfl) (fun _ _ _ h => h) (.inl ⟨rfl, fun w0 hw0 => ?a3⟩) hS ?_
  case a3 =>
    obtain ⟨ga, gb, gc⟩ := hw0; have e0 := ga.c0; have e1 := ga.c1; have e2 := gb.c; have e3 := gc.c
    go_simp
  refine wpAnyH_take (i := 4) (v := .int .i64 (-p)) rfl (by kernel_rfl) (by kernel_rfl) (by kernel_rfl) (fun _ _ _ h => h) (.inl ⟨rfl, fun w0 hw0 => ?a4⟩) hS ?_
  case a4 =>
    obtain ⟨ga, gb, gc⟩ := hw0; have e0 := ga.c0; have e1 := ga.c1; have e2 := gb.c; have e3 := gc.c
    go_simp
  refine wpAnyH_take (i := 6) (v := .int .i64 k) rfl (by kernel_rfl) (by kernel_rfl) (by kernel_rfl) (fun _ _ _ h => h) (.inl ⟨rfl, fun w0 hw0 => ?a6⟩) hS ?_
  case a6 =>
    obtain ⟨ga, gb, gc⟩ := hw0; have e0 := ga.c0; have e1 := ga.c1; have e2 := gb.c; have e3 := gc.c
    go_simp
  refine wpAnyH_take (i := 7) (v := .int .i64 (k + 1)) rfl (by kernel_rfl) (by kernel_rfl) (by kernel_rfl) (fun _ _ _ h => h) (.inl ⟨rfl, fun w0 hw0 => ?a7⟩) hS ?_
  case a7 =>
    obtain ⟨ga, gb, gc⟩ := hw0; have e0 := ga.c0; have e1 := ga.c1; have e2 := gb.c; have e3 := gc.c
    go_simp
  refine wpAnyH_take (i := 8) (v := .int .i64 k) rfl (by kernel_rfl) (by kernel_rfl) (by kernel_rfl) (fun _ _ _ h => h) (.inl ⟨rfl, fun w0 hw0 => ?a8⟩) hS ?_
  case a8 =>
    obtain ⟨ga, gb, gc⟩ := hw0; have e0 := ga.c0; have e1 := ga.c1; have e2 := gb.c; have e3 := gc.c
    go_simp
  refine wpAnyH_take (i := 9) (v := .int .i64 (k + 2)) rfl (by kernel_rfl) (by kernel_rfl) (by kernel_rfl) (fun _ _ _ h => h) (.inl ⟨rfl, fun w0 hw0 => ?a9⟩) hS ?_
  case a9 =>
    obtain ⟨ga, gb, gc⟩ := hw0; have e0 := ga.c0; have e1 := ga.c1; have e2 := gb.c; have e3 := gc.c
    go_simp
  refine wpAnyH_take (i := 10) (v := .int .i64 ((k + 1) * (k + 2))) rfl (by kernel_rfl) (by kernel_rfl) (by kernel_rfl) (fun _ _ _ h => h) (.inl ⟨rfl, fun w0 hw0 => ?a10⟩) hS ?_
  case a10 =>
    obtain ⟨ga, gb, gc⟩ := hw0; have e0 := ga.c0; have e1 := ga.c1; have e2 := gb.c; have e3 := gc.c
    go_simp
  have e0 := st.c0
  have e1 := st.c1
  refine wpAnyH_all (rs := [0]) (by kernel_rfl) (by simp) ?_
  intro i0 hi0
  obtain rfl : i0 = 0 := by simpa using hi0
  refine wpOp_plain rfl rfl fun K' hK' => ?_
  go_simp
  refine hK' _ _ ⟨hS, ?_⟩
  clear hK' K' e0 e1
  refine wpAnyH_all (rs := [2]) (by kernel_rfl) (by simp) ?_
  intro i0 hi0
  obtain rfl : i0 = 2 := by simpa using hi0
  refine wpOp_plain rfl rfl fun K' hK' => ?_
  go_simp
  refine (tmul_calls _ neg neg' A A' n n' cap cap' x v hx hv).mono ?_
  rintro e W2 ⟨na, Aa, ka, ca, rfl, ha, hb2⟩
  have hS := (⟨hS.1.below hb2, hS.2.1.below hb2, hS.2.2.below hb2⟩ : _ ∧ _ ∧ _)
  have st := st.below hb2
  have r6 := r6.below hb2
  have r7 := r7.below hb2
  have hx := hx.below hb2
  have hv := hv.below hb2
  have hkp := hkp.trans (Keeps.of_below hb2)
  refine hK' _ _ ⟨hS, ?_⟩
  clear hK' K'
  refine wpAnyH_all (rs := [5]) (by kernel_rfl) (by simp) ?_
  intro i0 hi0
  obtain rfl : i0 = 5 := by simpa using hi0
  refine wpOp_plain rfl rfl fun K' hK' => ?_
  go_simp
  refine (tshift_calls _ na Aa ka ca (Num.fit (x * v)) (-p) ha).mono ?_
  rintro e W3 ⟨nb, Ab, kb, cb, rfl, hb, hb3⟩
  have hS := (⟨hS.1.below hb3, hS.2.1.below hb3, hS.2.2.below hb3⟩ : _ ∧ _ ∧ _)
  have st := st.below hb3
  have r6 := r6.below hb3
  have r7 := r7.below hb3
  have hx := hx.below hb3
  have hv := hv.below hb3
  have hkp := hkp.trans (Keeps.of_below hb3)
  refine hK' _ _ ⟨hS, ?_⟩
  clear hK' K'
  refine wpAnyH_all (rs := [11]) (by kernel_rfl) (by simp) ?_
  intro i0 hi0
  obtain rfl : i0 = 11 := by simpa using hi0
  refine wpOp_plain rfl rfl fun K' hK' => ?_
  go_simp
  refine (num_calls _ ((k + 1) * (k + 2)) (by omega) (by omega)).mono ?_
  rintro e W4 ⟨nc, Ac, kc, cc, rfl, hc, hb4⟩
  have hb := hb.below hb4
  have hS := (⟨hS.1.below hb4, hS.2.1.below hb4, hS.2.2.below hb4⟩ : _ ∧ _ ∧ _)
  have st := st.below hb4
  have r6 := r6.below hb4
  have r7 := r7.below hb4
  have hx := hx.below hb4
  have hv := hv.below hb4
  have hkp := hkp.trans (Keeps.of_below hb4)
  refine hK' _ _ ⟨hS, ?_⟩
  clear hK' K'
  refine wpAnyH_all (rs := [12]) (by kernel_rfl) (by simp) ?_
  intro i0 hi0
  obtain rfl : i0 = 12 := by simpa using hi0
  refine wpOp_plain rfl rfl fun K' hK' => ?_
  go_simp
  refine (tdiv_calls _ nb nc Ab Ac kb kc cb cc (shiftF (Num.fit (x * v)) (-p)) ((k + 1) * (k + 2)) hb hc hkk.1).mono ?_
  rintro e W5 ⟨nd, Ad, kd, cd, rfl, hd, hb5⟩
  have hS := (⟨hS.1.below hb5, hS.2.1.below hb5, hS.2.2.below hb5⟩ : _ ∧ _ ∧ _)
  have st := st.below hb5
  have r6 := r6.below hb5
  have r7 := r7.below hb5
  have hx := hx.below hb5
  have hv := hv.below hb5
  have hkp := hkp.trans (Keeps.of_below hb5)
  refine hK' _ _ ⟨hS, ?_⟩
  clear hK' K'
  have f0 := st.c0
  have f1 := st.c1
  have f2 := st.fr 0
  have f3 := st.fr 1
  refine wpAnyH_all (rs := [13]) (by kernel_rfl) (by simp) ?_
  intro i0 hi0
  obtain rfl : i0 = 13 := by simpa using hi0
  refine wpOp_plain rfl rfl fun K' hK' => ?_
  go_simp
  have hd := hd.set2 st (.bool nd) (.slice Ad kd cd)
  have hx := hx.set2 st (.bool nd) (.slice Ad kd cd)
  have hv := hv.set2 st (.bool nd) (.slice Ad kd cd)
  have r6 := r6.far2 bt (.bool nd) (.slice Ad kd cd) (by omega)
  have r7 := r7.far2 bt (.bool nd) (.slice Ad kd cd) (by omega)
  have hS := (⟨hS.1.far2 bt (.bool nd) (.slice Ad kd cd) (by omega), hS.2.1.far2 bt (.bool nd) (.slice Ad kd cd) (by omega), hS.2.2.far2 bt (.bool nd) (.slice Ad kd cd) (by omega)⟩ : _ ∧ _ ∧ _)
  have hkp := hkp.trans (Keeps.set2 (C := fun b => b = bt ∨ b = bk) st (.inl rfl) (.bool nd) (.slice Ad kd cd))
  have st := st.set2 (.bool nd) (.slice Ad kd cd)
  clear f0 f1 f2 f3
  generalize (W5.setCell ⟨bt, 0, none⟩ (.bool nd)).setCell ⟨bt, 1, none⟩ (.slice Ad kd cd) = W6 at *
  refine hK' _ _ ⟨hS, wpAnyH_done (by kernel_rfl) ?_ _⟩
  clear hK' K'
  have q0 := hS.2.2.c
  have q1 := hS.2.2.fr 0
  have q2 := r7.c0
  have q3 := r7.c1
  have q4 := r6.c0
  have q5 := r6.c1
  have q6 := r6.fr 0
  have q7 := r6.fr 1
  have HS := Lib.hid hS
  have R6 := Lib.hid r6
  have St := Lib.hid st
  have Hd := Lib.hid hd
  have Hx := Lib.hid hx
  have Hv := Lib.hid hv
  have Hkp := Lib.hid hkp
  clear hS r6 r7 st hd hx hv hkp
  go_wp2
  have k6 := R6.out.far ⟨bk, 0, none⟩ (.int .i64 (k + 2)) (by simp; omega)
  have h8 := k6.set2 (.bool neg) (.slice A n cap)
  have r0 := h8.c0
  have r1 := h8.c1
  clear q0 q1 q2 q3 q4 q5 q6 q7
  refine bodyPost_ret (v := .agg #[.bool neg, .slice A n cap]) (by simp [results, Tryz.results156, go_sem, r0, r1]) rfl ?_
  have hs := HS.out
  exact ⟨neg, A, n, cap, rfl, (Hx.out.setI hs.2.2 _).set2 k6 _ _, ⟨nd, Ad, kd, cd, neg', A', n', cap', (St.out.far ⟨bk, 0, none⟩ _ h3).far2 _ _ _ (by omega), (Hd.out.setI hs.2.2 _).set2 k6 _ _, (hs.1.far ⟨bk, 0, none⟩ _ h4).far2 _ _ _ (by omega), (Hv.out.setI hs.2.2 _).set2 k6 _ _, (hs.2.1.far ⟨bk, 0, none⟩ _ h5).far2 _ _ _ (by omega), (hs.2.2.set 0 _).far2 _ _ _ (by omega)⟩, (Hkp.out.trans (Keeps.setI hs.2.2 (.inr rfl) _)).setNew k6 (Nat.le_refl _) _ _⟩

end Go.Proofs.YtilaheplclaokaaGreat
namespace Go.Proofs.YtilaheplclaokaaGreat
open Go.RowKit Go.Shelf

/-- These blocks lie in the world. -/
def Blks (W : World) : List (Nat × Array Value × TypeId) → Prop
  | [] => True
  | q :: l => Blk W q.1 q.2.1 q.2.2 ∧ Blks W l
/-- These numbers lie in the world. -/
def Wds (W : World) : List (Bool × Option Addr × Nat × Nat × Int) → Prop
  | [] => True
  | q :: l => WD W q.1 q.2.1 q.2.2.1 q.2.2.2.1 q.2.2.2.2 ∧ Wds W l
/-- None of these blocks is b. -/
def Free (b : Nat) : List (Nat × Array Value × TypeId) → Prop
  | [] => True
  | q :: l => q.1 ≠ b ∧ Free b l
theorem Free.of_lt {W : World} {b : Nat} : ∀ {L : List (Nat × Array Value × TypeId)}, Blks W L → W.heap.size ≤ b → Free b L
  | [], _, _ => trivial
  | q :: _, h, hb => ⟨by have := h.1.lt; omega, Free.of_lt h.2 hb⟩
theorem Blks.below {W W' : World} (hb : Below W.heap.size W W') : ∀ {L : List (Nat × Array Value × TypeId)}, Blks W L → Blks W' L
  | [], _ => trivial
  | _ :: _, h => ⟨h.1.below hb, Blks.below hb h.2⟩
theorem Wds.below {W W' : World} (hb : Below W.heap.size W W') : ∀ {L : List (Bool × Option Addr × Nat × Nat × Int)}, Wds W L → Wds W' L
  | [], _ => trivial
  | _ :: _, h => ⟨h.1.below hb, Wds.below hb h.2⟩
theorem Blks.far {W : World} (p : Addr) (u : Value) : ∀ {L : List (Nat × Array Value × TypeId)}, Free p.block L → Blks W L → Blks (W.setCell p u) L
  | [], _, _ => trivial
  | _ :: _, hf, h => ⟨h.1.far p u hf.1, Blks.far p u hf.2 h.2⟩
theorem Wds.setI {W : World} {b : Nat} {z : Int} {t : TypeId} (hb : Blk W b #[.int .i64 z] t) (u : Value) : ∀ {L : List (Bool × Option Addr × Nat × Nat × Int)}, Wds W L → Wds (W.setCell ⟨b, 0, none⟩ u) L
  | [], _ => trivial
  | _ :: _, h => ⟨h.1.setI hb u, Wds.setI hb u h.2⟩
theorem Wds.set2 {W : World} {b : Nat} {c : Bool} {D : Option Addr} {k l : Nat} {t : TypeId} (hb : Blk W b #[.bool c, .slice D k l] t) (u v : Value) : ∀ {L : List (Bool × Option Addr × Nat × Nat × Int)}, Wds W L → Wds ((W.setCell ⟨b, 0, none⟩ u).setCell ⟨b, 1, none⟩ v) L
  | [], _ => trivial
  | _ :: _, h => ⟨h.1.set2 hb u v, Wds.set2 hb u v h.2⟩
theorem Wds.set3 {W : World} {b : Nat} {c : Bool} {D : Option Addr} {k l : Nat} {z : Int} {t : TypeId} (hb : Blk W b #[.bool c, .slice D k l, .int .i64 z] t) (u v x : Value) : ∀ {L : List (Bool × Option Addr × Nat × Nat × Int)}, Wds W L → Wds (((W.setCell ⟨b, 0, none⟩ u).setCell ⟨b, 1, none⟩ v).setCell ⟨b, 2, none⟩ x) L
  | [], _ => trivial
  | _ :: _, h => ⟨h.1.set3 hb u v x, Wds.set3 hb u v x h.2⟩

/-- What a walk knows of its world: blocks, numbers, and that what lay there before is as it was. -/
structure Env (w : World) (L : List (Nat × Array Value × TypeId)) (N : List (Bool × Option Addr × Nat × Nat × Int)) (W : World) : Prop where
  blks : Blks W L
  wds : Wds W N
  bel : Below w.heap.size w W
theorem Env.size {w W : World} {L : List (Nat × Array Value × TypeId)} {N : List (Bool × Option Addr × Nat × Nat × Int)} (h : Env w L N W) : w.heap.size ≤ W.heap.size := h.bel.size
theorem Env.start (w : World) : Env w [] [] w := ⟨trivial, trivial, Below.refl _ _⟩
theorem Env.below {w W W' : World} {L : List (Nat × Array Value × TypeId)} {N : List (Bool × Option Addr × Nat × Nat × Int)} (h : Env w L N W) (hb : Below W.heap.size W W') : Env w L N W' := ⟨h.blks.below hb, h.wds.below hb, h.bel.trans (hb.mono h.bel.size)⟩
theorem Env.drew {w W : World} {L : List (Nat × Array Value × TypeId)} {N : List (Bool × Option Addr × Nat × Nat × Int)} (h : Env w L N W) : Env w L N W.drew := h.below (below_drewN (Below.refl _ _) 1)
theorem Env.alloc {w W : World} {L : List (Nat × Array Value × TypeId)} {N : List (Bool × Option Addr × Nat × Nat × Int)} (h : Env w L N W) (cs : Array Value) (t : TypeId) : Env w ((W.heap.size, cs, t) :: L) N (W.alloc (.cells cs t)) :=
  have hb := (Below.refl W.heap.size W).alloc (Nat.le_refl _) (.cells cs t)
  ⟨⟨Blk.new W cs t, h.blks.below hb⟩, h.wds.below hb, h.bel.trans (hb.mono h.bel.size)⟩
/-- A number more. -/
theorem Env.wd {w W : World} {L : List (Nat × Array Value × TypeId)} {N : List (Bool × Option Addr × Nat × Nat × Int)} (h : Env w L N W) {neg : Bool} {A : Option Addr} {n cap : Nat} {x : Int} (hx : WD W neg A n cap x) : Env w L ((neg, A, n, cap, x) :: N) W := ⟨h.blks, ⟨hx, h.wds⟩, h.bel⟩
theorem Env.blk {w W : World} {L : List (Nat × Array Value × TypeId)} {N : List (Bool × Option Addr × Nat × Nat × Int)} (h : Env w L N W) {b : Nat} {cs : Array Value} {t : TypeId} (hx : Blk W b cs t) : Env w ((b, cs, t) :: L) N W := ⟨⟨hx, h.blks⟩, h.wds, h.bel⟩
/-- A number is laid into the first block. -/
theorem Env.set2 {w W : World} {L : List (Nat × Array Value × TypeId)} {N : List (Bool × Option Addr × Nat × Nat × Int)} {b : Nat} {c : Bool} {D : Option Addr} {k l : Nat} {t : TypeId} (h : Env w ((b, #[.bool c, .slice D k l], t) :: L) N W) (hB : w.heap.size ≤ b) (hf : Free b L) (u v : Value) : Env w ((b, #[u, v], t) :: L) N ((W.setCell ⟨b, 0, none⟩ u).setCell ⟨b, 1, none⟩ v) :=
  ⟨⟨Blk.set2 h.blks.1 u v, (h.blks.2.far ⟨b, 0, none⟩ u hf).far ⟨b, 1, none⟩ v hf⟩, h.wds.set2 h.blks.1 u v, below_set2 h.bel b hB u v⟩
theorem Env.set3 {w W : World} {L : List (Nat × Array Value × TypeId)} {N : List (Bool × Option Addr × Nat × Nat × Int)} {b : Nat} {c : Bool} {D : Option Addr} {k l : Nat} {z : Int} {t : TypeId} (h : Env w ((b, #[.bool c, .slice D k l, .int .i64 z], t) :: L) N W) (hB : w.heap.size ≤ b) (hf : Free b L) (u v x : Value) : Env w ((b, #[u, v, x], t) :: L) N (((W.setCell ⟨b, 0, none⟩ u).setCell ⟨b, 1, none⟩ v).setCell ⟨b, 2, none⟩ x) :=
  ⟨⟨Blk.set3 h.blks.1 u v x, ((h.blks.2.far ⟨b, 0, none⟩ u hf).far ⟨b, 1, none⟩ v hf).far ⟨b, 2, none⟩ x hf⟩, h.wds.set3 h.blks.1 u v x, below_set3 h.bel b hB u v x⟩
theorem At.set23 {w : World} {A : Option Addr} {g : Nat → Int} {n b : Nat} {c : Bool} {D : Option Addr} {k l : Nat} {z : Int} {t : TypeId} (h : At w A g n) (hb : Blk w b #[.bool c, .slice D k l, .int .i64 z] t) (u v : Value) : At ((w.setCell ⟨b, 0, none⟩ u).setCell ⟨b, 1, none⟩ v) A g n := fun h0 => by
  obtain ⟨b', off, rfl, hlt, hcell⟩ := h h0
  have hne : b' ≠ b := fun e => by
    subst e
    have h1 := hcell 0 h0
    rw [hb.at] at h1
    match off, h1 with
    | 0, h1 => simp at h1
    | 1, h1 => simp at h1
    | 2, h1 => simp at h1
    | k + 3, h1 => simp at h1
  exact ⟨b', off, rfl, by simpa [World.setCell] using hlt, fun i hi => cell_far (cell_far (hcell i hi) hne) hne⟩
theorem Wds.set23 {W : World} {b : Nat} {c : Bool} {D : Option Addr} {k l : Nat} {z : Int} {t : TypeId} (hb : Blk W b #[.bool c, .slice D k l, .int .i64 z] t) (u v : Value) : ∀ {L : List (Bool × Option Addr × Nat × Nat × Int)}, Wds W L → Wds ((W.setCell ⟨b, 0, none⟩ u).setCell ⟨b, 1, none⟩ v) L
  | [], _ => trivial
  | _ :: _, ⟨⟨g, h1, h2, h3, h4, h5⟩, h⟩ => ⟨⟨g, h1, h2, h3, h4.set23 hb u v, h5⟩, Wds.set23 hb u v h⟩
/-- A ball's middle is laid anew. -/
theorem Env.set23 {w W : World} {L : List (Nat × Array Value × TypeId)} {N : List (Bool × Option Addr × Nat × Nat × Int)} {b : Nat} {c : Bool} {D : Option Addr} {k l : Nat} {z : Int} {t : TypeId} (h : Env w ((b, #[.bool c, .slice D k l, .int .i64 z], t) :: L) N W) (hB : w.heap.size ≤ b) (hf : Free b L) (u v : Value) : Env w ((b, #[u, v, .int .i64 z], t) :: L) N ((W.setCell ⟨b, 0, none⟩ u).setCell ⟨b, 1, none⟩ v) :=
  ⟨⟨(Blk.set h.blks.1 0 u).set 1 v, (h.blks.2.far ⟨b, 0, none⟩ u hf).far ⟨b, 1, none⟩ v hf⟩, h.wds.set23 h.blks.1 u v, below_set2 h.bel b hB u v⟩
theorem Env.swap {w W : World} {q r : Nat × Array Value × TypeId} {L : List (Nat × Array Value × TypeId)} {N : List (Bool × Option Addr × Nat × Nat × Int)} (h : Env w (q :: r :: L) N W) : Env w (r :: q :: L) N W := ⟨⟨h.blks.2.1, h.blks.1, h.blks.2.2⟩, h.wds, h.bel⟩
theorem Env.drop {w W : World} {q : Nat × Array Value × TypeId} {L : List (Nat × Array Value × TypeId)} {N : List (Bool × Option Addr × Nat × Nat × Int)} (h : Env w (q :: L) N W) : Env w L N W := ⟨h.blks.2, h.wds, h.bel⟩
theorem Env.dropN {w W : World} {q : Bool × Option Addr × Nat × Nat × Int} {L : List (Nat × Array Value × TypeId)} {N : List (Bool × Option Addr × Nat × Nat × Int)} (h : Env w L (q :: N) W) : Env w L N W := ⟨h.blks, h.wds.2, h.bel⟩
theorem Env.lastN {w W : World} {L : List (Nat × Array Value × TypeId)} {N : List (Bool × Option Addr × Nat × Nat × Int)} (h : Env w L N W) : Env w L [] W := ⟨h.blks, trivial, h.bel⟩

/-- A value that is no limb. -/
def noLimb : Value → Bool
  | .int .u32 _ => false
  | _ => true
theorem At.setX {w : World} {A : Option Addr} {g : Nat → Int} {n b : Nat} {cs : Array Value} {t : TypeId} (h : At w A g n) (hb : Blk w b cs t) (hn : cs.all noLimb = true) (i : Nat) (u : Value) : At (w.setCell ⟨b, i, none⟩ u) A g n := fun h0 => by
  obtain ⟨b', off, rfl, hlt, hcell⟩ := h h0
  have hne : b' ≠ b := fun e => by
    subst e
    have h1 := hcell 0 h0
    rw [hb.at] at h1
    obtain ⟨hl, h2⟩ := Array.getElem?_eq_some_iff.1 h1
    rw [Array.all_eq_true] at hn
    have h3 := hn _ hl
    rw [h2] at h3
    exact absurd h3 (by simp [noLimb])
  exact ⟨b', off, rfl, by simpa [World.setCell] using hlt, fun i hi => cell_far (hcell i hi) hne⟩
theorem Wds.setX {W : World} {b : Nat} {cs : Array Value} {t : TypeId} (hb : Blk W b cs t) (hn : cs.all noLimb = true) (i : Nat) (u : Value) : ∀ {L : List (Bool × Option Addr × Nat × Nat × Int)}, Wds W L → Wds (W.setCell ⟨b, i, none⟩ u) L
  | [], _ => trivial
  | _ :: _, ⟨⟨g, h1, h2, h3, h4, h5⟩, h⟩ => ⟨⟨g, h1, h2, h3, h4.setX hb hn i u, h5⟩, Wds.setX hb hn i u h⟩
/-- One cell of the first block is laid anew. -/
theorem Env.setX {w W : World} {L : List (Nat × Array Value × TypeId)} {N : List (Bool × Option Addr × Nat × Nat × Int)} {b : Nat} {cs : Array Value} {t : TypeId} (h : Env w ((b, cs, t) :: L) N W) (hB : w.heap.size ≤ b) (hf : Free b L) (hn : cs.all noLimb = true) (i : Nat) (u : Value) : Env w ((b, cs.setIfInBounds i u, t) :: L) N (W.setCell ⟨b, i, none⟩ u) :=
  ⟨⟨Blk.set h.blks.1 i u, h.blks.2.far ⟨b, i, none⟩ u hf⟩, h.wds.setX h.blks.1 hn i u, h.bel.setCell (p := ⟨b, i, none⟩) hB u⟩

end Go.Proofs.YtilaheplclaokaaGreat
namespace Go.Proofs.YtilaheplclaokaaGreat
open Go.RowKit Go.Shelf

theorem Env.setY {w W : World} {L : List (Nat × Array Value × TypeId)} {N : List (Bool × Option Addr × Nat × Nat × Int)} {b : Nat} {cs : Array Value} {t : TypeId} (h : Env w ((b, cs, t) :: L) N W) (hB : w.heap.size ≤ b) (hf : Free b L) (hn : cs.toList.all noLimb = true) (i : Nat) (u : Value) : Env w ((b, cs.setIfInBounds i u, t) :: L) N (W.setCell ⟨b, i, none⟩ u) :=
  h.setX hB hf (by rw [← Array.all_toList]; exact hn) i u

example (n : Int) : (#[Value.int .i64 0, .int .i64 0].setIfInBounds 0 (.int .i64 n)).toList.all noLimb = true := rfl
end Go.Proofs.YtilaheplclaokaaGreat
namespace Go.Proofs.YtilaheplclaokaaGreat
open Go.RowKit Go.Shelf
attribute [local go_sem] Oper.semAt_some

/-- A valid interval. -/
def ivB (lo hi : Int) : Bool := decide (lo ≤ hi ∧ -2305843009213693952 ≤ lo ∧ hi ≤ 2305843009213693952)
/-- The error of an interval. -/
def ivE (b : Bool) : Int := if b = true then 0 else 8
theorem ivB_of {lo hi : Int} (h1 : ¬ hi < lo) (h2 : ¬ lo < -2305843009213693952) (h3 : ¬ 2305843009213693952 < hi) : ivB lo hi = true := decide_eq_true (by omega)
theorem ivB_not {lo hi : Int} (h : hi < lo ∨ lo < -2305843009213693952 ∨ 2305843009213693952 < hi) : ivB lo hi = false := decide_eq_false (by omega)


set_option maxRecDepth 100000 in
set_option maxHeartbeats 1000000 in
theorem check2_calls (w : World) (b : Nat) (a0 a1 c0 c1 : Int) (t : TypeId) (hs : Blk w b #[.int .i64 a0, .int .i64 a1, .int .i64 c0, .int .i64 c1] t) :
    Calls Tryz.prog 63 #[.slice (some ⟨b, 0, none⟩) 2 2] w (OkPost (.int .i64 (ivE (ivB a0 a1 && ivB c0 c1))) w) := by
  have HS0 := Lib.hid hs
  clear hs
  go_enter Tryz.func63, Tryz.ntmps63
  go_wp2
  go_loopw [7] (fun i wr => ∃ (k : Nat), k ≤ 2 ∧ i = .int .i64 k ∧ Below w.heap.size w wr ∧ (1 ≤ k → ivB a0 a1 = true) ∧ (2 ≤ k → ivB c0 c1 = true)) (fun i _ => 2 - (intOf i).toNat)
  case atStart => exact ⟨0, by omega, rfl, Below.refl _ _, fun h => absurd h (by omega), fun h => absurd h (by omega)⟩
  case round =>
    obtain ⟨k, hk, rfl, hb, h1, h2⟩ := hrel
    have HS := Lib.hid (HS0.out.below hb)
    have HK := Lib.hid hb
    have HI1 := Lib.hid h1
    have HI2 := Lib.hid h2
    clear hb h1 h2
    have hc : k = 0 ∨ k = 1 ∨ k = 2 := by omega
    rcases hc with rfl | rfl | rfl
    · skip
      have e0 : wr.cell? ⟨b, 0, none⟩ = some (.int .i64 a0) := HS.out.at 0
      have e1 : wr.cell? ⟨b, 1, none⟩ = some (.int .i64 a1) := HS.out.at 1
      by_cases h1 : a1 < a0
      · skip
        have HBad : Hid (ivB a0 a1 = false) := Lib.hid (ivB_not (.inl h1))
        go_wp2
        go_ret
        refine ⟨?_, HK.out.alloc (HK.out.size) _⟩
        rw [HBad.out]
        rfl
      by_cases h2 : a0 < -2305843009213693952
      · skip
        have HBad : Hid (ivB a0 a1 = false) := Lib.hid (ivB_not (.inr (.inl h2)))
        go_wp2
        go_ret
        refine ⟨?_, HK.out.alloc (HK.out.size) _⟩
        rw [HBad.out]
        rfl
      by_cases h3 : 2305843009213693952 < a1
      · skip
        have HBad : Hid (ivB a0 a1 = false) := Lib.hid (ivB_not (.inr (.inr h3)))
        go_wp2
        go_ret
        refine ⟨?_, HK.out.alloc (HK.out.size) _⟩
        rw [HBad.out]
        rfl
      have HGood := Lib.hid (ivB_of h1 h2 h3)
      go_wp2
      go_roundw
      case rel => exact ⟨1, by omega, by go_num, HK.out.alloc HK.out.size _, fun _ => HGood.out, fun h => absurd h (by omega)⟩
      case measure => simp [intOf]
    · skip
      have e0 : wr.cell? ⟨b, 2, none⟩ = some (.int .i64 c0) := HS.out.at 2
      have e1 : wr.cell? ⟨b, 3, none⟩ = some (.int .i64 c1) := HS.out.at 3
      by_cases h1 : c1 < c0
      · skip
        have HBad : Hid (ivB c0 c1 = false) := Lib.hid (ivB_not (.inl h1))
        go_wp2
        go_ret
        refine ⟨?_, HK.out.alloc (HK.out.size) _⟩
        rw [HBad.out, Bool.and_false]
        rfl
      by_cases h2 : c0 < -2305843009213693952
      · skip
        have HBad : Hid (ivB c0 c1 = false) := Lib.hid (ivB_not (.inr (.inl h2)))
        go_wp2
        go_ret
        refine ⟨?_, HK.out.alloc (HK.out.size) _⟩
        rw [HBad.out, Bool.and_false]
        rfl
      by_cases h3 : 2305843009213693952 < c1
      · skip
        have HBad : Hid (ivB c0 c1 = false) := Lib.hid (ivB_not (.inr (.inr h3)))
        go_wp2
        go_ret
        refine ⟨?_, HK.out.alloc (HK.out.size) _⟩
        rw [HBad.out, Bool.and_false]
        rfl
      have HGood := Lib.hid (ivB_of h1 h2 h3)
      go_wp2
      go_roundw
      case rel => exact ⟨2, by omega, by go_num, HK.out.alloc HK.out.size _, fun _ => HI1.out (by omega), fun _ => HGood.out⟩
      case measure => simp [intOf]
    · go_wp2
      go_ret
      refine ⟨?_, HK.out⟩
      rw [HI1.out (by omega), HI2.out (by omega)]
      rfl

set_option maxRecDepth 100000 in
set_option maxHeartbeats 1000000 in
theorem check1_calls (w : World) (b : Nat) (a0 a1 : Int) (t : TypeId) (hs : Blk w b #[.int .i64 a0, .int .i64 a1] t) :
    Calls Tryz.prog 63 #[.slice (some ⟨b, 0, none⟩) 1 1] w (OkPost (.int .i64 (ivE (ivB a0 a1))) w) := by
  have HS0 := Lib.hid hs
  clear hs
  go_enter Tryz.func63, Tryz.ntmps63
  go_wp2
  go_loopw [7] (fun i wr => ∃ (k : Nat), k ≤ 1 ∧ i = .int .i64 k ∧ Below w.heap.size w wr ∧ (1 ≤ k → ivB a0 a1 = true)) (fun i _ => 1 - (intOf i).toNat)
  case atStart => exact ⟨0, by omega, rfl, Below.refl _ _, fun h => absurd h (by omega)⟩
  case round =>
    obtain ⟨k, hk, rfl, hb, h1⟩ := hrel
    have HS := Lib.hid (HS0.out.below hb)
    have HK := Lib.hid hb
    have HI1 := Lib.hid h1
    clear hb h1
    have hc : k = 0 ∨ k = 1 := by omega
    rcases hc with rfl | rfl
    · skip
      have e0 : wr.cell? ⟨b, 0, none⟩ = some (.int .i64 a0) := HS.out.at 0
      have e1 : wr.cell? ⟨b, 1, none⟩ = some (.int .i64 a1) := HS.out.at 1
      by_cases h1 : a1 < a0
      · skip
        have HBad : Hid (ivB a0 a1 = false) := Lib.hid (ivB_not (.inl h1))
        go_wp2
        go_ret
        refine ⟨?_, HK.out.alloc (HK.out.size) _⟩
        rw [HBad.out]
        rfl
      by_cases h2 : a0 < -2305843009213693952
      · skip
        have HBad : Hid (ivB a0 a1 = false) := Lib.hid (ivB_not (.inr (.inl h2)))
        go_wp2
        go_ret
        refine ⟨?_, HK.out.alloc (HK.out.size) _⟩
        rw [HBad.out]
        rfl
      by_cases h3 : 2305843009213693952 < a1
      · skip
        have HBad : Hid (ivB a0 a1 = false) := Lib.hid (ivB_not (.inr (.inr h3)))
        go_wp2
        go_ret
        refine ⟨?_, HK.out.alloc (HK.out.size) _⟩
        rw [HBad.out]
        rfl
      have HGood := Lib.hid (ivB_of h1 h2 h3)
      go_wp2
      go_roundw
      case rel => exact ⟨1, by omega, by go_num, HK.out.alloc HK.out.size _, fun _ => HGood.out⟩
      case measure => simp [intOf]
    · go_wp2
      go_ret
      refine ⟨?_, HK.out⟩
      rw [HI1.out (by omega)]
      rfl

set_option maxRecDepth 100000 in
set_option maxHeartbeats 1000000 in
theorem ivCheck_calls (w : World) (a0 a1 : Int) :
    Calls Tryz.prog 96 #[.agg #[.int .i64 a0, .int .i64 a1]] w (OkPost (.int .i64 (ivE (ivB a0 a1))) w) := by
  go_enter Tryz.func96, Tryz.ntmps96
  have E := ((Env.start w).alloc #[.int .i64 a0, .int .i64 a1] 31).alloc #[.int .i64 a0, .int .i64 a1] 31
  simp only [World.size_alloc] at E
  have HE := Lib.hid E
  clear E
  go_wp2_with fail
  go_at_call 63
  refine (check1_calls _ (w.heap.size + 1) a0 a1 _ HE.out.blks.1).mono ?_
  rintro e w1 ⟨rfl, hb1⟩
  have HB := Lib.hid (HE.out.below hb1)
  clear HE hb1
  go_wp2
  go_ret
  exact ⟨rfl, HB.out.bel⟩

/-- What 'made' makes. -/
def madB (lo hi : Int) : Bool := decide (-2305843009213693952 ≤ lo ∧ hi ≤ 2305843009213693952)
def madL (lo hi : Int) : Int := if madB lo hi = true then lo else 0
def madH (lo hi : Int) : Int := if madB lo hi = true then hi else 0
def madE (lo hi : Int) : Int := if madB lo hi = true then 0 else 16
set_option maxRecDepth 100000 in
set_option maxHeartbeats 1000000 in
theorem imade_calls (w : World) (lo hi : Int) :
    Calls Tryz.prog 65 #[.int .i64 lo, .int .i64 hi] w (OkPost (.tuple #[.agg #[.int .i64 (madL lo hi), .int .i64 (madH lo hi)], .int .i64 (madE lo hi)]) w) := by
  by_cases h1 : lo < -2305843009213693952
  · have hb : madB lo hi = false := decide_eq_false (by omega)
    have HM : Hid (madL lo hi = 0 ∧ madH lo hi = 0 ∧ madE lo hi = 16) := Lib.hid (by simp [madL, madH, madE, hb])
    clear hb
    go_enter Tryz.func65, Tryz.ntmps65
    go_wp2
    have E := (Env.start w).alloc #[.int .i64 0, .int .i64 0] 31
    have r0 : _ = some (Value.int .i64 0) := E.blks.1.at 0
    have r1 : _ = some (Value.int .i64 0) := E.blks.1.at 1
    rw [HM.out.1, HM.out.2.1, HM.out.2.2]
    refine bodyPost_ret (v := .tuple #[.agg #[.int .i64 0, .int .i64 0], .int .i64 16]) (by simp [results, Tryz.results65, go_sem, r0, r1]) rfl ?_
    exact ⟨rfl, E.bel⟩
  · by_cases h2 : 2305843009213693952 < hi
    · have hb : madB lo hi = false := decide_eq_false (by omega)
      have HM : Hid (madL lo hi = 0 ∧ madH lo hi = 0 ∧ madE lo hi = 16) := Lib.hid (by simp [madL, madH, madE, hb])
      clear hb
      go_enter Tryz.func65, Tryz.ntmps65
      go_wp2
      have E := (Env.start w).alloc #[.int .i64 0, .int .i64 0] 31
      have r0 : _ = some (Value.int .i64 0) := E.blks.1.at 0
      have r1 : _ = some (Value.int .i64 0) := E.blks.1.at 1
      rw [HM.out.1, HM.out.2.1, HM.out.2.2]
      refine bodyPost_ret (v := .tuple #[.agg #[.int .i64 0, .int .i64 0], .int .i64 16]) (by simp [results, Tryz.results65, go_sem, r0, r1]) rfl ?_
      exact ⟨rfl, E.bel⟩
    · have hb : madB lo hi = true := decide_eq_true (by omega)
      have HM : Hid (madL lo hi = lo ∧ madH lo hi = hi ∧ madE lo hi = 0) := Lib.hid (by simp [madL, madH, madE, hb])
      clear hb
      go_enter Tryz.func65, Tryz.ntmps65
      go_wp2
      have E := (Env.start w).alloc #[.int .i64 lo, .int .i64 hi] 31
      have r0 : _ = some (Value.int .i64 lo) := E.blks.1.at 0
      have r1 : _ = some (Value.int .i64 hi) := E.blks.1.at 1
      rw [HM.out.1, HM.out.2.1, HM.out.2.2]
      refine bodyPost_ret (v := .tuple #[.agg #[.int .i64 lo, .int .i64 hi], .int .i64 0]) (by simp [results, Tryz.results65, go_sem, r0, r1]) rfl ?_
      exact ⟨rfl, E.bel⟩

end Go.Proofs.YtilaheplclaokaaGreat
namespace Go.Proofs.YtilaheplclaokaaGreat
open Go.RowKit Go.Shelf

/-- A number of two words. -/
def twin (x : Int) : Value := .agg #[.int .i64 (x / 18446744073709551616), .int .u64 (x % 18446744073709551616)]

theorem times_arith (a b : Int) (ha0 : -9223372036854775808 ≤ a) (ha1 : a < 9223372036854775808) (hb0 : -9223372036854775808 ≤ b) (hb1 : b < 9223372036854775808) :
    (a % 18446744073709551616) * (b % 18446744073709551616) / 18446744073709551616 = a * b / 18446744073709551616 + (if a < 0 then b else 0) + (if b < 0 then a else 0) + (if a < 0 ∧ b < 0 then 18446744073709551616 else 0) ∧
    (a % 18446744073709551616) * (b % 18446744073709551616) % 18446744073709551616 = a * b % 18446744073709551616 := by
  have ea : a % 18446744073709551616 = if a < 0 then a + 18446744073709551616 else a := by split <;> omega
  have eb : b % 18446744073709551616 = if b < 0 then b + 18446744073709551616 else b := by split <;> omega
  rw [ea, eb]
  by_cases h1 : a < 0 <;> by_cases h2 : b < 0 <;> simp only [h1, h2, if_true, if_false, and_true, and_false, and_self]
  · have e : (a + 18446744073709551616) * (b + 18446744073709551616) = a * b + (a + b + 18446744073709551616) * 18446744073709551616 := by grind
    rw [e]
    generalize a * b = p
    omega
  · have e : (a + 18446744073709551616) * b = a * b + b * 18446744073709551616 := by grind
    rw [e]
    generalize a * b = p
    omega
  · have e : a * (b + 18446744073709551616) = a * b + a * 18446744073709551616 := by grind
    rw [e]
    generalize a * b = p
    omega
  · simp
theorem times_range (a b : Int) (ha0 : -9223372036854775808 ≤ a) (ha1 : a < 9223372036854775808) (hb0 : -9223372036854775808 ≤ b) (hb1 : b < 9223372036854775808) : -4611686018427387904 ≤ a * b / 18446744073709551616 ∧ a * b / 18446744073709551616 ≤ 4611686018427387904 := by
  have h1 : a * b ≤ 9223372036854775808 * 9223372036854775808 ∧ -(9223372036854775808 * 9223372036854775808) ≤ a * b := by
    have h : (a * b).natAbs ≤ 9223372036854775808 * 9223372036854775808 := by
      rw [Int.natAbs_mul]
      exact Nat.mul_le_mul (by omega) (by omega)
    omega
  omega

set_option maxRecDepth 100000 in
set_option maxHeartbeats 1000000 in
theorem ttimes_calls (w : World) (a b : Int) (ha0 : -9223372036854775808 ≤ a) (ha1 : a < 9223372036854775808) (hb0 : -9223372036854775808 ≤ b) (hb1 : b < 9223372036854775808) :
    Calls Tryz.prog 64 #[.int .i64 a, .int .i64 b] w (OkPost (twin (a * b)) w) := by
  obtain ⟨t1, t2⟩ := times_arith a b ha0 ha1 hb0 hb1
  have t3 := times_range a b ha0 ha1 hb0 hb1
  have hx0 : 0 ≤ a % 18446744073709551616 := by omega
  have hx1 : a % 18446744073709551616 < 18446744073709551616 := by omega
  have hy0 : 0 ≤ b % 18446744073709551616 := by omega
  have hy1 : b % 18446744073709551616 < 18446744073709551616 := by omega
  have CM := Lib.hid fun w' => mul64_calls (a % 18446744073709551616) (b % 18446744073709551616) hx0 hx1 hy0 hy1 w'
  rw [t1, t2] at CM
  have hwa : ∀ z : Int, IntKind.u64.wrap z = z % 18446744073709551616 := fun z => by simp [IntKind.wrap, IntKind.bits, IntKind.signed]
  rw [← hwa a, ← hwa b] at CM
  clear hx0 hx1 hy0 hy1 t1 t2
  have hwr : ∀ z : Int, IntKind.i64.wrap z = (z + 9223372036854775808) % 18446744073709551616 - 9223372036854775808 := fun z => by
    unfold IntKind.wrap
    simp only [IntKind.bits, IntKind.signed]
    simp
    split <;> omega
  have HT : Hid (twin (a * b) = .agg #[.int .i64 (a * b / 18446744073709551616), .int .u64 (a * b % 18446744073709551616)]) := Lib.hid rfl
  generalize a * b / 18446744073709551616 = P at *
  generalize a * b % 18446744073709551616 = L at *
  by_cases h1 : a < 0 <;> by_cases h2 : b < 0 <;> simp only [h1, h2, if_true, if_false, and_true, and_false, and_self, false_and, Int.add_zero] at CM
  · have hV : ((((P + b + a + 18446744073709551616 + 9223372036854775808) % 18446744073709551616 - 9223372036854775808 - b + 9223372036854775808) % 18446744073709551616 - 9223372036854775808 - a + 9223372036854775808) % 18446744073709551616 - 9223372036854775808) = P := by omega
    clear hwa
    clear t3
    go_enter Tryz.func64, Tryz.ntmps64
    go_wp2_with (go_at_call 102; refine (CM.out _).mono ?_; rintro e w1 ⟨rfl, rfl⟩)
    have E := (Env.start w).alloc #[.int .i64 P, .int .u64 L] 112
    have r0 : _ = some (Value.int .i64 P) := E.blks.1.at 0
    have r1 : _ = some (Value.int .u64 L) := E.blks.1.at 1
    rw [HT.out]
    refine bodyPost_ret (v := .agg #[.int .i64 P, .int .u64 L]) (by simp [results, Tryz.results64, go_sem, r0, r1]) rfl ?_
    exact ⟨rfl, E.bel⟩
  · have hV : (((P + b + 9223372036854775808) % 18446744073709551616 - 9223372036854775808 - b + 9223372036854775808) % 18446744073709551616 - 9223372036854775808) = P := by omega
    rw [show IntKind.u64.wrap b = b by rw [hwa]; omega] at CM
    clear hwa
    clear t3
    go_enter Tryz.func64, Tryz.ntmps64
    go_wp2_with (go_at_call 102; refine (CM.out _).mono ?_; rintro e w1 ⟨rfl, rfl⟩)
    have E := (Env.start w).alloc #[.int .i64 P, .int .u64 L] 112
    have r0 : _ = some (Value.int .i64 P) := E.blks.1.at 0
    have r1 : _ = some (Value.int .u64 L) := E.blks.1.at 1
    rw [HT.out]
    refine bodyPost_ret (v := .agg #[.int .i64 P, .int .u64 L]) (by simp [results, Tryz.results64, go_sem, r0, r1]) rfl ?_
    exact ⟨rfl, E.bel⟩
  · have hV : (((P + a + 9223372036854775808) % 18446744073709551616 - 9223372036854775808 - a + 9223372036854775808) % 18446744073709551616 - 9223372036854775808) = P := by omega
    rw [show IntKind.u64.wrap a = a by rw [hwa]; omega] at CM
    clear hwa
    clear t3
    go_enter Tryz.func64, Tryz.ntmps64
    go_wp2_with (go_at_call 102; refine (CM.out _).mono ?_; rintro e w1 ⟨rfl, rfl⟩)
    have E := (Env.start w).alloc #[.int .i64 P, .int .u64 L] 112
    have r0 : _ = some (Value.int .i64 P) := E.blks.1.at 0
    have r1 : _ = some (Value.int .u64 L) := E.blks.1.at 1
    rw [HT.out]
    refine bodyPost_ret (v := .agg #[.int .i64 P, .int .u64 L]) (by simp [results, Tryz.results64, go_sem, r0, r1]) rfl ?_
    exact ⟨rfl, E.bel⟩
  · have hV : ((P + 9223372036854775808) % 18446744073709551616 - 9223372036854775808) = P := by omega
    rw [show IntKind.u64.wrap a = a by rw [hwa]; omega] at CM
    rw [show IntKind.u64.wrap b = b by rw [hwa]; omega] at CM
    clear hwa
    clear t3
    go_enter Tryz.func64, Tryz.ntmps64
    go_wp2_with (go_at_call 102; refine (CM.out _).mono ?_; rintro e w1 ⟨rfl, rfl⟩)
    have E := (Env.start w).alloc #[.int .i64 P, .int .u64 L] 112
    have r0 : _ = some (Value.int .i64 P) := E.blks.1.at 0
    have r1 : _ = some (Value.int .u64 L) := E.blks.1.at 1
    rw [HT.out]
    refine bodyPost_ret (v := .agg #[.int .i64 P, .int .u64 L]) (by simp [results, Tryz.results64, go_sem, r0, r1]) rfl ?_
    exact ⟨rfl, E.bel⟩

end Go.Proofs.YtilaheplclaokaaGreat
namespace Go.Proofs.YtilaheplclaokaaGreat
open Go.RowKit Go.Shelf

/-- A borrow. -/
def bor0 (lo : Int) : Int := if 0 < lo then 1 else 0
theorem sub64_law (lo : Int) (h0 : 0 ≤ lo) (h1 : lo < 18446744073709551616) (w : World) : (callFunc 133 #[.int .u64 0, .int .u64 lo, .int .u64 0]).run Tryz.prog w = .ok (.value (.tuple #[.int .u64 ((18446744073709551616 - lo) % 18446744073709551616), .int .u64 (bor0 lo)])) w := by
  obtain ⟨n, rfl⟩ := Int.eq_ofNat_of_zero_le h0
  have hn : n < 18446744073709551616 := by omega
  have h := run_sub64 (P := Tryz.prog) 0 n 0 (by omega) w
  rw [run_callFunc_extern Tryz.func133 (by kernel_rfl) (by kernel_rfl) (by kernel_rfl) (e := sub64Entry) (by kernel_rfl)]
  have e1 : (18446744073709551616 - (n : Int)) % 18446744073709551616 = (((0 + 18446744073709551616 - n - 0) % 18446744073709551616 : Nat) : Int) := by omega
  have e2 : bor0 (n : Int) = ((if 0 < n + 0 then 1 else 0 : Nat) : Int) := by unfold bor0; split <;> split <;> omega
  rw [e1, e2]
  have h2 : (sub64Entry #[.int .u64 0, .int .u64 (n : Int), .int .u64 0]).run Tryz.prog w = _ := h
  rw [h2]
  rfl

set_option maxRecDepth 100000 in
set_option maxHeartbeats 1000000 in
theorem tneg_calls (w : World) (x : Int) (h0 : -85070591730234615865843651857942052864 ≤ x) (h1 : x ≤ 85070591730234615865843651857942052864) :
    Calls Tryz.prog 104 #[twin x] w (OkPost (twin (-x)) w) := by
  have HT : Hid (twin (-x) = .agg #[.int .i64 (-x / 18446744073709551616), .int .u64 (-x % 18446744073709551616)]) := Lib.hid rfl
  show Calls _ _ #[.agg #[.int .i64 (x / 18446744073709551616), .int .u64 (x % 18446744073709551616)]] _ _
  have hl0 : 0 ≤ x % 18446744073709551616 := by omega
  have hs := sub64_law (x % 18446744073709551616) hl0 (by omega)
  have hlo : (18446744073709551616 - x % 18446744073709551616) % 18446744073709551616 = -x % 18446744073709551616 := by omega
  have hhi : -(x / 18446744073709551616) - bor0 (x % 18446744073709551616) = -x / 18446744073709551616 := by unfold bor0; split <;> omega
  have hb0 : 0 ≤ bor0 (x % 18446744073709551616) ∧ bor0 (x % 18446744073709551616) ≤ 1 := by unfold bor0; split <;> omega
  have hr : -9223372036854775808 < x / 18446744073709551616 ∧ x / 18446744073709551616 < 9223372036854775808 := by omega
  have hr2 : -9223372036854775808 < -x / 18446744073709551616 ∧ -x / 18446744073709551616 < 9223372036854775808 := by omega
  rw [hlo] at hs
  clear hlo h0 h1
  generalize -x / 18446744073709551616 = H' at *
  generalize -x % 18446744073709551616 = L' at *
  generalize x % 18446744073709551616 = L at *
  generalize x / 18446744073709551616 = H at *
  generalize bor0 L = B at *
  have hw1 : IntKind.i64.wrap B = B := by unfold IntKind.wrap; simp only [IntKind.bits, IntKind.signed]; simp; split <;> omega
  have hw2 : IntKind.i64.wrap (-H) = -H := by unfold IntKind.wrap; simp only [IntKind.bits, IntKind.signed]; simp; split <;> omega
  have hw3 : IntKind.i64.wrap (-H - B) = H' := by rw [hhi]; unfold IntKind.wrap; simp only [IntKind.bits, IntKind.signed]; simp; split <;> omega
  clear hhi
  go_enter Tryz.func104, Tryz.ntmps104
  go_wp2
  have E := ((Env.start w).alloc #[.int .i64 H, .int .u64 L] 112).alloc #[.int .i64 H', .int .u64 L'] 112
  simp only [World.size_alloc] at E
  have r0 : _ = some (Value.int .i64 H') := E.blks.1.at 0
  have r1 : _ = some (Value.int .u64 L') := E.blks.1.at 1
  rw [HT.out]
  refine bodyPost_ret (v := .agg #[.int .i64 H', .int .u64 L']) (by simp [results, Tryz.results104, go_sem, r0, r1]) rfl ?_
  exact ⟨rfl, E.bel⟩

theorem cmp_twin (x y : Int) : cmpZ x y = if x / 18446744073709551616 < y / 18446744073709551616 then -1 else if y / 18446744073709551616 < x / 18446744073709551616 then 1 else cmpZ (x % 18446744073709551616) (y % 18446744073709551616) := by
  unfold cmpZ
  repeat' split
  all_goals omega

set_option maxRecDepth 100000 in
set_option maxHeartbeats 1000000 in
theorem tcmp_calls (w : World) (x y : Int) :
    Calls Tryz.prog 103 #[twin x, twin y] w (OkPost (.int .i64 (cmpZ x y)) w) := by
  have HT := Lib.hid (cmp_twin x y)
  show Calls _ _ #[.agg #[.int .i64 (x / 18446744073709551616), .int .u64 (x % 18446744073709551616)], .agg #[.int .i64 (y / 18446744073709551616), .int .u64 (y % 18446744073709551616)]] _ _
  generalize cmpZ x y = c at *
  generalize x / 18446744073709551616 = H at *
  generalize x % 18446744073709551616 = L at *
  generalize y / 18446744073709551616 = H' at *
  generalize y % 18446744073709551616 = L' at *
  go_enter Tryz.func103, Tryz.ntmps103
  go_wp2
  all_goals
    go_ret
    refine ⟨?_, ((Below.refl _ _).alloc (Nat.le_refl _) _).alloc (by simp) _⟩
    first
    | (have hc : c = 0 := (by rw [HT.out]; unfold cmpZ; repeat' split; all_goals omega)); (rw [hc]; rfl)
    | (have hc : c = -1 := (by rw [HT.out]; unfold cmpZ; repeat' split; all_goals omega)); (rw [hc]; rfl)
    | (have hc : c = 1 := (by rw [HT.out]; unfold cmpZ; repeat' split; all_goals omega)); (rw [hc]; rfl)

end Go.Proofs.YtilaheplclaokaaGreat
namespace Go.Proofs.YtilaheplclaokaaGreat
open Go.RowKit Go.Shelf

set_option maxRecDepth 100000 in
set_option maxHeartbeats 1000000 in
theorem div64_zero (lo : Int) (l0 : 0 ≤ lo) (l1 : lo < 18446744073709551616) (w : World) :
    Calls Tryz.prog 105 #[.int .u64 0, .int .u64 lo, .int .u64 1099511627776] w (QuietPost (.tuple #[.int .u64 (lo / 1099511627776), .int .u64 (lo % 1099511627776)]) w) := by
  have htd : Int.tdiv lo 1099511627776 = lo / 1099511627776 := Int.tdiv_eq_ediv_of_nonneg l0
  have htm : Int.tmod lo 1099511627776 = lo % 1099511627776 := Int.tmod_eq_emod_of_nonneg l0
  have hq : (lo / 1099511627776) % 18446744073709551616 = lo / 1099511627776 := by omega
  have hwr : ∀ z : Int, IntKind.u64.wrap z = z % 18446744073709551616 := fun z => by simp [IntKind.wrap, IntKind.bits, IntKind.signed]
  go_enter Tryz.func105, Tryz.ntmps105
  go_wp2
  go_quiet (fail)
  go_wp2
  go_ret2
  refine ⟨?_, _, rfl⟩
  rfl

theorem div64_any (hi lo : Int) (h0 : 0 ≤ hi) (h1 : hi < 1099511627776) (l0 : 0 ≤ lo) (l1 : lo < 18446744073709551616) (w : World) :
    Calls Tryz.prog 105 #[.int .u64 hi, .int .u64 lo, .int .u64 1099511627776] w (QuietPost (.tuple #[.int .u64 ((hi * 18446744073709551616 + lo) / 1099511627776), .int .u64 (lo % 1099511627776)]) w) := by
  by_cases h : hi = 0
  · subst h
    have e : ((0 : Int) * 18446744073709551616 + lo) = lo := by omega
    rw [e]
    exact div64_zero lo l0 l1 w
  · exact (div64_calls hi lo (by omega) h1 l0 l1 w).mono fun e w' ⟨h2, h3⟩ => ⟨h2, 0, by rw [h3]; rfl⟩

/-- Within 62 bits. -/
def clamp (z : Int) : Int := if z < -4611686018427387904 then -4611686018427387904 else if 4611686018427387904 < z then 4611686018427387904 else z

set_option maxRecDepth 100000 in
set_option maxHeartbeats 1000000 in
theorem down_pos (w : World) (x : Int) (h0 : 0 ≤ x) (h1 : x ≤ 85070591730234615865843651857942052864) :
    Calls Tryz.prog 67 #[twin x, .int .u64 1099511627776] w (OkPost (.int .i64 (clamp (x / 1099511627776))) w) := by
  show Calls _ _ #[.agg #[.int .i64 (x / 18446744073709551616), .int .u64 (x % 18446744073709551616)], .int .u64 1099511627776] _ _
  have hH0 : 0 ≤ x / 18446744073709551616 := by omega
  have hH1 : x / 18446744073709551616 ≤ 4611686018427387904 := by omega
  have hL : 0 ≤ x % 18446744073709551616 ∧ x % 18446744073709551616 < 18446744073709551616 := by omega
  have hx : x = x / 18446744073709551616 * 18446744073709551616 + x % 18446744073709551616 := by omega
  obtain ⟨z, hz⟩ : ∃ z, z = clamp (x / 1099511627776) := ⟨_, rfl⟩
  rw [← hz]
  have HZ := Lib.hid hz
  have HX := Lib.hid hx
  clear hz hx h0 h1
  generalize x / 18446744073709551616 = H at *
  generalize x % 18446744073709551616 = L at *
  have hn : ¬ H < 0 := by omega
  have hwr : ∀ z : Int, IntKind.u64.wrap z = z % 18446744073709551616 := fun z => by simp [IntKind.wrap, IntKind.bits, IntKind.signed]
  have hw1 : H % 18446744073709551616 = H := by omega
  by_cases hb : 1099511627776 ≤ H
  · have HF : Hid (z = 4611686018427387904) := Lib.hid (by rw [HZ.out, HX.out]; unfold clamp; repeat' split; all_goals omega)
    go_enter Tryz.func67, Tryz.ntmps67
    go_wp2
    go_ret
    exact ⟨by rw [HF.out]; rfl, (Below.refl _ _).alloc (Nat.le_refl _) _⟩
  · have CD := Lib.hid fun w' => div64_any H L hH0 (by omega) hL.1 hL.2 w'
    have hq : (H * 18446744073709551616 + L) / 1099511627776 = x / 1099511627776 := by rw [← HX.out]
    rw [hq] at CD
    have hq0 : 0 ≤ x / 1099511627776 ∧ x / 1099511627776 < 18446744073709551616 := by have := HX.out; omega
    clear hq
    have HZ2 : Hid (z = if x / 1099511627776 < 4611686018427387904 then x / 1099511627776 else 4611686018427387904) := Lib.hid (by rw [HZ.out]; unfold clamp; repeat' split; all_goals omega)
    clear HZ HX
    generalize x / 1099511627776 = q at *
    go_enter Tryz.func67, Tryz.ntmps67
    go_wp2_with (go_at_call 105; refine (CD.out _).mono ?_; rintro e w1 ⟨rfl, nd, rfl⟩)
    all_goals
      go_ret
      refine ⟨?_, below_drewN ((Below.refl _ _).alloc (Nat.le_refl _) _) _⟩
      first
      | (have hc : z = 4611686018427387904 := (by rw [HZ2.out]; split <;> omega)); (rw [hc]; rfl)
      | (have hc : z = q := (by rw [HZ2.out]; split <;> omega)); (rw [hc]; rfl)

theorem ceil_split (x H L : Int) (h : x = H * 18446744073709551616 + L) : -(-x / 1099511627776) = x / 1099511627776 + (if 0 < L % 1099511627776 then 1 else 0) := by
  split <;> omega

set_option maxRecDepth 100000 in
set_option maxHeartbeats 1000000 in
theorem up_pos (w : World) (x : Int) (h0 : 0 ≤ x) (h1 : x ≤ 85070591730234615865843651857942052864) :
    Calls Tryz.prog 69 #[twin x, .int .u64 1099511627776] w (OkPost (.int .i64 (clamp (-(-x / 1099511627776)))) w) := by
  show Calls _ _ #[.agg #[.int .i64 (x / 18446744073709551616), .int .u64 (x % 18446744073709551616)], .int .u64 1099511627776] _ _
  have hH0 : 0 ≤ x / 18446744073709551616 := by omega
  have hH1 : x / 18446744073709551616 ≤ 4611686018427387904 := by omega
  have hL : 0 ≤ x % 18446744073709551616 ∧ x % 18446744073709551616 < 18446744073709551616 := by omega
  have hx : x = x / 18446744073709551616 * 18446744073709551616 + x % 18446744073709551616 := by omega
  obtain ⟨z, hz⟩ : ∃ z, z = clamp (-(-x / 1099511627776)) := ⟨_, rfl⟩
  rw [← hz]
  have HZ := Lib.hid hz
  have HX := Lib.hid hx
  clear hz hx h0 h1
  generalize x / 18446744073709551616 = H at *
  generalize x % 18446744073709551616 = L at *
  have hn : ¬ H < 0 := by omega
  have hwr : ∀ z : Int, IntKind.u64.wrap z = z % 18446744073709551616 := fun z => by simp [IntKind.wrap, IntKind.bits, IntKind.signed]
  have hw1 : H % 18446744073709551616 = H := by omega
  by_cases hb : 1099511627776 ≤ H
  · have HF : Hid (z = 4611686018427387904) := Lib.hid (by rw [HZ.out, HX.out]; unfold clamp; repeat' split; all_goals omega)
    go_enter Tryz.func69, Tryz.ntmps69
    go_wp2
    go_ret
    exact ⟨by rw [HF.out]; rfl, (Below.refl _ _).alloc (Nat.le_refl _) _⟩
  · have CD := Lib.hid fun w' => div64_any H L hH0 (by omega) hL.1 hL.2 w'
    have hq : (H * 18446744073709551616 + L) / 1099511627776 = x / 1099511627776 := by rw [← HX.out]
    rw [hq] at CD
    have hq0 : 0 ≤ x / 1099511627776 ∧ x / 1099511627776 < 18446744073709551616 := by have := HX.out; omega
    clear hq
    have hcs := ceil_split x H L HX.out
    have HZ2 : Hid (z = if x / 1099511627776 < 4611686018427387904 then x / 1099511627776 + (if 0 < L % 1099511627776 then 1 else 0) else 4611686018427387904) := Lib.hid (by rw [HZ.out, hcs]; unfold clamp; repeat' split; all_goals omega)
    have hr0 : 0 ≤ L % 1099511627776 := by omega
    clear HZ HX hcs
    generalize x / 1099511627776 = q at *
    generalize L % 1099511627776 = r at *
    by_cases h1 : q < 4611686018427387904
    · have hw2 : (q + 1) % 18446744073709551616 = q + 1 := by omega
      by_cases h2 : 0 < r
      · go_enter Tryz.func69, Tryz.ntmps69
        go_wp2_with (go_at_call 105; refine (CD.out _).mono ?_; rintro e w1 ⟨rfl, nd, rfl⟩)
        all_goals
          go_ret
          refine ⟨?_, below_drewN ((Below.refl _ _).alloc (Nat.le_refl _) _) _⟩
          have hc : z = q + 1 := by rw [HZ2.out, if_pos (by omega), if_pos (by omega)]
          rw [hc]
          rfl
      · go_enter Tryz.func69, Tryz.ntmps69
        go_wp2_with (go_at_call 105; refine (CD.out _).mono ?_; rintro e w1 ⟨rfl, nd, rfl⟩)
        all_goals
          go_ret
          refine ⟨?_, below_drewN ((Below.refl _ _).alloc (Nat.le_refl _) _) _⟩
          have hc : z = q := by rw [HZ2.out, if_pos (by omega), if_neg (by omega)]; omega
          rw [hc]
          rfl
    · go_enter Tryz.func69, Tryz.ntmps69
      go_wp2_with (go_at_call 105; refine (CD.out _).mono ?_; rintro e w1 ⟨rfl, nd, rfl⟩)
      all_goals
        go_ret
        refine ⟨?_, below_drewN ((Below.refl _ _).alloc (Nat.le_refl _) _) _⟩
        have hc : z = 4611686018427387904 := by rw [HZ2.out, if_neg (by omega)]
        rw [hc]
        first
        | rfl
        | (have hq : q = 4611686018427387904 := (by omega)); (rw [hq]; rfl)

theorem clamp_neg (z : Int) : -clamp z = clamp (-z) := by
  unfold clamp
  repeat' split
  all_goals omega
theorem clamp_range (z : Int) : -4611686018427387904 ≤ clamp z ∧ clamp z ≤ 4611686018427387904 := by
  unfold clamp
  repeat' split
  all_goals omega


set_option maxRecDepth 100000 in
set_option maxHeartbeats 1000000 in
theorem down_calls (w : World) (x : Int) (h0 : -85070591730234615865843651857942052864 ≤ x) (h1 : x ≤ 85070591730234615865843651857942052864) :
    Calls Tryz.prog 67 #[twin x, .int .u64 1099511627776] w (OkPost (.int .i64 (clamp (x / 1099511627776))) w) := by
  by_cases hx : 0 ≤ x
  · exact down_pos w x hx h1
  · have CN : Hid (∀ w' : World, Calls Tryz.prog 104 #[.agg #[.int .i64 (x / 18446744073709551616), .int .u64 (x % 18446744073709551616)]] w' (OkPost (twin (-x)) w')) := Lib.hid fun w' => tneg_calls w' x h0 h1
    have CU := Lib.hid fun w' => up_pos w' (-x) (by omega) (by omega)
    have hz : clamp (-(-(-x) / 1099511627776)) = -clamp (x / 1099511627776) := by rw [clamp_neg, Int.neg_neg]
    rw [hz] at CU
    have hcr := clamp_range (x / 1099511627776)
    clear hz
    generalize clamp (x / 1099511627776) = z at *
    have hw : IntKind.i64.wrap z = z := by unfold IntKind.wrap; simp only [IntKind.bits, IntKind.signed]; simp; split <;> omega
    show Calls _ _ #[.agg #[.int .i64 (x / 18446744073709551616), .int .u64 (x % 18446744073709551616)], .int .u64 1099511627776] _ _
    have hn : x / 18446744073709551616 < 0 := by omega
    generalize x / 18446744073709551616 = H at *
    generalize x % 18446744073709551616 = L at *
    generalize twin (-x) = T at *
    go_enter Tryz.func67, Tryz.ntmps67
    go_wp2_with (first | (go_at_call 104; refine (CN.out _).mono ?_; rintro e w1 ⟨rfl, hb1⟩) | (go_at_call 69; refine (CU.out _).mono ?_; rintro e w2 ⟨rfl, hb2⟩))
    go_ret
    refine ⟨?_, ((Below.refl _ _).alloc (Nat.le_refl _) _).trans ((hb1.trans (hb2.mono hb1.size)).mono (by simp))⟩
    first
    | rfl
    | simp

set_option maxRecDepth 100000 in
set_option maxHeartbeats 1000000 in
theorem up_calls (w : World) (x : Int) (h0 : -85070591730234615865843651857942052864 ≤ x) (h1 : x ≤ 85070591730234615865843651857942052864) :
    Calls Tryz.prog 69 #[twin x, .int .u64 1099511627776] w (OkPost (.int .i64 (clamp (-(-x / 1099511627776)))) w) := by
  by_cases hx : 0 ≤ x
  · exact up_pos w x hx h1
  · have CN : Hid (∀ w' : World, Calls Tryz.prog 104 #[.agg #[.int .i64 (x / 18446744073709551616), .int .u64 (x % 18446744073709551616)]] w' (OkPost (twin (-x)) w')) := Lib.hid fun w' => tneg_calls w' x h0 h1
    have CU := Lib.hid fun w' => down_pos w' (-x) (by omega) (by omega)
    have hz : clamp (-x / 1099511627776) = -clamp (-(-x / 1099511627776)) := by rw [clamp_neg, Int.neg_neg]
    rw [hz] at CU
    have hcr := clamp_range (-(-x / 1099511627776))
    clear hz
    generalize clamp (-(-x / 1099511627776)) = z at *
    have hw : IntKind.i64.wrap z = z := by unfold IntKind.wrap; simp only [IntKind.bits, IntKind.signed]; simp; split <;> omega
    show Calls _ _ #[.agg #[.int .i64 (x / 18446744073709551616), .int .u64 (x % 18446744073709551616)], .int .u64 1099511627776] _ _
    have hn : x / 18446744073709551616 < 0 := by omega
    generalize x / 18446744073709551616 = H at *
    generalize x % 18446744073709551616 = L at *
    generalize twin (-x) = T at *
    go_enter Tryz.func69, Tryz.ntmps69
    go_wp2_with (first | (go_at_call 104; refine (CN.out _).mono ?_; rintro e w1 ⟨rfl, hb1⟩) | (go_at_call 67; refine (CU.out _).mono ?_; rintro e w2 ⟨rfl, hb2⟩))
    go_ret
    refine ⟨?_, ((Below.refl _ _).alloc (Nat.le_refl _) _).trans ((hb1.trans (hb2.mono hb1.size)).mono (by simp))⟩
    first
    | rfl
    | simp

end Go.Proofs.YtilaheplclaokaaGreat
namespace Go.Proofs.YtilaheplclaokaaGreat
open Go.RowKit Go.Shelf
attribute [local go_sem] Oper.semAt_some

/-- The lesser one, the greater one. -/
def lo2 (t u : Int) : Int := if u < t then u else t
def hi2 (t u : Int) : Int := if t < u then u else t
theorem cmp_neg' {x y : Int} (h : x < y) : cmpZ x y < 0 := by rw [cmpZ_lt h]; omega
theorem cmpZ_nneg2 {x y : Int} (h : ¬ x < y) : ¬ cmpZ x y < 0 := by
  unfold cmpZ
  rw [if_neg h]
  split <;> omega
theorem cmpZ_npos2 {x y : Int} (h : ¬ y < x) : ¬ 0 < cmpZ x y := by
  unfold cmpZ
  rw [if_neg h]
  split <;> omega
theorem cmp_pos' {x y : Int} (h : y < x) : 0 < cmpZ x y := by rw [cmpZ_gt h]; omega


set_option maxRecDepth 100000 in
set_option maxHeartbeats 1000000 in
theorem least_calls (w : World) (b : Nat) (x0 x1 x2 x3 : Int) (t : TypeId) (hs : Blk w b #[.int .i64 (x0 / 18446744073709551616), .int .u64 (x0 % 18446744073709551616), .int .i64 (x1 / 18446744073709551616), .int .u64 (x1 % 18446744073709551616), .int .i64 (x2 / 18446744073709551616), .int .u64 (x2 % 18446744073709551616), .int .i64 (x3 / 18446744073709551616), .int .u64 (x3 % 18446744073709551616)] t) :
    Calls Tryz.prog 66 #[.agg #[.int .i64 (x0 / 18446744073709551616), .int .u64 (x0 % 18446744073709551616)], .slice (some ⟨b, 2, none⟩) 3 3] w (OkPost (twin (lo2 (lo2 (lo2 x0 x1) x2) x3)) w) := by
  have hlb := hs.lt
  obtain ⟨CS, hCS⟩ : ∃ CS : Array Value, CS = #[.int .i64 (x0 / 18446744073709551616), .int .u64 (x0 % 18446744073709551616), .int .i64 (x1 / 18446744073709551616), .int .u64 (x1 % 18446744073709551616), .int .i64 (x2 / 18446744073709551616), .int .u64 (x2 % 18446744073709551616), .int .i64 (x3 / 18446744073709551616), .int .u64 (x3 % 18446744073709551616)] := ⟨_, rfl⟩
  have E := (((Env.start w).blk hs).alloc #[.int .i64 (x0 / 18446744073709551616), .int .u64 (x0 % 18446744073709551616)] 112).alloc #[.int .i64 0, .int .u64 0] 112
  simp only [World.size_alloc] at E
  have HE0 := Lib.hid E.swap
  clear E hs hCS CS
  have CC : Hid (∀ (w' : World) (x y : Int), Calls Tryz.prog 103 #[.agg #[.int .i64 (x / 18446744073709551616), .int .u64 (x % 18446744073709551616)], .agg #[.int .i64 (y / 18446744073709551616), .int .u64 (y % 18446744073709551616)]] w' (OkPost (.int .i64 (cmpZ x y)) w')) := Lib.hid tcmp_calls
  have HR : Hid (lo2 (lo2 (lo2 x0 x1) x2) x3 = lo2 (lo2 (lo2 x0 x1) x2) x3) := Lib.hid rfl
  obtain ⟨m1, hm1⟩ : ∃ m1, m1 = lo2 x0 x1 := ⟨_, rfl⟩
  obtain ⟨m2, hm2⟩ : ∃ m2, m2 = lo2 m1 x2 := ⟨_, rfl⟩
  obtain ⟨m3, hm3⟩ : ∃ m3, m3 = lo2 m2 x3 := ⟨_, rfl⟩
  rw [← hm1, ← hm2, ← hm3]
  have HM1 := Lib.hid hm1
  have HM2 := Lib.hid hm2
  have HM3 := Lib.hid hm3
  clear hm1 hm2 hm3 HR
  go_enter Tryz.func66, Tryz.ntmps66
  go_wp2
  go_loopw [9] (fun i wr => ∃ (k : Nat) (m : Int), k ≤ 3 ∧ i = .int .i64 k ∧ ((k = 0 ∧ m = x0) ∨ (k = 1 ∧ m = m1) ∨ (k = 2 ∧ m = m2) ∨ (k = 3 ∧ m = m3)) ∧ Env w [(w.heap.size, #[.int .i64 (m / 18446744073709551616), .int .u64 (m % 18446744073709551616)], 112), (w.heap.size + 1, #[.int .i64 0, .int .u64 0], 112), (b, #[.int .i64 (x0 / 18446744073709551616), .int .u64 (x0 % 18446744073709551616), .int .i64 (x1 / 18446744073709551616), .int .u64 (x1 % 18446744073709551616), .int .i64 (x2 / 18446744073709551616), .int .u64 (x2 % 18446744073709551616), .int .i64 (x3 / 18446744073709551616), .int .u64 (x3 % 18446744073709551616)], t)] [] wr) (fun i _ => 3 - (intOf i).toNat)
  case atStart => exact ⟨0, x0, by omega, rfl, .inl ⟨rfl, rfl⟩, HE0.out⟩
  case round =>
    clear HE0
    obtain ⟨k, m, hk, rfl, hkm, E⟩ := hrel
    have HE := Lib.hid E
    clear E
    rcases hkm with ⟨rfl, hm⟩ | ⟨rfl, hm⟩ | ⟨rfl, hm⟩ | ⟨rfl, hm⟩
    · rw [hm] at HE
      clear hm m
      have HST : Hid (m1 = if x1 < x0 then x1 else x0) := Lib.hid HM1.out
      by_cases hc : x1 < x0
      · have hcm : cmpZ x1 x0 < 0 := cmp_neg' hc
        have e0 : wr.cell? ⟨b, 2, none⟩ = some (.int .i64 (x1 / 18446744073709551616)) := HE.out.blks.2.2.1.at 2
        have e1 : wr.cell? ⟨b, 3, none⟩ = some (.int .u64 (x1 % 18446744073709551616)) := HE.out.blks.2.2.1.at 3
        have e2 : wr.cell? ⟨w.heap.size, 0, none⟩ = some (.int .i64 (x0 / 18446744073709551616)) := HE.out.blks.1.at 0
        have e3 : wr.cell? ⟨w.heap.size, 1, none⟩ = some (.int .u64 (x0 % 18446744073709551616)) := HE.out.blks.1.at 1
        have hl : w.heap.size < wr.heap.size := HE.out.blks.1.lt
        go_wp2_with (go_at_call 103; refine (CC.out _ x1 x0).mono ?_; rintro e w2 ⟨rfl, hb2⟩; have E2 := (HE.out.alloc #[.int .i64 (x1 / 18446744073709551616), .int .u64 (x1 % 18446744073709551616)] 112).below hb2; have e4 : w2.cell? ⟨wr.heap.size, 0, none⟩ = some (.int .i64 (x1 / 18446744073709551616)) := E2.blks.1.at 0; have e5 : w2.cell? ⟨wr.heap.size, 1, none⟩ = some (.int .u64 (x1 % 18446744073709551616)) := E2.blks.1.at 1; have e6 : w2.cell? ⟨w.heap.size, 0, none⟩ = some (.int .i64 (x0 / 18446744073709551616)) := E2.blks.2.1.at 0; have e7 : w2.cell? ⟨w.heap.size, 1, none⟩ = some (.int .u64 (x0 % 18446744073709551616)) := E2.blks.2.1.at 1; have g6 := E2.blks.2.1.fr 0; have g7 := E2.blks.2.1.fr 1; have HE2 := Lib.hid E2.drop; clear E2 hb2)
        have E3 := (HE2.out.setY (Nat.le_refl _) ⟨by simp, by simp only [ne_eq]; omega, trivial⟩ rfl 0 (.int .i64 (x1 / 18446744073709551616))).setY (Nat.le_refl _) ⟨by simp, by simp only [ne_eq]; omega, trivial⟩ rfl 1 (.int .u64 (x1 % 18446744073709551616))
        have HE3 := Lib.hid E3
        clear E3
        go_roundw
        case rel => exact ⟨1, m1, by omega, by go_num, .inr (.inl ⟨rfl, rfl⟩), by rw [HST.out, if_pos (by omega)]; exact HE3.out⟩
        case measure => simp [intOf]
      · have hcm : ¬ cmpZ x1 x0 < 0 := cmpZ_nneg2 hc
        have e0 : wr.cell? ⟨b, 2, none⟩ = some (.int .i64 (x1 / 18446744073709551616)) := HE.out.blks.2.2.1.at 2
        have e1 : wr.cell? ⟨b, 3, none⟩ = some (.int .u64 (x1 % 18446744073709551616)) := HE.out.blks.2.2.1.at 3
        have e2 : wr.cell? ⟨w.heap.size, 0, none⟩ = some (.int .i64 (x0 / 18446744073709551616)) := HE.out.blks.1.at 0
        have e3 : wr.cell? ⟨w.heap.size, 1, none⟩ = some (.int .u64 (x0 % 18446744073709551616)) := HE.out.blks.1.at 1
        have hl : w.heap.size < wr.heap.size := HE.out.blks.1.lt
        go_wp2_with (go_at_call 103; refine (CC.out _ x1 x0).mono ?_; rintro e w2 ⟨rfl, hb2⟩; have E2 := (HE.out.alloc #[.int .i64 (x1 / 18446744073709551616), .int .u64 (x1 % 18446744073709551616)] 112).below hb2; have e4 : w2.cell? ⟨wr.heap.size, 0, none⟩ = some (.int .i64 (x1 / 18446744073709551616)) := E2.blks.1.at 0; have e5 : w2.cell? ⟨wr.heap.size, 1, none⟩ = some (.int .u64 (x1 % 18446744073709551616)) := E2.blks.1.at 1; have e6 : w2.cell? ⟨w.heap.size, 0, none⟩ = some (.int .i64 (x0 / 18446744073709551616)) := E2.blks.2.1.at 0; have e7 : w2.cell? ⟨w.heap.size, 1, none⟩ = some (.int .u64 (x0 % 18446744073709551616)) := E2.blks.2.1.at 1; have g6 := E2.blks.2.1.fr 0; have g7 := E2.blks.2.1.fr 1; have HE2 := Lib.hid E2.drop; clear E2 hb2)
        go_roundw
        case rel => exact ⟨1, m1, by omega, by go_num, .inr (.inl ⟨rfl, rfl⟩), by rw [HST.out, if_neg (by omega)]; exact HE2.out⟩
        case measure => simp [intOf]
    · rw [hm] at HE
      clear hm m
      have HST : Hid (m2 = if x2 < m1 then x2 else m1) := Lib.hid HM2.out
      by_cases hc : x2 < m1
      · have hcm : cmpZ x2 m1 < 0 := cmp_neg' hc
        have e0 : wr.cell? ⟨b, 4, none⟩ = some (.int .i64 (x2 / 18446744073709551616)) := HE.out.blks.2.2.1.at 4
        have e1 : wr.cell? ⟨b, 5, none⟩ = some (.int .u64 (x2 % 18446744073709551616)) := HE.out.blks.2.2.1.at 5
        have e2 : wr.cell? ⟨w.heap.size, 0, none⟩ = some (.int .i64 (m1 / 18446744073709551616)) := HE.out.blks.1.at 0
        have e3 : wr.cell? ⟨w.heap.size, 1, none⟩ = some (.int .u64 (m1 % 18446744073709551616)) := HE.out.blks.1.at 1
        have hl : w.heap.size < wr.heap.size := HE.out.blks.1.lt
        go_wp2_with (go_at_call 103; refine (CC.out _ x2 m1).mono ?_; rintro e w2 ⟨rfl, hb2⟩; have E2 := (HE.out.alloc #[.int .i64 (x2 / 18446744073709551616), .int .u64 (x2 % 18446744073709551616)] 112).below hb2; have e4 : w2.cell? ⟨wr.heap.size, 0, none⟩ = some (.int .i64 (x2 / 18446744073709551616)) := E2.blks.1.at 0; have e5 : w2.cell? ⟨wr.heap.size, 1, none⟩ = some (.int .u64 (x2 % 18446744073709551616)) := E2.blks.1.at 1; have e6 : w2.cell? ⟨w.heap.size, 0, none⟩ = some (.int .i64 (m1 / 18446744073709551616)) := E2.blks.2.1.at 0; have e7 : w2.cell? ⟨w.heap.size, 1, none⟩ = some (.int .u64 (m1 % 18446744073709551616)) := E2.blks.2.1.at 1; have g6 := E2.blks.2.1.fr 0; have g7 := E2.blks.2.1.fr 1; have HE2 := Lib.hid E2.drop; clear E2 hb2)
        have E3 := (HE2.out.setY (Nat.le_refl _) ⟨by simp, by simp only [ne_eq]; omega, trivial⟩ rfl 0 (.int .i64 (x2 / 18446744073709551616))).setY (Nat.le_refl _) ⟨by simp, by simp only [ne_eq]; omega, trivial⟩ rfl 1 (.int .u64 (x2 % 18446744073709551616))
        have HE3 := Lib.hid E3
        clear E3
        go_roundw
        case rel => exact ⟨2, m2, by omega, by go_num, .inr (.inr (.inl ⟨rfl, rfl⟩)), by rw [HST.out, if_pos (by omega)]; exact HE3.out⟩
        case measure => simp [intOf]
      · have hcm : ¬ cmpZ x2 m1 < 0 := cmpZ_nneg2 hc
        have e0 : wr.cell? ⟨b, 4, none⟩ = some (.int .i64 (x2 / 18446744073709551616)) := HE.out.blks.2.2.1.at 4
        have e1 : wr.cell? ⟨b, 5, none⟩ = some (.int .u64 (x2 % 18446744073709551616)) := HE.out.blks.2.2.1.at 5
        have e2 : wr.cell? ⟨w.heap.size, 0, none⟩ = some (.int .i64 (m1 / 18446744073709551616)) := HE.out.blks.1.at 0
        have e3 : wr.cell? ⟨w.heap.size, 1, none⟩ = some (.int .u64 (m1 % 18446744073709551616)) := HE.out.blks.1.at 1
        have hl : w.heap.size < wr.heap.size := HE.out.blks.1.lt
        go_wp2_with (go_at_call 103; refine (CC.out _ x2 m1).mono ?_; rintro e w2 ⟨rfl, hb2⟩; have E2 := (HE.out.alloc #[.int .i64 (x2 / 18446744073709551616), .int .u64 (x2 % 18446744073709551616)] 112).below hb2; have e4 : w2.cell? ⟨wr.heap.size, 0, none⟩ = some (.int .i64 (x2 / 18446744073709551616)) := E2.blks.1.at 0; have e5 : w2.cell? ⟨wr.heap.size, 1, none⟩ = some (.int .u64 (x2 % 18446744073709551616)) := E2.blks.1.at 1; have e6 : w2.cell? ⟨w.heap.size, 0, none⟩ = some (.int .i64 (m1 / 18446744073709551616)) := E2.blks.2.1.at 0; have e7 : w2.cell? ⟨w.heap.size, 1, none⟩ = some (.int .u64 (m1 % 18446744073709551616)) := E2.blks.2.1.at 1; have g6 := E2.blks.2.1.fr 0; have g7 := E2.blks.2.1.fr 1; have HE2 := Lib.hid E2.drop; clear E2 hb2)
        go_roundw
        case rel => exact ⟨2, m2, by omega, by go_num, .inr (.inr (.inl ⟨rfl, rfl⟩)), by rw [HST.out, if_neg (by omega)]; exact HE2.out⟩
        case measure => simp [intOf]
    · rw [hm] at HE
      clear hm m
      have HST : Hid (m3 = if x3 < m2 then x3 else m2) := Lib.hid HM3.out
      by_cases hc : x3 < m2
      · have hcm : cmpZ x3 m2 < 0 := cmp_neg' hc
        have e0 : wr.cell? ⟨b, 6, none⟩ = some (.int .i64 (x3 / 18446744073709551616)) := HE.out.blks.2.2.1.at 6
        have e1 : wr.cell? ⟨b, 7, none⟩ = some (.int .u64 (x3 % 18446744073709551616)) := HE.out.blks.2.2.1.at 7
        have e2 : wr.cell? ⟨w.heap.size, 0, none⟩ = some (.int .i64 (m2 / 18446744073709551616)) := HE.out.blks.1.at 0
        have e3 : wr.cell? ⟨w.heap.size, 1, none⟩ = some (.int .u64 (m2 % 18446744073709551616)) := HE.out.blks.1.at 1
        have hl : w.heap.size < wr.heap.size := HE.out.blks.1.lt
        go_wp2_with (go_at_call 103; refine (CC.out _ x3 m2).mono ?_; rintro e w2 ⟨rfl, hb2⟩; have E2 := (HE.out.alloc #[.int .i64 (x3 / 18446744073709551616), .int .u64 (x3 % 18446744073709551616)] 112).below hb2; have e4 : w2.cell? ⟨wr.heap.size, 0, none⟩ = some (.int .i64 (x3 / 18446744073709551616)) := E2.blks.1.at 0; have e5 : w2.cell? ⟨wr.heap.size, 1, none⟩ = some (.int .u64 (x3 % 18446744073709551616)) := E2.blks.1.at 1; have e6 : w2.cell? ⟨w.heap.size, 0, none⟩ = some (.int .i64 (m2 / 18446744073709551616)) := E2.blks.2.1.at 0; have e7 : w2.cell? ⟨w.heap.size, 1, none⟩ = some (.int .u64 (m2 % 18446744073709551616)) := E2.blks.2.1.at 1; have g6 := E2.blks.2.1.fr 0; have g7 := E2.blks.2.1.fr 1; have HE2 := Lib.hid E2.drop; clear E2 hb2)
        have E3 := (HE2.out.setY (Nat.le_refl _) ⟨by simp, by simp only [ne_eq]; omega, trivial⟩ rfl 0 (.int .i64 (x3 / 18446744073709551616))).setY (Nat.le_refl _) ⟨by simp, by simp only [ne_eq]; omega, trivial⟩ rfl 1 (.int .u64 (x3 % 18446744073709551616))
        have HE3 := Lib.hid E3
        clear E3
        go_roundw
        case rel => exact ⟨3, m3, by omega, by go_num, .inr (.inr (.inr ⟨rfl, rfl⟩)), by rw [HST.out, if_pos (by omega)]; exact HE3.out⟩
        case measure => simp [intOf]
      · have hcm : ¬ cmpZ x3 m2 < 0 := cmpZ_nneg2 hc
        have e0 : wr.cell? ⟨b, 6, none⟩ = some (.int .i64 (x3 / 18446744073709551616)) := HE.out.blks.2.2.1.at 6
        have e1 : wr.cell? ⟨b, 7, none⟩ = some (.int .u64 (x3 % 18446744073709551616)) := HE.out.blks.2.2.1.at 7
        have e2 : wr.cell? ⟨w.heap.size, 0, none⟩ = some (.int .i64 (m2 / 18446744073709551616)) := HE.out.blks.1.at 0
        have e3 : wr.cell? ⟨w.heap.size, 1, none⟩ = some (.int .u64 (m2 % 18446744073709551616)) := HE.out.blks.1.at 1
        have hl : w.heap.size < wr.heap.size := HE.out.blks.1.lt
        go_wp2_with (go_at_call 103; refine (CC.out _ x3 m2).mono ?_; rintro e w2 ⟨rfl, hb2⟩; have E2 := (HE.out.alloc #[.int .i64 (x3 / 18446744073709551616), .int .u64 (x3 % 18446744073709551616)] 112).below hb2; have e4 : w2.cell? ⟨wr.heap.size, 0, none⟩ = some (.int .i64 (x3 / 18446744073709551616)) := E2.blks.1.at 0; have e5 : w2.cell? ⟨wr.heap.size, 1, none⟩ = some (.int .u64 (x3 % 18446744073709551616)) := E2.blks.1.at 1; have e6 : w2.cell? ⟨w.heap.size, 0, none⟩ = some (.int .i64 (m2 / 18446744073709551616)) := E2.blks.2.1.at 0; have e7 : w2.cell? ⟨w.heap.size, 1, none⟩ = some (.int .u64 (m2 % 18446744073709551616)) := E2.blks.2.1.at 1; have g6 := E2.blks.2.1.fr 0; have g7 := E2.blks.2.1.fr 1; have HE2 := Lib.hid E2.drop; clear E2 hb2)
        go_roundw
        case rel => exact ⟨3, m3, by omega, by go_num, .inr (.inr (.inr ⟨rfl, rfl⟩)), by rw [HST.out, if_neg (by omega)]; exact HE2.out⟩
        case measure => simp [intOf]
    · rw [hm] at HE
      clear hm m
      have e2 : wr.cell? ⟨w.heap.size, 0, none⟩ = some (.int .i64 (m3 / 18446744073709551616)) := HE.out.blks.1.at 0
      have e3 : wr.cell? ⟨w.heap.size, 1, none⟩ = some (.int .u64 (m3 % 18446744073709551616)) := HE.out.blks.1.at 1
      have f0 : wr.cell? ⟨w.heap.size + 1, 0, none⟩ = some (.int .i64 0) := HE.out.blks.2.1.at 0
      have f1 : wr.cell? ⟨w.heap.size + 1, 1, none⟩ = some (.int .u64 0) := HE.out.blks.2.1.at 1
      have g0 := HE.out.blks.2.1.fr 0
      have g1 := HE.out.blks.2.1.fr 1
      go_wp2
      have E3 := (HE.out.swap.setY (by omega) ⟨by simp, by simp only [ne_eq]; omega, trivial⟩ rfl 0 (.int .i64 (m3 / 18446744073709551616))).setY (by omega) ⟨by simp, by simp only [ne_eq]; omega, trivial⟩ rfl 1 (.int .u64 (m3 % 18446744073709551616))
      have r0 : _ = some (Value.int .i64 (m3 / 18446744073709551616)) := E3.blks.1.at 0
      have r1 : _ = some (Value.int .u64 (m3 % 18446744073709551616)) := E3.blks.1.at 1
      refine bodyPost_ret (v := .agg #[.int .i64 (m3 / 18446744073709551616), .int .u64 (m3 % 18446744073709551616)]) (by simp [results, Tryz.results66, go_sem, r0, r1]) rfl ?_
      exact ⟨rfl, E3.bel⟩


set_option maxRecDepth 100000 in
set_option maxHeartbeats 1000000 in
theorem greatest_calls (w : World) (b : Nat) (x0 x1 x2 x3 : Int) (t : TypeId) (hs : Blk w b #[.int .i64 (x0 / 18446744073709551616), .int .u64 (x0 % 18446744073709551616), .int .i64 (x1 / 18446744073709551616), .int .u64 (x1 % 18446744073709551616), .int .i64 (x2 / 18446744073709551616), .int .u64 (x2 % 18446744073709551616), .int .i64 (x3 / 18446744073709551616), .int .u64 (x3 % 18446744073709551616)] t) :
    Calls Tryz.prog 68 #[.agg #[.int .i64 (x0 / 18446744073709551616), .int .u64 (x0 % 18446744073709551616)], .slice (some ⟨b, 2, none⟩) 3 3] w (OkPost (twin (hi2 (hi2 (hi2 x0 x1) x2) x3)) w) := by
  have hlb := hs.lt
  obtain ⟨CS, hCS⟩ : ∃ CS : Array Value, CS = #[.int .i64 (x0 / 18446744073709551616), .int .u64 (x0 % 18446744073709551616), .int .i64 (x1 / 18446744073709551616), .int .u64 (x1 % 18446744073709551616), .int .i64 (x2 / 18446744073709551616), .int .u64 (x2 % 18446744073709551616), .int .i64 (x3 / 18446744073709551616), .int .u64 (x3 % 18446744073709551616)] := ⟨_, rfl⟩
  have E := (((Env.start w).blk hs).alloc #[.int .i64 (x0 / 18446744073709551616), .int .u64 (x0 % 18446744073709551616)] 112).alloc #[.int .i64 0, .int .u64 0] 112
  simp only [World.size_alloc] at E
  have HE0 := Lib.hid E.swap
  clear E hs hCS CS
  have CC : Hid (∀ (w' : World) (x y : Int), Calls Tryz.prog 103 #[.agg #[.int .i64 (x / 18446744073709551616), .int .u64 (x % 18446744073709551616)], .agg #[.int .i64 (y / 18446744073709551616), .int .u64 (y % 18446744073709551616)]] w' (OkPost (.int .i64 (cmpZ x y)) w')) := Lib.hid tcmp_calls
  have HR : Hid (hi2 (hi2 (hi2 x0 x1) x2) x3 = hi2 (hi2 (hi2 x0 x1) x2) x3) := Lib.hid rfl
  obtain ⟨m1, hm1⟩ : ∃ m1, m1 = hi2 x0 x1 := ⟨_, rfl⟩
  obtain ⟨m2, hm2⟩ : ∃ m2, m2 = hi2 m1 x2 := ⟨_, rfl⟩
  obtain ⟨m3, hm3⟩ : ∃ m3, m3 = hi2 m2 x3 := ⟨_, rfl⟩
  rw [← hm1, ← hm2, ← hm3]
  have HM1 := Lib.hid hm1
  have HM2 := Lib.hid hm2
  have HM3 := Lib.hid hm3
  clear hm1 hm2 hm3 HR
  go_enter Tryz.func68, Tryz.ntmps68
  go_wp2
  go_loopw [9] (fun i wr => ∃ (k : Nat) (m : Int), k ≤ 3 ∧ i = .int .i64 k ∧ ((k = 0 ∧ m = x0) ∨ (k = 1 ∧ m = m1) ∨ (k = 2 ∧ m = m2) ∨ (k = 3 ∧ m = m3)) ∧ Env w [(w.heap.size, #[.int .i64 (m / 18446744073709551616), .int .u64 (m % 18446744073709551616)], 112), (w.heap.size + 1, #[.int .i64 0, .int .u64 0], 112), (b, #[.int .i64 (x0 / 18446744073709551616), .int .u64 (x0 % 18446744073709551616), .int .i64 (x1 / 18446744073709551616), .int .u64 (x1 % 18446744073709551616), .int .i64 (x2 / 18446744073709551616), .int .u64 (x2 % 18446744073709551616), .int .i64 (x3 / 18446744073709551616), .int .u64 (x3 % 18446744073709551616)], t)] [] wr) (fun i _ => 3 - (intOf i).toNat)
  case atStart => exact ⟨0, x0, by omega, rfl, .inl ⟨rfl, rfl⟩, HE0.out⟩
  case round =>
    clear HE0
    obtain ⟨k, m, hk, rfl, hkm, E⟩ := hrel
    have HE := Lib.hid E
    clear E
    rcases hkm with ⟨rfl, hm⟩ | ⟨rfl, hm⟩ | ⟨rfl, hm⟩ | ⟨rfl, hm⟩
    · rw [hm] at HE
      clear hm m
      have HST : Hid (m1 = if x0 < x1 then x1 else x0) := Lib.hid HM1.out
      by_cases hc : x0 < x1
      · have hcm : 0 < cmpZ x1 x0 := cmp_pos' hc
        have e0 : wr.cell? ⟨b, 2, none⟩ = some (.int .i64 (x1 / 18446744073709551616)) := HE.out.blks.2.2.1.at 2
        have e1 : wr.cell? ⟨b, 3, none⟩ = some (.int .u64 (x1 % 18446744073709551616)) := HE.out.blks.2.2.1.at 3
        have e2 : wr.cell? ⟨w.heap.size, 0, none⟩ = some (.int .i64 (x0 / 18446744073709551616)) := HE.out.blks.1.at 0
        have e3 : wr.cell? ⟨w.heap.size, 1, none⟩ = some (.int .u64 (x0 % 18446744073709551616)) := HE.out.blks.1.at 1
        have hl : w.heap.size < wr.heap.size := HE.out.blks.1.lt
        go_wp2_with (go_at_call 103; refine (CC.out _ x1 x0).mono ?_; rintro e w2 ⟨rfl, hb2⟩; have E2 := (HE.out.alloc #[.int .i64 (x1 / 18446744073709551616), .int .u64 (x1 % 18446744073709551616)] 112).below hb2; have e4 : w2.cell? ⟨wr.heap.size, 0, none⟩ = some (.int .i64 (x1 / 18446744073709551616)) := E2.blks.1.at 0; have e5 : w2.cell? ⟨wr.heap.size, 1, none⟩ = some (.int .u64 (x1 % 18446744073709551616)) := E2.blks.1.at 1; have e6 : w2.cell? ⟨w.heap.size, 0, none⟩ = some (.int .i64 (x0 / 18446744073709551616)) := E2.blks.2.1.at 0; have e7 : w2.cell? ⟨w.heap.size, 1, none⟩ = some (.int .u64 (x0 % 18446744073709551616)) := E2.blks.2.1.at 1; have g6 := E2.blks.2.1.fr 0; have g7 := E2.blks.2.1.fr 1; have HE2 := Lib.hid E2.drop; clear E2 hb2)
        have E3 := (HE2.out.setY (Nat.le_refl _) ⟨by simp, by simp only [ne_eq]; omega, trivial⟩ rfl 0 (.int .i64 (x1 / 18446744073709551616))).setY (Nat.le_refl _) ⟨by simp, by simp only [ne_eq]; omega, trivial⟩ rfl 1 (.int .u64 (x1 % 18446744073709551616))
        have HE3 := Lib.hid E3
        clear E3
        go_roundw
        case rel => exact ⟨1, m1, by omega, by go_num, .inr (.inl ⟨rfl, rfl⟩), by rw [HST.out, if_pos (by omega)]; exact HE3.out⟩
        case measure => simp [intOf]
      · have hcm : ¬ 0 < cmpZ x1 x0 := cmpZ_npos2 hc
        have e0 : wr.cell? ⟨b, 2, none⟩ = some (.int .i64 (x1 / 18446744073709551616)) := HE.out.blks.2.2.1.at 2
        have e1 : wr.cell? ⟨b, 3, none⟩ = some (.int .u64 (x1 % 18446744073709551616)) := HE.out.blks.2.2.1.at 3
        have e2 : wr.cell? ⟨w.heap.size, 0, none⟩ = some (.int .i64 (x0 / 18446744073709551616)) := HE.out.blks.1.at 0
        have e3 : wr.cell? ⟨w.heap.size, 1, none⟩ = some (.int .u64 (x0 % 18446744073709551616)) := HE.out.blks.1.at 1
        have hl : w.heap.size < wr.heap.size := HE.out.blks.1.lt
        go_wp2_with (go_at_call 103; refine (CC.out _ x1 x0).mono ?_; rintro e w2 ⟨rfl, hb2⟩; have E2 := (HE.out.alloc #[.int .i64 (x1 / 18446744073709551616), .int .u64 (x1 % 18446744073709551616)] 112).below hb2; have e4 : w2.cell? ⟨wr.heap.size, 0, none⟩ = some (.int .i64 (x1 / 18446744073709551616)) := E2.blks.1.at 0; have e5 : w2.cell? ⟨wr.heap.size, 1, none⟩ = some (.int .u64 (x1 % 18446744073709551616)) := E2.blks.1.at 1; have e6 : w2.cell? ⟨w.heap.size, 0, none⟩ = some (.int .i64 (x0 / 18446744073709551616)) := E2.blks.2.1.at 0; have e7 : w2.cell? ⟨w.heap.size, 1, none⟩ = some (.int .u64 (x0 % 18446744073709551616)) := E2.blks.2.1.at 1; have g6 := E2.blks.2.1.fr 0; have g7 := E2.blks.2.1.fr 1; have HE2 := Lib.hid E2.drop; clear E2 hb2)
        go_roundw
        case rel => exact ⟨1, m1, by omega, by go_num, .inr (.inl ⟨rfl, rfl⟩), by rw [HST.out, if_neg (by omega)]; exact HE2.out⟩
        case measure => simp [intOf]
    · rw [hm] at HE
      clear hm m
      have HST : Hid (m2 = if m1 < x2 then x2 else m1) := Lib.hid HM2.out
      by_cases hc : m1 < x2
      · have hcm : 0 < cmpZ x2 m1 := cmp_pos' hc
        have e0 : wr.cell? ⟨b, 4, none⟩ = some (.int .i64 (x2 / 18446744073709551616)) := HE.out.blks.2.2.1.at 4
        have e1 : wr.cell? ⟨b, 5, none⟩ = some (.int .u64 (x2 % 18446744073709551616)) := HE.out.blks.2.2.1.at 5
        have e2 : wr.cell? ⟨w.heap.size, 0, none⟩ = some (.int .i64 (m1 / 18446744073709551616)) := HE.out.blks.1.at 0
        have e3 : wr.cell? ⟨w.heap.size, 1, none⟩ = some (.int .u64 (m1 % 18446744073709551616)) := HE.out.blks.1.at 1
        have hl : w.heap.size < wr.heap.size := HE.out.blks.1.lt
        go_wp2_with (go_at_call 103; refine (CC.out _ x2 m1).mono ?_; rintro e w2 ⟨rfl, hb2⟩; have E2 := (HE.out.alloc #[.int .i64 (x2 / 18446744073709551616), .int .u64 (x2 % 18446744073709551616)] 112).below hb2; have e4 : w2.cell? ⟨wr.heap.size, 0, none⟩ = some (.int .i64 (x2 / 18446744073709551616)) := E2.blks.1.at 0; have e5 : w2.cell? ⟨wr.heap.size, 1, none⟩ = some (.int .u64 (x2 % 18446744073709551616)) := E2.blks.1.at 1; have e6 : w2.cell? ⟨w.heap.size, 0, none⟩ = some (.int .i64 (m1 / 18446744073709551616)) := E2.blks.2.1.at 0; have e7 : w2.cell? ⟨w.heap.size, 1, none⟩ = some (.int .u64 (m1 % 18446744073709551616)) := E2.blks.2.1.at 1; have g6 := E2.blks.2.1.fr 0; have g7 := E2.blks.2.1.fr 1; have HE2 := Lib.hid E2.drop; clear E2 hb2)
        have E3 := (HE2.out.setY (Nat.le_refl _) ⟨by simp, by simp only [ne_eq]; omega, trivial⟩ rfl 0 (.int .i64 (x2 / 18446744073709551616))).setY (Nat.le_refl _) ⟨by simp, by simp only [ne_eq]; omega, trivial⟩ rfl 1 (.int .u64 (x2 % 18446744073709551616))
        have HE3 := Lib.hid E3
        clear E3
        go_roundw
        case rel => exact ⟨2, m2, by omega, by go_num, .inr (.inr (.inl ⟨rfl, rfl⟩)), by rw [HST.out, if_pos (by omega)]; exact HE3.out⟩
        case measure => simp [intOf]
      · have hcm : ¬ 0 < cmpZ x2 m1 := cmpZ_npos2 hc
        have e0 : wr.cell? ⟨b, 4, none⟩ = some (.int .i64 (x2 / 18446744073709551616)) := HE.out.blks.2.2.1.at 4
        have e1 : wr.cell? ⟨b, 5, none⟩ = some (.int .u64 (x2 % 18446744073709551616)) := HE.out.blks.2.2.1.at 5
        have e2 : wr.cell? ⟨w.heap.size, 0, none⟩ = some (.int .i64 (m1 / 18446744073709551616)) := HE.out.blks.1.at 0
        have e3 : wr.cell? ⟨w.heap.size, 1, none⟩ = some (.int .u64 (m1 % 18446744073709551616)) := HE.out.blks.1.at 1
        have hl : w.heap.size < wr.heap.size := HE.out.blks.1.lt
        go_wp2_with (go_at_call 103; refine (CC.out _ x2 m1).mono ?_; rintro e w2 ⟨rfl, hb2⟩; have E2 := (HE.out.alloc #[.int .i64 (x2 / 18446744073709551616), .int .u64 (x2 % 18446744073709551616)] 112).below hb2; have e4 : w2.cell? ⟨wr.heap.size, 0, none⟩ = some (.int .i64 (x2 / 18446744073709551616)) := E2.blks.1.at 0; have e5 : w2.cell? ⟨wr.heap.size, 1, none⟩ = some (.int .u64 (x2 % 18446744073709551616)) := E2.blks.1.at 1; have e6 : w2.cell? ⟨w.heap.size, 0, none⟩ = some (.int .i64 (m1 / 18446744073709551616)) := E2.blks.2.1.at 0; have e7 : w2.cell? ⟨w.heap.size, 1, none⟩ = some (.int .u64 (m1 % 18446744073709551616)) := E2.blks.2.1.at 1; have g6 := E2.blks.2.1.fr 0; have g7 := E2.blks.2.1.fr 1; have HE2 := Lib.hid E2.drop; clear E2 hb2)
        go_roundw
        case rel => exact ⟨2, m2, by omega, by go_num, .inr (.inr (.inl ⟨rfl, rfl⟩)), by rw [HST.out, if_neg (by omega)]; exact HE2.out⟩
        case measure => simp [intOf]
    · rw [hm] at HE
      clear hm m
      have HST : Hid (m3 = if m2 < x3 then x3 else m2) := Lib.hid HM3.out
      by_cases hc : m2 < x3
      · have hcm : 0 < cmpZ x3 m2 := cmp_pos' hc
        have e0 : wr.cell? ⟨b, 6, none⟩ = some (.int .i64 (x3 / 18446744073709551616)) := HE.out.blks.2.2.1.at 6
        have e1 : wr.cell? ⟨b, 7, none⟩ = some (.int .u64 (x3 % 18446744073709551616)) := HE.out.blks.2.2.1.at 7
        have e2 : wr.cell? ⟨w.heap.size, 0, none⟩ = some (.int .i64 (m2 / 18446744073709551616)) := HE.out.blks.1.at 0
        have e3 : wr.cell? ⟨w.heap.size, 1, none⟩ = some (.int .u64 (m2 % 18446744073709551616)) := HE.out.blks.1.at 1
        have hl : w.heap.size < wr.heap.size := HE.out.blks.1.lt
        go_wp2_with (go_at_call 103; refine (CC.out _ x3 m2).mono ?_; rintro e w2 ⟨rfl, hb2⟩; have E2 := (HE.out.alloc #[.int .i64 (x3 / 18446744073709551616), .int .u64 (x3 % 18446744073709551616)] 112).below hb2; have e4 : w2.cell? ⟨wr.heap.size, 0, none⟩ = some (.int .i64 (x3 / 18446744073709551616)) := E2.blks.1.at 0; have e5 : w2.cell? ⟨wr.heap.size, 1, none⟩ = some (.int .u64 (x3 % 18446744073709551616)) := E2.blks.1.at 1; have e6 : w2.cell? ⟨w.heap.size, 0, none⟩ = some (.int .i64 (m2 / 18446744073709551616)) := E2.blks.2.1.at 0; have e7 : w2.cell? ⟨w.heap.size, 1, none⟩ = some (.int .u64 (m2 % 18446744073709551616)) := E2.blks.2.1.at 1; have g6 := E2.blks.2.1.fr 0; have g7 := E2.blks.2.1.fr 1; have HE2 := Lib.hid E2.drop; clear E2 hb2)
        have E3 := (HE2.out.setY (Nat.le_refl _) ⟨by simp, by simp only [ne_eq]; omega, trivial⟩ rfl 0 (.int .i64 (x3 / 18446744073709551616))).setY (Nat.le_refl _) ⟨by simp, by simp only [ne_eq]; omega, trivial⟩ rfl 1 (.int .u64 (x3 % 18446744073709551616))
        have HE3 := Lib.hid E3
        clear E3
        go_roundw
        case rel => exact ⟨3, m3, by omega, by go_num, .inr (.inr (.inr ⟨rfl, rfl⟩)), by rw [HST.out, if_pos (by omega)]; exact HE3.out⟩
        case measure => simp [intOf]
      · have hcm : ¬ 0 < cmpZ x3 m2 := cmpZ_npos2 hc
        have e0 : wr.cell? ⟨b, 6, none⟩ = some (.int .i64 (x3 / 18446744073709551616)) := HE.out.blks.2.2.1.at 6
        have e1 : wr.cell? ⟨b, 7, none⟩ = some (.int .u64 (x3 % 18446744073709551616)) := HE.out.blks.2.2.1.at 7
        have e2 : wr.cell? ⟨w.heap.size, 0, none⟩ = some (.int .i64 (m2 / 18446744073709551616)) := HE.out.blks.1.at 0
        have e3 : wr.cell? ⟨w.heap.size, 1, none⟩ = some (.int .u64 (m2 % 18446744073709551616)) := HE.out.blks.1.at 1
        have hl : w.heap.size < wr.heap.size := HE.out.blks.1.lt
        go_wp2_with (go_at_call 103; refine (CC.out _ x3 m2).mono ?_; rintro e w2 ⟨rfl, hb2⟩; have E2 := (HE.out.alloc #[.int .i64 (x3 / 18446744073709551616), .int .u64 (x3 % 18446744073709551616)] 112).below hb2; have e4 : w2.cell? ⟨wr.heap.size, 0, none⟩ = some (.int .i64 (x3 / 18446744073709551616)) := E2.blks.1.at 0; have e5 : w2.cell? ⟨wr.heap.size, 1, none⟩ = some (.int .u64 (x3 % 18446744073709551616)) := E2.blks.1.at 1; have e6 : w2.cell? ⟨w.heap.size, 0, none⟩ = some (.int .i64 (m2 / 18446744073709551616)) := E2.blks.2.1.at 0; have e7 : w2.cell? ⟨w.heap.size, 1, none⟩ = some (.int .u64 (m2 % 18446744073709551616)) := E2.blks.2.1.at 1; have g6 := E2.blks.2.1.fr 0; have g7 := E2.blks.2.1.fr 1; have HE2 := Lib.hid E2.drop; clear E2 hb2)
        go_roundw
        case rel => exact ⟨3, m3, by omega, by go_num, .inr (.inr (.inr ⟨rfl, rfl⟩)), by rw [HST.out, if_neg (by omega)]; exact HE2.out⟩
        case measure => simp [intOf]
    · rw [hm] at HE
      clear hm m
      have e2 : wr.cell? ⟨w.heap.size, 0, none⟩ = some (.int .i64 (m3 / 18446744073709551616)) := HE.out.blks.1.at 0
      have e3 : wr.cell? ⟨w.heap.size, 1, none⟩ = some (.int .u64 (m3 % 18446744073709551616)) := HE.out.blks.1.at 1
      have f0 : wr.cell? ⟨w.heap.size + 1, 0, none⟩ = some (.int .i64 0) := HE.out.blks.2.1.at 0
      have f1 : wr.cell? ⟨w.heap.size + 1, 1, none⟩ = some (.int .u64 0) := HE.out.blks.2.1.at 1
      have g0 := HE.out.blks.2.1.fr 0
      have g1 := HE.out.blks.2.1.fr 1
      go_wp2
      have E3 := (HE.out.swap.setY (by omega) ⟨by simp, by simp only [ne_eq]; omega, trivial⟩ rfl 0 (.int .i64 (m3 / 18446744073709551616))).setY (by omega) ⟨by simp, by simp only [ne_eq]; omega, trivial⟩ rfl 1 (.int .u64 (m3 % 18446744073709551616))
      have r0 : _ = some (Value.int .i64 (m3 / 18446744073709551616)) := E3.blks.1.at 0
      have r1 : _ = some (Value.int .u64 (m3 % 18446744073709551616)) := E3.blks.1.at 1
      refine bodyPost_ret (v := .agg #[.int .i64 (m3 / 18446744073709551616), .int .u64 (m3 % 18446744073709551616)]) (by simp [results, Tryz.results68, go_sem, r0, r1]) rfl ?_
      exact ⟨rfl, E3.bel⟩

end Go.Proofs.YtilaheplclaokaaGreat

/-
A world that keeps every block but one; limbs laid over an own row by copy.
Walks of the functions of package wide that find one limb of a quotient: subtract, step.
Walks of math/bits: Len32, LeadingZeros32.
Walks of the function of package wide that divides limbs.
Walks of the functions of package wide that add: add, Add, Sub, Neg, Mul.
-/
import Derived.Laws.CopyOwn
import Derived.Laws.MathBits
import Derived.Lib.Tables
import Derived.Sort.AtCall
import Derived.Test.YtilaheplclaokaaGreatDoorTurn01
import Derived.Test.YtilaheplclaokaaGreatDoorTurn02
set_option linter.unusedVariables false
set_option linter.unusedSimpArgs false
namespace Go.Proofs.YtilaheplclaokaaGreatDoor
open Go.RowKit

/-- Every block that lay there, but one, lies there as it was. -/
structure But (b : Nat) (w w' : World) : Prop where
  os : w'.os = w.os
  tape : w'.tape = w.tape
  output : w'.output = w.output
  size : w.heap.size ≤ w'.heap.size
  block : ∀ k, k < w.heap.size → k ≠ b → w'.heap[k]? = w.heap[k]?
theorem But.refl (b : Nat) (w : World) : But b w w := ⟨rfl, rfl, rfl, Nat.le_refl _, fun _ _ _ => rfl⟩
theorem But.trans {b : Nat} {w w1 w2 : World} (h : But b w w1) (k : But b w1 w2) : But b w w2 :=
  ⟨k.os.trans h.os, k.tape.trans h.tape, k.output.trans h.output, Nat.le_trans h.size k.size, fun i h1 h2 => (k.block i (Nat.lt_of_lt_of_le h1 h.size) h2).trans (h.block i h1 h2)⟩
theorem But.of_below {b : Nat} {w w' : World} (h : Below w.heap.size w w') : But b w w' := ⟨h.os, h.tape, h.output, h.size, fun k hk _ => h.block k hk⟩
theorem But.drewN (b : Nat) (w : World) (n : Nat) : But b w (w.drewN n) := ⟨rfl, rfl, rfl, Nat.le_refl _, fun _ _ _ => rfl⟩
theorem But.setCell (b : Nat) (w : World) (i : Nat) (v : Value) : But b w (w.setCell ⟨b, i, none⟩ v) :=
  ⟨rfl, rfl, rfl, by simp [World.setCell], fun k _ h2 => Below.heap_setCell _ _ _ _ (by simpa using h2)⟩
theorem But.below {b B : Nat} {w0 w w' : World} (h : But b w w') (hB : Below B w0 w) (h1 : B ≤ w.heap.size) (h2 : B ≤ b) : Below B w0 w' :=
  hB.trans ⟨h.os, h.tape, h.output, h.size, fun k hk => h.block k (by omega) (by omega)⟩
theorem But.cell {b : Nat} {w w' : World} (h : But b w w') {p : Addr} (h1 : p.block < w.heap.size) (h2 : p.block ≠ b) : w'.cell? p = w.cell? p := World.cell?_of_block (w := w) (h.block p.block h1 h2)
theorem But.frozen {b : Nat} {w w' : World} (h : But b w w') {p : Addr} (h1 : p.block < w.heap.size) (h2 : p.block ≠ b) : w'.frozen? p = w.frozen? p := World.frozen?_of_block (w := w) (h.block p.block h1 h2)
theorem Buf.but {b : Nat} {w w' : World} {c n : Nat} {o : Nat → Int} (h : Buf w c n o) (k : But b w w') (hc : c ≠ b) : Buf w' c n o where
  lt := Nat.lt_of_lt_of_le h.lt k.size
  cell := fun i hi => (k.cell (p := ⟨c, i, none⟩) h.lt hc).trans (h.cell i hi)
  free := fun i hi => (k.frozen (p := ⟨c, i, none⟩) h.lt hc).trans (h.free i hi)

/-- A block of cells, known whole. -/
def Blk (W : World) (b : Nat) (cs : Array Value) (t : TypeId) : Prop := W.heap[b]? = some (.cells cs t (0, 0))
theorem Blk.lt {W : World} {b : Nat} {cs : Array Value} {t : TypeId} (h : Blk W b cs t) : b < W.heap.size := (Array.getElem?_eq_some_iff.1 h).1
theorem Blk.new (W : World) (cs : Array Value) (t : TypeId) : Blk (W.alloc (.cells cs t)) W.heap.size cs t := World.alloc_heap_new W _
theorem Blk.at {W : World} {b : Nat} {cs : Array Value} {t : TypeId} (h : Blk W b cs t) (i : Nat) : W.cell? ⟨b, i, none⟩ = cs[i]? := by simp [World.cell?, show W.heap[b]? = _ from h]
theorem Blk.c0 {W : World} {b : Nat} {u v : Value} {t : TypeId} (h : Blk W b #[u, v] t) : W.cell? ⟨b, 0, none⟩ = some u := h.at 0
theorem Blk.c1 {W : World} {b : Nat} {u v : Value} {t : TypeId} (h : Blk W b #[u, v] t) : W.cell? ⟨b, 1, none⟩ = some v := h.at 1
theorem Blk.fr {W : World} {b : Nat} {cs : Array Value} {t : TypeId} (h : Blk W b cs t) (i : Nat) : W.frozen? ⟨b, i, none⟩ = false := by simp [World.frozen?, show W.heap[b]? = _ from h]
theorem Blk.alloc {W : World} {b : Nat} {cs : Array Value} {t : TypeId} (h : Blk W b cs t) (o : Obj) : Blk (W.alloc o) b cs t := (World.grownBy_alloc W o none).block b h.lt (by simp) |>.trans h
theorem Blk.below {W W' : World} {b : Nat} {cs : Array Value} {t : TypeId} (h : Blk W b cs t) (hb : Below W.heap.size W W') : Blk W' b cs t := (hb.block b h.lt).trans h
theorem Blk.below' {W W' : World} {B b : Nat} {cs : Array Value} {t : TypeId} (h : Blk W b cs t) (hb : Below B W W') (h1 : b < B) : Blk W' b cs t := (hb.block b h1).trans h
theorem Blk.drewN {W : World} {b : Nat} {cs : Array Value} {t : TypeId} (h : Blk W b cs t) (n : Nat) : Blk (W.drewN n) b cs t := h
theorem Blk.far {W : World} {b : Nat} {cs : Array Value} {t : TypeId} (h : Blk W b cs t) (p : Addr) (v : Value) (hp : b ≠ p.block) : Blk (W.setCell p v) b cs t := (Below.heap_setCell _ _ _ _ hp).trans h
theorem Blk.set {W : World} {b : Nat} {cs : Array Value} {t : TypeId} (h : Blk W b cs t) (i : Nat) (v : Value) : Blk (W.setCell ⟨b, i, none⟩ v) b (cs.setIfInBounds i v) t := by
  rw [setCell_eq_setRow W b i cs t (0, 0) v h]
  exact setRow_heap W b cs _ t (0, 0) h

theorem Blk.set2 {W : World} {b : Nat} {u v : Value} {t : TypeId} (h : Blk W b #[u, v] t) (u' v' : Value) : Blk ((W.setCell ⟨b, 0, none⟩ u').setCell ⟨b, 1, none⟩ v') b #[u', v'] t := (h.set 0 u').set 1 v'
theorem Blk.far2 {W : World} {b : Nat} {cs : Array Value} {t : TypeId} (h : Blk W b cs t) (c : Nat) (u v : Value) (hc : b ≠ c) : Blk ((W.setCell ⟨c, 0, none⟩ u).setCell ⟨c, 1, none⟩ v) b cs t := (h.far ⟨c, 0, none⟩ u hc).far ⟨c, 1, none⟩ v hc
theorem below_set2 {B : Nat} {w0 w : World} (h : Below B w0 w) (b : Nat) (hb : B ≤ b) (u v : Value) : Below B w0 ((w.setCell ⟨b, 0, none⟩ u).setCell ⟨b, 1, none⟩ v) := (h.setCell (p := ⟨b, 0, none⟩) hb u).setCell (p := ⟨b, 1, none⟩) hb v
theorem At.set2 {w : World} {A : Option Addr} {g : Nat → Int} {n b : Nat} {c : Bool} {D : Option Addr} {k l : Nat} {t : TypeId} (h : At w A g n) (hb : Blk w b #[.bool c, .slice D k l] t) (u v : Value) : At ((w.setCell ⟨b, 0, none⟩ u).setCell ⟨b, 1, none⟩ v) A g n := fun h0 => by
  obtain ⟨b', off, rfl, hlt, hcell⟩ := h h0
  have hne : b' ≠ b := fun e => by
    subst e
    have h1 := hcell 0 h0
    rw [hb.at] at h1
    match off, h1 with
    | 0, h1 => simp at h1
    | 1, h1 => simp at h1
    | k + 2, h1 => simp at h1
  exact ⟨b', off, rfl, by simpa [World.setCell] using hlt, fun i hi => cell_far (cell_far (hcell i hi) hne) hne⟩
theorem WD.set2 {w : World} {neg : Bool} {A : Option Addr} {n cap : Nat} {x : Int} {b : Nat} {c : Bool} {D : Option Addr} {k l : Nat} {t : TypeId} (h : WD w neg A n cap x) (hb : Blk w b #[.bool c, .slice D k l] t) (u v : Value) : WD ((w.setCell ⟨b, 0, none⟩ u).setCell ⟨b, 1, none⟩ v) neg A n cap x := by
  obtain ⟨g, h1, h2, h3, h4, h5⟩ := h
  exact ⟨g, h1, h2, h3, h4.set2 hb u v, h5⟩

/-- Limbs laid over a row from place p on. -/
def pat (g : Nat → Int) (p : Nat) (x : Nat → Int) : Nat → Nat → Int
  | 0 => g
  | n + 1 => Num.upd (pat g p x n) (p + n) (x n)
theorem pat_in {g x : Nat → Int} {p : Nat} : ∀ {n i : Nat}, i < n → pat g p x n (p + i) = x i
  | 0, i, h => absurd h (by omega)
  | n + 1, i, h => by
    rcases Nat.eq_or_lt_of_le (Nat.le_of_lt_succ h) with rfl | h1
    · exact Num.upd_same _ _ _
    · exact (Num.upd_other (by omega)).trans (pat_in h1)
theorem pat_out {g x : Nat → Int} {p : Nat} : ∀ {n i : Nat}, i < p ∨ p + n ≤ i → pat g p x n i = g i
  | 0, i, h => rfl
  | n + 1, i, h => (Num.upd_other (by omega)).trans (pat_out (by omega))
theorem pat_dig {g x : Nat → Int} {p L : Nat} (hg : Num.Dig g L) : ∀ {n : Nat}, Num.Dig x n → Num.Dig (pat g p x n) L
  | 0, _ => hg
  | n + 1, hx => (pat_dig hg (hx.mono (Nat.le_succ n))).upd (hx n (by omega)).1 (hx n (by omega)).2

theorem storeCells_snoc (a : Addr) (v : Value) : ∀ (vs : List Value) (i : Nat), storeCells a (vs ++ [v]) i = (do storeCells a vs i; storeCells a [v] (i + vs.length))
  | [], i => by simp [storeCells]
  | u :: vs, i => by
    have := storeCells_snoc a v vs (i + 1)
    simp only [List.cons_append, storeCells, this, List.length_cons]
    simp only [bind_assoc, Nat.add_comm 1, Nat.add_assoc]

theorem run_storeCells_lims (P : Program) (b p L : Nat) (g x : Nat → Int) (w : World) (hb : Buf w b L g) : ∀ n : Nat, p + n ≤ L →
    ∃ w', (storeCells ⟨b, p, none⟩ (lims x n) 0).run P w = .ok () w' ∧ Buf w' b L (pat g p x n) ∧ But b w w'
  | 0, _ => ⟨w, rfl, hb, But.refl _ _⟩
  | n + 1, h => by
    obtain ⟨w1, h1, h2, h3⟩ := run_storeCells_lims P b p L g x w hb n (by omega)
    refine ⟨w1.setCell ⟨b, p + n, none⟩ (.int .u32 (x n)), ?_, h2.set _ (by omega), h3.trans (But.setCell _ _ _ _)⟩
    rw [← lims_snoc, storeCells_snoc]
    simp only [Sem.run_bind, h1, Result.andThen_ok]
    have hc := h2.cell (p + n) (by omega)
    have hf := h2.free (p + n) (by omega)
    have hadd : (⟨b, p, none⟩ : Addr).add (0 + (lims x n).length) = ⟨b, p + n, none⟩ := by simp [Addr.add, lims_length]
    have hst : (store ⟨b, p + n, none⟩ (.int .u32 (x n))).run P w1 = .ok () (w1.setCell ⟨b, p + n, none⟩ (.int .u32 (x n))) := by
      rw [run_store P w1 ⟨b, p + n, none⟩ (.int .u32 (x n)) _ rfl, hc]
      simp [hf]
    simp only [storeCells, Sem.run_bind, hadd, hst, Result.andThen_ok]
    rfl

theorem wpList_copy_lims {P : Program} {w : World} {ops : Array Oper} {rest : List Oper} {o : Oper} {a : Act} {Q : Exit → Act → World → Prop} (hgd : o.guard = none) (d s : Operand) (dT sT : TypeId)
    (ho : o.op = .call { callee := .builtin .copy, args := #[d, s], argTypes := #[dT, sT] }) (elem : TypeId) (hu : P.underlying dT = some (.slice elem)) (hsz : (P.info? elem).map (·.size) = some 1)
    (b p n dCap b' p' sCap L : Nat) (g x : Nat → Int) (hd : a.eval d = .slice (some ⟨b, p, none⟩) n dCap) (hs : a.eval s = .slice (some ⟨b', p', none⟩) n sCap)
    (hb : Buf w b L g) (hL : p + n ≤ L) (hsrc : ∀ i, i < n → w.cell? ⟨b', p' + i, none⟩ = some (.int .u32 (x i)))
    (h : ∀ w', Buf w' b L (pat g p x n) → But b w w' → wpList P ops Q rest (a.put o.dst (goInt n)) w') : wpList P ops Q (o :: rest) a w := by
  refine wpList_plain hgd fun K hK => ?_
  obtain ⟨w', h1, h2, h3⟩ := run_storeCells_lims P b p L g x w hb n hL
  have hl := run_loadCells_list (P := P) w ⟨b', p', none⟩ (lims x n) (fun j v hj => by
    have hj' : j < n := by
      rcases Nat.lt_or_ge j n with h | h
      · exact h
      · rw [List.getElem?_eq_none (by rw [lims_length]; exact h)] at hj
        cases hj
    rw [lims_get hj'] at hj
    cases hj
    have e : (⟨b', p', none⟩ : Addr).add j = ⟨b', p' + j, none⟩ := by unfold Addr.add; split <;> simp_all
    rw [e]
    exact hsrc j hj')
  rw [lims_length] at hl
  have hrun : (Builtin.copy_ #[dT, sT] o.type #[.slice (some ⟨b, p, none⟩) n dCap, .slice (some ⟨b', p', none⟩) n sCap]).run P w = .ok (goInt n) w' := by
    cases hq : P.info? elem with
    | none => simp [hq] at hsz
    | some i =>
      have hi : i.size = 1 := by simpa [hq] using hsz
      simp [Builtin.copy_, run_underlying hu, Builtin.lenOf, Builtin.firstCells, sizeOf, typeInfo, hq, hi, hl, h1]
  unfold Oper.wp
  simp [execOp, ho, resolve, invoke, builtin, hd, hs, hrun, Result.andThen]
  exact hK _ _ (h w' h2 h3)

/-- A quiet callee, met behind draws of which the region's world holds some already. -/
theorem quiet_add2 {P : Program} {f : FuncId} {args : Array Value} {w : World} {v : Value} (b a : Nat) (h : Calls P f args (w.drewN (b + a)) fun e w' => e = .returned v ∧ ∃ m, w' = (w.drewN (b + a)).drewN m) :
    Calls P f args (w.drewN (b + a)) fun e w'' => e = .returned v ∧ ∃ m, w'' = w.drewN (b + m) :=
  h.mono fun _ _ ⟨he, m, hm⟩ => ⟨he, a + m, by rw [hm, World.drewN_drewN]; congr 1; omega⟩

end Go.Proofs.YtilaheplclaokaaGreatDoor
namespace Go.Proofs.YtilaheplclaokaaGreatDoor
open Go.RowKit Go.Shelf Go.BigFrame

/-- A multiple taken away from the call's own row. -/
def TakePost (b n : Nat) (x y : Int) (w : World) (e : Ending) (w' : World) : Prop :=
  ∃ o, e = .returned (.bool (decide (y ≤ x))) ∧ Buf w' b n o ∧ Num.Dig o n ∧ (y ≤ x → Num.val o n = x - y) ∧ Below b w w'

set_option maxRecDepth 10000 in
set_option maxHeartbeats 1000000 in
theorem subtract_calls (w : World) (b bv off n cap cap' : Nat) (g h : Nat → Int) (q : Int) (hn : n ≤ 549755813888) (hdg : Num.Dig g (n + 1)) (hdh : Num.Dig h n) (hq0 : 0 ≤ q) (hq1 : q < 4294967296) (hb : Buf w b (n + 1) g) (hbv : bv < b) (hv : ∀ i, i < n → w.cell? ⟨bv, off + i, none⟩ = some (.int .u32 (h i))) :
    Calls Tryz.prog 196 #[.slice (some ⟨b, 0, none⟩) (n + 1) cap, .slice (some ⟨bv, off, none⟩) n cap', .int .u32 q] w (TakePost b (n + 1) (Num.val g (n + 1)) (q * Num.val h n) w) := by
  have HV := Lib.hid hv
  have HG := Lib.hid hdg
  have HH := Lib.hid hdh
  have HB := Lib.hid hb
  clear hv hdg hdh hb
  go_enter Tryz.func196, Tryz.ntmps196
  go_wp2
  go_loopw [7, 8, 14] (fun c r i wr => ∃ (k : Nat) (o : Nat → Int) (y s : Int), k ≤ n ∧ c = .int .u64 y ∧ r = .int .u32 s ∧ 0 ≤ y ∧ y < 4294967296 ∧ 0 ≤ s ∧ s ≤ 1 ∧ i = .int .i64 k ∧ Buf wr b (n + 1) o ∧ Below b w wr ∧ Num.Dig o (n + 1) ∧ (∀ j, k ≤ j → o j = g j) ∧ Num.val o k - (y + s) * Num.P k = Num.val g k - q * Num.val h k) (fun _ _ i _ => n - (intOf i).toNat)
  case atStart => exact ⟨0, g, 0, 0, Nat.zero_le _, rfl, rfl, Int.le_refl _, by omega, Int.le_refl _, by omega, rfl, HB.out, Below.refl _ _, HG.out, fun _ _ => rfl, by simp [Num.val]⟩
  case round =>
    obtain ⟨k, o, y, s, hk, rfl, rfl, hy0, hy1, hs0, hs1, rfl, hbuf, hbel, hdo, hrest, hval⟩ := hrel
    have HD := Lib.hid hdo
    have HR := Lib.hid hrest
    have HVal := Lib.hid hval
    clear hdo hrest hval
    by_cases hlt : k < n
    · have hx : wr.cell? ⟨bv, off + k, none⟩ = some (.int .u32 (h k)) := (hbel.cell (p := ⟨bv, off + k, none⟩) hbv).trans (HV.out k hlt)
      have hhk := HH.out k hlt
      have hgk := HG.out k (by omega)
      have hc := hbuf.cell k (by omega)
      rw [HR.out k (Nat.le_refl k)] at hc
      have hf := hbuf.free k (by omega)
      have hcar := Num.take_carry hq0 hq1 hhk.1 hhk.2 hy0 hy1
      have hbr := Num.bor_range (g k) ((y + q * h k) % 4294967296) s
      obtain ⟨hc0, hc1, hc2, hc3, hc4, hc5⟩ := hcar
      go_wp2_with (go_at_call 153; refine (sub32_calls _ _ _ hgk.1 hgk.2 hc4 hc5 hs0 hs1 _).mono ?_; rintro e w' ⟨rfl, rfl⟩)
      go_roundw
      case rel => exact ⟨k + 1, _, _, _, by omega, rfl, rfl, hc2, hc3, hbr.1, hbr.2, by go_num, hbuf.set _ (by omega), hbel.setCell (p := ⟨b, k, none⟩) (Nat.le_refl _) _, HD.out.upd (by omega) (by omega), fun j hj => by rw [Num.upd_other (by omega)]; exact HR.out j (by omega), Num.take_step hgk.1 hgk.2 hs0 hs1 HVal.out⟩
      case measure => simp [intOf]; omega
    · obtain rfl : k = n := by omega
      have hgk := HG.out k (by omega)
      have hc := hbuf.cell k (by omega)
      rw [HR.out k (Nat.le_refl k)] at hc
      have hf := hbuf.free k (by omega)
      have hbr := Num.bor_range (g k) y s
      go_wp2_with (go_at_call 153; refine (sub32_calls _ _ _ hgk.1 hgk.2 hy0 hy1 hs0 hs1 _).mono ?_; rintro e w' ⟨rfl, rfl⟩)
      go_ret
      have hd' : Num.Dig (Num.upd o k ((g k - y - s) % 4294967296)) (k + 1) := HD.out.upd (by omega) (by omega)
      have he := Num.take_end hd' hbr.1 hbr.2 (Num.take_last hgk.1 hgk.2 hs0 hs1 hy0 hy1 HVal.out) (Num.val_lt HG.out) (Int.mul_nonneg hq0 (Num.val_nonneg HH.out))
      exact ⟨_, by rw [← he.1]; rfl, hbuf.set _ (by omega), hd', he.2, hbel.setCell (p := ⟨b, k, none⟩) (Nat.le_refl _) _⟩

/-- One limb of a quotient is found; the rest lies in the row. -/
def StepPost (b L j n : Nat) (g : Nat → Int) (q r : Int) (w : World) (e : Ending) (w' : World) : Prop :=
  ∃ o, e = .returned (.int .u32 q) ∧ Buf w' b L o ∧ Num.Dig o L ∧ (∀ i, i < j ∨ j + n ≤ i → o i = g i) ∧ Num.val (Num.from_ o j) n = r ∧ But b w w'

set_option maxRecDepth 10000 in
set_option maxHeartbeats 1000000 in
theorem step_calls (w : World) (b L j bv off m cap cap' : Nat) (g h : Nat → Int) (hm : m ≤ 1099511627) (hdg : Num.Dig g L) (hL : j + (m + 1 + 1) ≤ L) (hc : m + 1 + 1 ≤ cap) (hdh : Num.Dig h (m + 1)) (hb : Buf w b L g) (hbv : bv ≠ b) (hbv' : bv < w.heap.size) (hv : ∀ i, i < m + 1 → w.cell? ⟨bv, off + i, none⟩ = some (.int .u32 (h i)))
    (h0 : h m ≠ 0) (hlt : Num.val (Num.from_ g j) (m + 1 + 1) < Num.val h (m + 1) * 4294967296) :
    Calls Tryz.prog 150 #[.slice (some ⟨b, j, none⟩) (m + 1 + 1) cap, .slice (some ⟨bv, off, none⟩) (m + 1) cap'] w (StepPost b L j (m + 1 + 1) g (Num.val (Num.from_ g j) (m + 1 + 1) / Num.val h (m + 1)) (Num.val (Num.from_ g j) (m + 1 + 1) % Num.val h (m + 1)) w) := by
  have hu1 := hb.cell (j + (m + 1)) (by omega)
  have hu0 := hb.cell (j + m) (by omega)
  have hv0 := hv m (by omega)
  have g1 := hdg (j + (m + 1)) (by omega)
  have g0 := hdg (j + m) (by omega)
  have hh := hdh m (by omega)
  have hDF : Num.Dig (Num.from_ g j) (m + 1 + 1) := fun i hi => hdg (j + i) (by omega)
  obtain ⟨hV0, hq0, hq1, hql, hqg⟩ := Num.digit hDF hdh h0 hlt
  obtain ⟨x1, hx1⟩ : ∃ x, x = g (j + (m + 1)) := ⟨_, rfl⟩
  obtain ⟨x0, hx0⟩ : ∃ x, x = g (j + m) := ⟨_, rfl⟩
  obtain ⟨y, hy⟩ : ∃ x, x = h m := ⟨_, rfl⟩
  simp only [Num.from_] at hqg
  rw [← hx1] at hu1 g1 hqg
  rw [← hx0] at hu0 g0 hqg
  rw [← hy] at hv0 hh hqg
  obtain ⟨q, hq⟩ : ∃ q, q = Num.val (Num.from_ g j) (m + 1 + 1) / Num.val h (m + 1) := ⟨_, rfl⟩
  rw [← hq] at hq0 hq1 hql hqg ⊢
  have HQ := Lib.hid hq
  have HQL := Lib.hid hql
  have HB := Lib.hid hb
  have HD := Lib.hid hdg
  have HH := Lib.hid hdh
  have HV := Lib.hid hv
  have HDF := Lib.hid hDF
  have HV0 := Lib.hid hV0
  have HX0 := Lib.hid hx0
  have HX1 := Lib.hid hx1
  have HY := Lib.hid hy
  clear hq hql hb hdg hdh hv hDF hV0 hx0 hx1 hy hlt h0
  have hrun : (Tryz.prog.info? 175).map (·.size) = some 1 := by
    obtain ⟨i0, hi, hz0, hz1, hz2⟩ := info_parts Tryz.infoU32
    rw [hi]; exact congrArg some hz1
  have HRun := Lib.hid hrun
  clear hrun
  by_cases hx : x1 < y
  · have hG := hqg hx
    have hG1 : (x1 * 4294967296 + x0) / y < 4294967296 := Int.ediv_lt_of_lt_mul (by omega) (by omega)
    clear hqg
    go_enter Tryz.func150, Tryz.ntmps150
    go_wp2
    go_quiet (fail)
    go_wp2
    go_quiet ((go_at_call 194; exact quiet_add2 _ _ (div32_calls x1 x0 y g1.1 g1.2 g0.1 g0.2 hx hh.2 _)))
    go_wp2
    obtain ⟨G, hGe⟩ : ∃ G, G = (x1 * 4294967296 + x0) / y := ⟨_, rfl⟩
    rw [← hGe] at hG hG1
    simp only [← hGe]
    go_loopw [6] (fun s wr => ∃ z : Int, s = .int .u32 z ∧ q ≤ z ∧ z < 4294967296 ∧ Below w.heap.size w wr) (fun s _ => (intOf s - q).toNat)
    case atStart => exact ⟨G, rfl, hG, hG1, by first | exact below_drewN (Below.refl _ _) _ | exact below_drewN (below_drewN (Below.refl _ _) _) _⟩
    case round =>
      clear hG hG1 hGe
      obtain ⟨z, rfl, hz0, hz1, hbel⟩ := hrel
      have hB := hbel.size
      have HBel := Lib.hid hbel
      have HBl := Lib.hid HB.out.lt
      have HAt : Hid (At wr (some ⟨b, j, none⟩) (Num.from_ g j) (m + 1 + 1)) := Lib.hid fun _ => ⟨b, j, rfl, Nat.lt_of_lt_of_le HBl.out hB, fun i hi => (hbel.cell (p := ⟨b, j + i, none⟩) HBl.out).trans (HB.out.cell (j + i) (by omega))⟩
      clear hbel
      by_cases hzq : z = q
      · obtain rfl := hzq
        have hok : z * Num.val h (m + 1) ≤ Num.val (Num.from_ g j) (m + 1 + 1) := (HQL.out z).2 (Int.le_refl _)
        have HOk := Lib.hid hok
        clear hok
        go_wp2_with (first
          | (go_at_call 146; refine (clone_calls _ (some ⟨b, j, none⟩) (m + 1 + 1) cap (Num.from_ g j) (by omega) HAt.out).mono ?_; rintro e w1 ⟨A', capr, rfl, hcr, hnew, hb1⟩; obtain ⟨br, rfl, hbr, hbufr⟩ := hnew (by omega); have HBr := Lib.hid hbufr; have HB1 := Lib.hid hb1; clear hnew hbufr hb1)
          | (go_at_call 196; refine (subtract_calls _ br bv off (m + 1) capr cap' (Num.from_ g j) h z (by omega) HDF.out HH.out hq0 hz1 HBr.out (by omega) (fun i hi => (HB1.out.cell (p := ⟨bv, off + i, none⟩) (by show bv < _; omega)).trans ((HBel.out.cell (p := ⟨bv, off + i, none⟩) hbv').trans (HV.out i hi)))).mono ?_; rintro e w2 ⟨o, he, hbo, hdo, hvo, hbl⟩; rw [decide_eq_true HOk.out] at he; subst he
             have hbl2 : Below w.heap.size w w2 := (HBel.out.trans (HB1.out.mono hB)).trans (hbl.mono (by omega))
             have HBo := Lib.hid hbo; have HDo := Lib.hid hdo; have HVo := Lib.hid (hvo HOk.out); have HBl2 := Lib.hid hbl2; clear hbo hdo hvo hbl hbl2)
          | (refine wpList_copy_lims rfl _ _ 90 90 rfl 175 Tryz.underlying90 HRun.out b j (m + 1 + 1) cap br 0 capr L g o rfl rfl (HB.out.below HBl2.out) hL (fun i hi => by rw [Nat.zero_add]; exact HBo.out.cell i hi) ?_; intro w3 hb3 hbut3; have HB3 := Lib.hid hb3; have HBut := Lib.hid hbut3; clear hb3 hbut3))
        go_ret
        refine ⟨pat g j o (m + 1 + 1), rfl, HB3.out, pat_dig HD.out HDo.out, fun i hi => pat_out hi, ?_, (But.of_below HBl2.out).trans HBut.out⟩
        have hpat : Num.val (Num.from_ (pat g j o (m + 1 + 1)) j) (m + 1 + 1) = Num.val o (m + 1 + 1) := Num.val_congr fun i hi => pat_in hi
        rw [hpat, HVo.out, Int.emod_def, ← HQ.out, Int.mul_comm]
      · have hok : ¬ z * Num.val h (m + 1) ≤ Num.val (Num.from_ g j) (m + 1 + 1) := fun h => by have := (HQL.out z).1 h; omega
        have HOk := Lib.hid hok
        clear hok
        go_wp2_with (first
          | (go_at_call 146; refine (clone_calls _ (some ⟨b, j, none⟩) (m + 1 + 1) cap (Num.from_ g j) (by omega) HAt.out).mono ?_; rintro e w1 ⟨A', capr, rfl, hcr, hnew, hb1⟩; obtain ⟨br, rfl, hbr, hbufr⟩ := hnew (by omega); have HBr := Lib.hid hbufr; have HB1 := Lib.hid hb1; clear hnew hbufr hb1)
          | (go_at_call 196; refine (subtract_calls _ br bv off (m + 1) capr cap' (Num.from_ g j) h z (by omega) HDF.out HH.out (by omega) hz1 HBr.out (by omega) (fun i hi => (HB1.out.cell (p := ⟨bv, off + i, none⟩) (by show bv < _; omega)).trans ((HBel.out.cell (p := ⟨bv, off + i, none⟩) hbv').trans (HV.out i hi)))).mono ?_; rintro e w2 ⟨o, he, hbo, hdo, hvo, hbl⟩; rw [decide_eq_false (Int.not_le.2 HOk.out)] at he; subst he
             have hbl2 : Below w.heap.size w w2 := (HBel.out.trans (HB1.out.mono hB)).trans (hbl.mono (by omega))
             have HBl2 := Lib.hid hbl2; clear hbo hdo hvo hbl hbl2))
        go_roundw
        case rel => exact ⟨z - 1, by go_num, by omega, by omega, HBl2.out⟩
        case measure => simp [intOf]; omega
  · go_enter Tryz.func150, Tryz.ntmps150
    clear hqg
    go_wp2
    go_quiet (fail)
    go_wp2
    obtain ⟨G, hGe⟩ : ∃ G : Int, G = 4294967295 := ⟨_, rfl⟩
    have hG : q ≤ G := by omega
    have hG1 : G < 4294967296 := by omega
    simp only [← hGe]
    go_loopw [6] (fun s wr => ∃ z : Int, s = .int .u32 z ∧ q ≤ z ∧ z < 4294967296 ∧ Below w.heap.size w wr) (fun s _ => (intOf s - q).toNat)
    case atStart => exact ⟨G, rfl, hG, hG1, by first | exact below_drewN (Below.refl _ _) _ | exact below_drewN (below_drewN (Below.refl _ _) _) _⟩
    case round =>
      clear hG hG1 hGe
      obtain ⟨z, rfl, hz0, hz1, hbel⟩ := hrel
      have hB := hbel.size
      have HBel := Lib.hid hbel
      have HBl := Lib.hid HB.out.lt
      have HAt : Hid (At wr (some ⟨b, j, none⟩) (Num.from_ g j) (m + 1 + 1)) := Lib.hid fun _ => ⟨b, j, rfl, Nat.lt_of_lt_of_le HBl.out hB, fun i hi => (hbel.cell (p := ⟨b, j + i, none⟩) HBl.out).trans (HB.out.cell (j + i) (by omega))⟩
      clear hbel
      by_cases hzq : z = q
      · obtain rfl := hzq
        have hok : z * Num.val h (m + 1) ≤ Num.val (Num.from_ g j) (m + 1 + 1) := (HQL.out z).2 (Int.le_refl _)
        have HOk := Lib.hid hok
        clear hok
        go_wp2_with (first
          | (go_at_call 146; refine (clone_calls _ (some ⟨b, j, none⟩) (m + 1 + 1) cap (Num.from_ g j) (by omega) HAt.out).mono ?_; rintro e w1 ⟨A', capr, rfl, hcr, hnew, hb1⟩; obtain ⟨br, rfl, hbr, hbufr⟩ := hnew (by omega); have HBr := Lib.hid hbufr; have HB1 := Lib.hid hb1; clear hnew hbufr hb1)
          | (go_at_call 196; refine (subtract_calls _ br bv off (m + 1) capr cap' (Num.from_ g j) h z (by omega) HDF.out HH.out hq0 hz1 HBr.out (by omega) (fun i hi => (HB1.out.cell (p := ⟨bv, off + i, none⟩) (by show bv < _; omega)).trans ((HBel.out.cell (p := ⟨bv, off + i, none⟩) hbv').trans (HV.out i hi)))).mono ?_; rintro e w2 ⟨o, he, hbo, hdo, hvo, hbl⟩; rw [decide_eq_true HOk.out] at he; subst he
             have hbl2 : Below w.heap.size w w2 := (HBel.out.trans (HB1.out.mono hB)).trans (hbl.mono (by omega))
             have HBo := Lib.hid hbo; have HDo := Lib.hid hdo; have HVo := Lib.hid (hvo HOk.out); have HBl2 := Lib.hid hbl2; clear hbo hdo hvo hbl hbl2)
          | (refine wpList_copy_lims rfl _ _ 90 90 rfl 175 Tryz.underlying90 HRun.out b j (m + 1 + 1) cap br 0 capr L g o rfl rfl (HB.out.below HBl2.out) hL (fun i hi => by rw [Nat.zero_add]; exact HBo.out.cell i hi) ?_; intro w3 hb3 hbut3; have HB3 := Lib.hid hb3; have HBut := Lib.hid hbut3; clear hb3 hbut3))
        go_ret
        refine ⟨pat g j o (m + 1 + 1), rfl, HB3.out, pat_dig HD.out HDo.out, fun i hi => pat_out hi, ?_, (But.of_below HBl2.out).trans HBut.out⟩
        have hpat : Num.val (Num.from_ (pat g j o (m + 1 + 1)) j) (m + 1 + 1) = Num.val o (m + 1 + 1) := Num.val_congr fun i hi => pat_in hi
        rw [hpat, HVo.out, Int.emod_def, ← HQ.out, Int.mul_comm]
      · have hok : ¬ z * Num.val h (m + 1) ≤ Num.val (Num.from_ g j) (m + 1 + 1) := fun h => by have := (HQL.out z).1 h; omega
        have HOk := Lib.hid hok
        clear hok
        go_wp2_with (first
          | (go_at_call 146; refine (clone_calls _ (some ⟨b, j, none⟩) (m + 1 + 1) cap (Num.from_ g j) (by omega) HAt.out).mono ?_; rintro e w1 ⟨A', capr, rfl, hcr, hnew, hb1⟩; obtain ⟨br, rfl, hbr, hbufr⟩ := hnew (by omega); have HBr := Lib.hid hbufr; have HB1 := Lib.hid hb1; clear hnew hbufr hb1)
          | (go_at_call 196; refine (subtract_calls _ br bv off (m + 1) capr cap' (Num.from_ g j) h z (by omega) HDF.out HH.out (by omega) hz1 HBr.out (by omega) (fun i hi => (HB1.out.cell (p := ⟨bv, off + i, none⟩) (by show bv < _; omega)).trans ((HBel.out.cell (p := ⟨bv, off + i, none⟩) hbv').trans (HV.out i hi)))).mono ?_; rintro e w2 ⟨o, he, hbo, hdo, hvo, hbl⟩; rw [decide_eq_false (Int.not_le.2 HOk.out)] at he; subst he
             have hbl2 : Below w.heap.size w w2 := (HBel.out.trans (HB1.out.mono hB)).trans (hbl.mono (by omega))
             have HBl2 := Lib.hid hbl2; clear hbo hdo hvo hbl hbl2))
        go_roundw
        case rel => exact ⟨z - 1, by go_num, by omega, by omega, HBl2.out⟩
        case measure => simp [intOf]; omega

end Go.Proofs.YtilaheplclaokaaGreatDoor
namespace Go.Proofs.YtilaheplclaokaaGreatDoor
open Go.RowKit

set_option maxRecDepth 100000 in
theorem len8_all : ∀ j : Fin 256, 0 ≤ Lib.len8 ((j : Nat) : Int) ∧ Lib.len8 ((j : Nat) : Int) ≤ 8 ∧ ((j : Nat) : Int) < 2 ^ (Lib.len8 ((j : Nat) : Int)).toNat ∧ (0 < (j : Nat) → 1 ≤ Lib.len8 ((j : Nat) : Int) ∧ (2 : Int) ^ ((Lib.len8 ((j : Nat) : Int)).toNat - 1) ≤ ((j : Nat) : Int)) := by decide +kernel

theorem len8_nat (x : Int) (h0 : 0 ≤ x) (h1 : x < 256) : ∃ s : Nat, Lib.len8 x = s ∧ s ≤ 8 ∧ x < 2 ^ s ∧ (0 < x → 1 ≤ s ∧ (2 : Int) ^ (s - 1) ≤ x) := by
  obtain ⟨j, rfl⟩ := Int.eq_ofNat_of_zero_le h0
  obtain ⟨a, b, c, d⟩ := len8_all ⟨j, by omega⟩
  dsimp only at a b c d
  obtain ⟨s, hs⟩ := Int.eq_ofNat_of_zero_le a
  rw [hs] at b c d
  simp only [Int.toNat_natCast] at c d
  exact ⟨s, hs, by omega, c, fun h => by have := d (by omega); exact ⟨by omega, this.2⟩⟩

/-- The number of a value's bits. -/
def LenPost (x : Int) (w : World) (e : Ending) (w' : World) : Prop := ∃ s : Nat, e = .returned (.int .i64 s) ∧ s ≤ 32 ∧ x < 2 ^ s ∧ (0 < x → 1 ≤ s ∧ (2 : Int) ^ (s - 1) ≤ x) ∧ w = w'

theorem len_up (x y : Int) (k s : Nat) (hy : y = x / 2 ^ k) (h0 : 0 < y) (hs : y < 2 ^ s ∧ (0 < y → 1 ≤ s ∧ (2 : Int) ^ (s - 1) ≤ y)) : x < 2 ^ (k + s) ∧ (0 < x → 1 ≤ k + s ∧ (2 : Int) ^ (k + s - 1) ≤ x) := by
  obtain ⟨h1, h2⟩ := hs
  obtain ⟨h3, h4⟩ := h2 h0
  have hp : (0 : Int) < 2 ^ k := Int.pow_pos (by omega)
  subst hy
  refine ⟨?_, fun _ => ⟨by omega, ?_⟩⟩
  · rw [Nat.add_comm, Int.pow_add]
    have := Int.lt_mul_of_ediv_lt hp h1
    exact this
  · rw [show k + s - 1 = (s - 1) + k by omega, Int.pow_add]
    exact (Int.le_ediv_iff_mul_le hp).1 h4

theorem len8_get (y : Int) (h : y.toNat < Lib.len8tab.size) : ((Lib.len8tab[y.toNat]'h).toNat : Int) = Lib.len8 y := by
  unfold Lib.len8
  rw [getElem?_pos Lib.len8tab y.toNat h]
  rfl
theorem len8_size : (Lib.len8tab.size : Int) = 256 := by rw [Lib.len8tab_size]; rfl

theorem wrap_len (k : Nat) (s : Nat) (y : Int) (hk : k ≤ 24) (hs : s ≤ 8) (h : y = s) : Value.int .i64 (wrap64 ((k : Int) + wrap64 y)) = .int .i64 ((k + s : Nat) : Int) := by
  subst h
  congr 1
  unfold wrap64
  omega
theorem wrap_len0 (s : Nat) (y : Int) (hs : s ≤ 8) (h : y = s) : Value.int .i64 (wrap64 (wrap64 y)) = .int .i64 ((0 + s : Nat) : Int) := by
  subst h
  congr 1
  unfold wrap64
  omega

set_option maxRecDepth 100000 in
set_option maxHeartbeats 1000000 in
theorem len32_calls (x : Int) (h0 : 0 ≤ x) (h1 : x < 4294967296) (w : World) : Calls Tryz.prog 195 #[.int .u32 x] w (LenPost x w) := by
  have hz := len8_size
  by_cases hA : 65536 ≤ x
  · by_cases hB : 256 ≤ x / 65536
    · obtain ⟨s, hs, hs1, hs2⟩ := len8_nat (x / 65536 / 256) (by omega) (by omega)
      have HS := Lib.hid hs2
      clear hs2
      go_enter Tryz.func195, Tryz.ntmps195
      go_wp2
      go_ret
      have hu := len_up x (x / 65536 / 256) 24 s (by omega) (by omega) HS.out
      exact ⟨24 + s, congrArg Ending.returned (wrap_len 24 s _ (by omega) hs1 ((len8_get _ _).trans hs)), by omega, hu.1, hu.2, rfl⟩
    · obtain ⟨s, hs, hs1, hs2⟩ := len8_nat (x / 65536) (by omega) (by omega)
      have HS := Lib.hid hs2
      clear hs2
      go_enter Tryz.func195, Tryz.ntmps195
      go_wp2
      go_ret
      have hu := len_up x (x / 65536) 16 s (by omega) (by omega) HS.out
      exact ⟨16 + s, congrArg Ending.returned (wrap_len 16 s _ (by omega) hs1 ((len8_get _ _).trans hs)), by omega, hu.1, hu.2, rfl⟩
  · by_cases hB : 256 ≤ x
    · obtain ⟨s, hs, hs1, hs2⟩ := len8_nat (x / 256) (by omega) (by omega)
      have HS := Lib.hid hs2
      clear hs2
      go_enter Tryz.func195, Tryz.ntmps195
      go_wp2
      go_ret
      have hu := len_up x (x / 256) 8 s (by omega) (by omega) HS.out
      exact ⟨8 + s, congrArg Ending.returned (wrap_len 8 s _ (by omega) hs1 ((len8_get _ _).trans hs)), by omega, hu.1, hu.2, rfl⟩
    · obtain ⟨s, hs, hs1, hs2⟩ := len8_nat x (by omega) (by omega)
      have HS := Lib.hid hs2
      clear hs2
      go_enter Tryz.func195, Tryz.ntmps195
      go_wp2
      go_ret
      exact ⟨0 + s, congrArg Ending.returned (wrap_len0 s _ hs1 ((len8_get _ _).trans hs)), by omega, by rw [Nat.zero_add]; exact HS.out.1, by rw [Nat.zero_add]; exact HS.out.2, rfl⟩

/-- The number of zeros ahead. -/
def ZerosPost (x : Int) (w : World) (e : Ending) (w' : World) : Prop := ∃ s : Nat, e = .returned (.int .i64 s) ∧ s < 32 ∧ (x + 1) * 2 ^ s ≤ 4294967296 ∧ w = w'

theorem zeros_up (x : Int) (s : Nat) (hs : s ≤ 32) (h1 : x < 2 ^ s) : (x + 1) * 2 ^ (32 - s) ≤ 4294967296 := by
  have hp : (0 : Int) < 2 ^ (32 - s) := Int.pow_pos (by omega)
  have h2 : (x + 1) * 2 ^ (32 - s) ≤ 2 ^ s * 2 ^ (32 - s) := Int.mul_le_mul_of_nonneg_right (by omega) (by omega)
  rw [← Int.pow_add, show s + (32 - s) = 32 by omega] at h2
  exact h2

set_option maxHeartbeats 400000 in
theorem zeros32_calls (x : Int) (h0 : 0 < x) (h1 : x < 4294967296) (w : World) : Calls Tryz.prog 148 #[.int .u32 x] w (ZerosPost x w) := by
  go_enter Tryz.func148, Tryz.ntmps148
  go_wp2_with (go_at_call 195; refine (len32_calls x (by omega) h1 _).mono ?_; rintro e w' ⟨s, rfl, hs, hx1, hx2, rfl⟩; have HX1 := Lib.hid hx1; have hs1 := (hx2 h0).1; clear hx1 hx2)
  go_ret
  exact ⟨32 - s, by rw [show ((32 - s : Nat) : Int) = 32 - (s : Int) by omega]; rfl, by omega, zeros_up x s hs HX1.out, rfl⟩

end Go.Proofs.YtilaheplclaokaaGreatDoor
namespace Go.Proofs.YtilaheplclaokaaGreatDoor
open Go.RowKit Go.Shelf
attribute [local go_sem] Oper.semAt_some

/-- A slice of limbs that is a number without zeros at its end. -/
structure Row (w : World) (A : Option Addr) (n cap : Nat) (x : Int) : Prop where
  ex : ∃ g : Nat → Int, At w A g n ∧ Num.Dig g n ∧ Num.Trim g n ∧ Num.val g n = x
  cap : n ≤ cap
  len : n ≤ 1099511627776

theorem Row.below {w w' : World} {A : Option Addr} {n cap : Nat} {x : Int} (h : Row w A n cap x) (hb : Below w.heap.size w w') : Row w' A n cap x := by
  obtain ⟨g, h1, h2⟩ := h.ex
  exact ⟨⟨g, h1.below hb, h2⟩, h.cap, h.len⟩
theorem New.below {w w1 w2 : World} {A : Option Addr} {g : Nat → Int} {n : Nat} (h : New w w1 A g n) (hb : Below w1.heap.size w1 w2) : New w w2 A g n := fun h0 => by
  obtain ⟨b, rfl, h1, h2⟩ := h h0
  exact ⟨b, rfl, h1, h2.below hb⟩

/-- Quotient and remainder. -/
def DivPost (x y : Int) (w : World) (e : Ending) (w' : World) : Prop :=
  ∃ A n cap A' n' cap', e = .returned (.tuple #[.slice A n cap, .slice A' n' cap']) ∧ Row w' A n cap (x / y) ∧ Row w' A' n' cap' (x % y) ∧ Below w.heap.size w w'

theorem trim_row (w : World) (A : Option Addr) (n cap : Nat) (g : Nat → Int) (hd : Num.Dig g n) (hn : n ≤ cap) (hc : n ≤ 1099511627776) (ha : At w A g n) :
    Calls Tryz.prog 144 #[.slice A n cap] w fun e w' => ∃ A' m, e = .returned (.slice A' m cap) ∧ Row w A' m cap (Num.val g n) ∧ m ≤ n ∧ w = w' := by
  refine (trim_calls w A n cap g hd hn hc ha).mono ?_
  rintro e w1 ⟨A', m, rfl, hm, hA, ht, hv, rfl⟩
  refine ⟨A', m, rfl, ⟨⟨g, ?_, hd.mono hm, ht, hv.symm⟩, by omega, by omega⟩, hm, rfl⟩
  rcases Nat.eq_zero_or_pos m with rfl | h0
  · exact At.zero _ _ _
  · rw [hA h0]; exact ha.mono hm

theorem short_calls (w : World) (A : Option Addr) (d cap : Nat) (e : Int) (g : Nat → Int) (hn : d ≤ 1099511627776) (he0 : 0 < e) (he1 : e < 4294967296) (ha : At w A g d) (hdg : Num.Dig g d) :
    Calls Tryz.prog 147 #[.slice A d cap, .int .u32 e] w (ShortPost (Num.val g d) e w) := callsIn_wide.1 (short_in w A d cap e g hn he0 he1 ha hdg)

set_option maxHeartbeats 1000000 in
/-- The dividend is less than the divisor. -/
theorem divide_less (w : World) (A A' : Option Addr) (n m cap cap' : Nat) (g h : Nat → Int) (hn : n ≤ 1099511627) (hm : m ≤ 1099511627) (ha : At w A g n) (hb : At w A' h m) (hdg : Num.Dig g n) (hdh : Num.Dig h m) (tg : Num.Trim g n) (th : Num.Trim h m) (hlt : Num.val g n < Num.val h m) :
    Calls Tryz.prog 102 #[.slice A n cap, .slice A' m cap'] w (DivPost (Num.val g n) (Num.val h m) w) := by
  have HC := Lib.hid (compare_calls w A A' n m cap cap' g h (by omega) (by omega) ha hb hdg hdh tg th)
  rw [show cmpZ (Num.val g n) (Num.val h m) = -1 from by simp [cmpZ, hlt]] at HC
  have HA := Lib.hid ha
  have HG := Lib.hid hdg
  have HT := Lib.hid tg
  have HL := Lib.hid hlt
  clear ha hb hdg hdh tg th hlt
  go_enter Tryz.func102, Tryz.ntmps102
  go_wp2_with (first
    | (go_at_call 145; refine HC.out.mono ?_; rintro e w1 ⟨rfl, hb1⟩; have HB1 := Lib.hid hb1; clear hb1)
    | (go_at_call 146; refine (clone_calls _ A n cap g (by omega) (HA.out.below HB1.out)).mono ?_; rintro e w2 ⟨Ar, capr, rfl, hcr, hnew, hb2⟩; have HN := Lib.hid hnew; have HB2 := Lib.hid hb2; clear hnew hb2))
  go_ret2
  have h0 := Num.val_nonneg HG.out
  have hl := HL.out
  exact ⟨none, 0, 0, Ar, n, capr, rfl, ⟨⟨fun _ => 0, At.zero _ _ _, fun i hi => absurd hi (by omega), fun k hk => absurd hk (by omega), by rw [Int.ediv_eq_zero_of_lt h0 hl]; rfl⟩, Nat.le_refl _, by omega⟩,
    ⟨⟨g, HN.out.at, HG.out, HT.out, (Int.emod_eq_of_lt h0 hl).symm⟩, hcr, by omega⟩, HB1.out.trans (HB2.out.mono HB1.out.size)⟩

set_option maxHeartbeats 1000000 in
/-- The divisor is one limb. -/
theorem divide_one (w : World) (A A' : Option Addr) (n cap cap' : Nat) (g h : Nat → Int) (hn : n ≤ 1099511627) (ha : At w A g n) (hb : At w A' h 1) (hdg : Num.Dig g n) (hdh : Num.Dig h 1) (tg : Num.Trim g n) (th : Num.Trim h 1) (hge : Num.val h 1 ≤ Num.val g n) :
    Calls Tryz.prog 102 #[.slice A n cap, .slice A' 1 cap'] w (DivPost (Num.val g n) (Num.val h 1) w) := by
  obtain ⟨b, off, rfl, hbl, hcell⟩ := hb (by omega)
  have hb : At w (some ⟨b, off, none⟩) h 1 := fun _ => ⟨b, off, rfl, hbl, hcell⟩
  have hx := hcell 0 (by omega)
  rw [Nat.add_zero] at hx
  have hh := hdh 0 (by omega)
  have h0 := th 0 rfl
  have hv : Num.val h 1 = h 0 := by simp [Num.val, Num.P_zero]
  have hc : ∃ c : Int, cmpZ (Num.val g n) (Num.val h 1) = c ∧ 0 ≤ c := by
    unfold cmpZ
    rw [if_neg (by omega)]
    split
    · exact ⟨1, rfl, by omega⟩
    · exact ⟨0, rfl, by omega⟩
  obtain ⟨c, hc1, hc2⟩ := hc
  have HC := Lib.hid (compare_calls w A (some ⟨b, off, none⟩) n 1 cap cap' g h (by omega) (by omega) ha hb hdg hdh tg th)
  rw [hc1] at HC
  rw [hv]
  obtain ⟨y, hy⟩ : ∃ y, y = h 0 := ⟨_, rfl⟩
  rw [← hy] at hx hh h0 ⊢
  have HA := Lib.hid ha
  have HG := Lib.hid hdg
  have HDig : Hid (Num.Dig (fun _ => Num.val g n % y) 1) := Lib.hid fun i hi => ⟨Int.emod_nonneg _ h0, Int.lt_trans (Int.emod_lt_of_pos _ (by omega)) hh.2⟩
  clear ha hb hdg hdh tg th hge hcell hv hy hc1
  go_enter Tryz.func102, Tryz.ntmps102
  go_wp2_with (first
    | (go_at_call 145; refine HC.out.mono ?_; rintro e w1 ⟨rfl, hb1⟩; have HB1 := Lib.hid hb1; have hx1 := (hb1.cell (p := ⟨b, off, none⟩) hbl).trans hx; clear hb1)
    | (go_at_call 147; refine (short_calls _ A n cap y g (by omega) (by omega) hh.2 (HA.out.below HB1.out) HG.out).mono ?_; rintro e w2 ⟨Aq, nq, capq, o, rfl, hcq, hnew, hdo, hto, hvo, hb2⟩; have HN := Lib.hid hnew; have HB2 := Lib.hid hb2; have HDo := Lib.hid hdo; have HTo := Lib.hid hto; have HVo := Lib.hid hvo; clear hnew hb2 hdo hto hvo)
    | (go_at_call 144; refine (trim_row _ (some ⟨w2.heap.size, 0, none⟩) 1 1 (fun _ => Num.val g n % y) HDig.out (Nat.le_refl _) (by omega) (fun _ => ⟨w2.heap.size, 0, rfl, by simp, fun i hi => by obtain rfl : i = 0 := (by omega); rw [World.cell?_alloc_at _ _ _ _ rfl]; rfl⟩)).mono ?_; rintro e w3 ⟨Ar, m, rfl, hrow, hm, rfl⟩; have HRow := Lib.hid hrow; clear hrow))
  go_ret2
  have hal := (Below.refl w2.heap.size w2).alloc (Nat.le_refl _) (.cells #[.int .u32 (Num.val g n % y)] 175)
  have hq : nq ≤ n := Num.len_le HDo.out HTo.out HG.out (by rw [HVo.out]; exact Int.ediv_le_self _ (Num.val_nonneg HG.out))
  have hrow := HRow.out
  rw [show Num.val (fun _ => Num.val g n % y) 1 = Num.val g n % y from by simp [Num.val, Num.P_zero]] at hrow
  have e1 := HB1.out
  have e2 := HB2.out
  have e3 := e1.size
  exact ⟨Aq, nq, capq, Ar, m, 1, rfl, ⟨⟨o, HN.out.at.below hal, HDo.out, HTo.out, HVo.out⟩, hcq, by omega⟩, hrow, e1.trans ((e2.mono e3).trans (hal.mono (by have := e2.size; omega)))⟩

/-- left at a shift by less than a limb. -/
def LeftP (x : Int) (n k : Nat) (w : World) (e : Ending) (w' : World) : Prop :=
  ∃ b cap o, e = .returned (.slice (some ⟨b, 0, none⟩) (n + 1) cap) ∧ n + 1 ≤ cap ∧ w.heap.size ≤ b ∧ Buf w' b (n + 1) o ∧ Num.Dig o (n + 1) ∧ Num.val o (n + 1) = x * 2 ^ k ∧ Below w.heap.size w w'
theorem left_small (w : World) (A : Option Addr) (n cap k : Nat) (g : Nat → Int) (hdg : Num.Dig g n) (hn : n ≤ 549755813888) (hk : k < 32) (ha : At w A g n) :
    Calls Tryz.prog 149 #[.slice A n cap, .int .i64 k] w (LeftP (Num.val g n) n k w) := by
  refine (left_calls w A n cap k g hdg hn (by omega) ha).mono ?_
  rintro e w' ⟨A', cap', o, rfl, hc, hnew, hd, hv, hb⟩
  rw [show k / 32 + n + 1 = n + 1 by omega] at *
  obtain ⟨b, rfl, hbs, hbuf⟩ := hnew (by omega)
  exact ⟨b, cap', o, rfl, hc, hbs, hbuf, hd, hv, hb⟩

theorem right_small (w : World) (A : Option Addr) (n cap k : Nat) (g : Nat → Int) (hn : n ≤ 1099511627776) (hk : k < 32) (hc : n ≤ cap) (ha : At w A g n) (hdg : Num.Dig g n) :
    Calls Tryz.prog 151 #[.slice A n cap, .int .i64 k] w (RightPost (Num.val g n) n k w) := by
  have h := right_calls w A n cap k g hn (by omega) hc ha hdg
  rwa [show n - k / 32 = n by omega] at h

set_option maxRecDepth 100000 in
set_option maxHeartbeats 2000000 in
/-- The divisor is more than one limb. -/
theorem divide_many (w : World) (A A' : Option Addr) (d m cap cap' : Nat) (g h : Nat → Int) (hm : 1 ≤ m) (hn : d + m ≤ 1099511627) (ha : At w A g (d + m)) (hb : At w A' h (m + 1)) (hdg : Num.Dig g (d + m)) (hdh : Num.Dig h (m + 1)) (tg : Num.Trim g (d + m)) (th : Num.Trim h (m + 1)) (hge : Num.val h (m + 1) ≤ Num.val g (d + m)) :
    Calls Tryz.prog 102 #[.slice A (d + m) cap, .slice A' (m + 1) cap'] w (DivPost (Num.val g (d + m)) (Num.val h (m + 1)) w) := by
  obtain ⟨bb, off, rfl, hbl, hcell⟩ := hb (by omega)
  have hb : At w (some ⟨bb, off, none⟩) h (m + 1) := fun _ => ⟨bb, off, rfl, hbl, hcell⟩
  have hx := hcell m (by omega)
  have hh := hdh m (by omega)
  have h0 := th m rfl
  have hc : ∃ c : Int, cmpZ (Num.val g (d + m)) (Num.val h (m + 1)) = c ∧ 0 ≤ c := by
    unfold cmpZ
    rw [if_neg (by omega)]
    split
    · exact ⟨1, rfl, by omega⟩
    · exact ⟨0, rfl, by omega⟩
  obtain ⟨c, hc1, hc2⟩ := hc
  have HC := Lib.hid (compare_calls w A (some ⟨bb, off, none⟩) (d + m) (m + 1) cap cap' g h (by omega) (by omega) ha hb hdg hdh tg th)
  rw [hc1] at HC
  obtain ⟨y, hy⟩ : ∃ y, y = h m := ⟨_, rfl⟩
  rw [← hy] at hx hh
  have hy0 : 0 < y := by omega
  have hmk := make_limbs d (by omega)
  rw [show (d : Int) = (d : Int) + m + 1 - (m + 1) from by omega] at hmk
  have HA := Lib.hid ha
  have HB := Lib.hid hb
  have HG := Lib.hid hdg
  have HH := Lib.hid hdh
  have HY := Lib.hid hy
  have H0 := Lib.hid h0
  have HGe := Lib.hid hge
  clear ha hb hdg hdh tg th hge hcell hy hc1 h0
  go_enter Tryz.func102, Tryz.ntmps102
  go_wp2_with (first
    | (go_at_call 145; refine HC.out.mono ?_; rintro e w1 ⟨rfl, hb1⟩; have HB1 := Lib.hid hb1; have hx1 := (hb1.cell (p := ⟨bb, off + m, none⟩) hbl).trans hx; clear hb1)
    | (go_at_call 148; refine (zeros32_calls y hy0 hh.2 _).mono ?_; rintro e w1' ⟨s, rfl, hs, hxs, rfl⟩; have HXS := Lib.hid hxs; clear hxs))
  refine wp_region_any (by kernel_rfl) ?_
  refine wpAny_of_held (S := fun _ => True) _ _ _ _ ?_
  refine wpAnyH_take (i := 0) (v := .slice (some ⟨bb, off, none⟩) (m + 1) cap') rfl (by kernel_rfl) (by kernel_rfl) (by kernel_rfl) (fun _ _ _ h => h) (.inl ⟨rfl, fun w0 hw0 => ?a0⟩) trivial ?_
  case a0 => go_simp
  refine wpAnyH_take (i := 1) (v := .int .i64 (s : Int)) rfl (by kernel_rfl) (by kernel_rfl) (by kernel_rfl) (fun _ _ _ h => h) (.inl ⟨rfl, fun w0 hw0 => ?a1⟩) trivial ?_
  case a1 => go_simp
  refine wpAnyH_take (i := 3) (v := .int .i64 ((m : Int) + 1)) rfl (by kernel_rfl) (by kernel_rfl) (by kernel_rfl) (fun _ _ _ h => h) (.inl ⟨rfl, fun w0 hw0 => ?a3⟩) trivial ?_
  case a3 => go_simp
  refine wpAnyH_take (i := 5) (v := .slice A (d + m) cap) rfl (by kernel_rfl) (by kernel_rfl) (by kernel_rfl) (fun _ _ _ h => h) (.inl ⟨rfl, fun w0 hw0 => ?a5⟩) trivial ?_
  case a5 => go_simp
  refine wpAnyH_take (i := 6) (v := .int .i64 (s : Int)) rfl (by kernel_rfl) (by kernel_rfl) (by kernel_rfl) (fun _ _ _ h => h) (.inl ⟨rfl, fun w0 hw0 => ?a6⟩) trivial ?_
  case a6 => go_simp
  refine wpAnyH_all (rs := [2]) (by kernel_rfl) (by simp) ?_
  intro i0 hi0
  obtain rfl : i0 = 2 := by simpa using hi0
  refine wpOp_plain rfl rfl fun K' hK' => ?_
  go_simp
  refine (left_small _ (some ⟨bb, off, none⟩) (m + 1) cap' s h HH.out (by omega) hs (HB.out.below ((Below.refl _ _).trans (below_drewN (HB1.out) 1)))).mono ?_
  rintro e w2 ⟨bv, capv, ov, rfl, hcv, hbv, hbufv, hdv, hvv, hbel2⟩
  have hBv : Below w.heap.size w w2 := (below_drewN HB1.out 1).trans (hbel2.mono HB1.out.size)
  have HBv := Lib.hid hBv
  have HBufv := Lib.hid hbufv
  have HDv := Lib.hid hdv
  have HVv := Lib.hid hvv
  have hbv' : w.heap.size ≤ bv := Nat.le_trans HB1.out.size hbv
  clear hBv hbufv hdv hvv hbel2 hbv
  refine hK' _ _ ⟨trivial, ?_⟩
  clear hK' K'
  refine wpAnyH_take (i := 4) (v := .slice (some ⟨bv, 0, none⟩) (m + 1) capv) rfl (by kernel_rfl) (by kernel_rfl) (by kernel_rfl) (fun _ _ _ h => h) (.inl ⟨rfl, fun w0 hw0 => ?a4⟩) trivial ?_
  case a4 => go_simp; intro h; exact absurd (h (by omega)) (by omega)
  refine wpAnyH_all (rs := [7]) (by kernel_rfl) (by simp) ?_
  intro i0 hi0
  obtain rfl : i0 = 7 := by simpa using hi0
  refine wpOp_plain rfl rfl fun K' hK' => ?_
  go_simp
  refine (left_small _ A (d + m) cap s g HG.out (by omega) hs (HA.out.below HBv.out)).mono ?_
  rintro e w3 ⟨bu, capu, ou, rfl, hcu, hbu, hbufu, hdu, hvu, hbel3⟩
  have hBu : Below w.heap.size w w3 := HBv.out.trans (hbel3.mono HBv.out.size)
  have hbufv3 := HBufv.out.below hbel3
  have hbuv : bv < bu := Nat.lt_of_lt_of_le HBufv.out.lt hbu
  have HBu := Lib.hid hBu
  have HBufu := Lib.hid hbufu
  have HBufv3 := Lib.hid hbufv3
  have HDu := Lib.hid hdu
  have HVu := Lib.hid hvu
  clear hBu hbufu hdu hvu hbel3 hbu hbufv3
  refine hK' _ _ ⟨trivial, ?_⟩
  clear hK' K'
  refine wpAnyH_take (i := 8) (v := .slice (some ⟨bv, 0, none⟩) (m + 1) capv) rfl (by kernel_rfl) (by kernel_rfl) (by kernel_rfl) (fun _ _ _ h => h) (.inl ⟨rfl, fun w0 hw0 => ?a8⟩) trivial ?_
  case a8 => go_simp
  refine wpAnyH_take (i := 9) (v := .slice (some ⟨bu, 0, none⟩) (d + m + 1) capu) rfl (by kernel_rfl) (by kernel_rfl) (by kernel_rfl) (fun _ _ _ h => h) (.inl ⟨rfl, fun w0 hw0 => ?a9⟩) trivial ?_
  case a9 => go_simp
  refine wpAnyH_done (by kernel_rfl) ?_ _
  obtain ⟨S2, hS2⟩ : ∃ S2 : Int, S2 = 2 ^ s := ⟨_, rfl⟩
  have hS0 : 0 < S2 := by rw [hS2]; exact Int.pow_pos (by omega)
  have HVal2 : Hid (S2 = 2 ^ s) := Lib.hid hS2
  have HHead : Hid (Num.val (Num.from_ ou d) (m + 1) < Num.val h (m + 1) * S2) := Lib.hid (by
    have := Num.div_head (o := ou) (n := m + 1) (d := d) (a := Num.val g (d + m)) (b := Num.val h (m + 1)) (s := S2) HDu.out (by rw [hS2]; exact HVu.out) hS0 (Num.div_first HG.out HH.out H0.out)
    exact this)
  clear hS2
  go_wp2
  have hbel4 := (HBu.out).alloc HBu.out.size (.cells (zeros d) 175)
  have hbufq := Buf.new w3 d 175
  have hbufu4 := HBufu.out.alloc (.cells (zeros d) 175)
  have hbufv4 := HBufv3.out.alloc (.cells (zeros d) 175)
  have hbq := HBufu.out.lt
  generalize w3.alloc (.cells (zeros d) 175) = w4 at *
  generalize w3.heap.size = bq at *
  obtain ⟨hn1, hn2, hn3⟩ := Num.div_norm HH.out HDv.out (by rw [HVal2.out]; exact HVv.out) hS0 (by rw [HVal2.out, ← HY.out]; exact HXS.out) H0.out
  obtain ⟨V, hV⟩ : ∃ V : Int, V = Num.val ov (m + 1) := ⟨_, rfl⟩
  have HV := Lib.hid hV
  have HVS : Hid (V = Num.val h (m + 1) * S2) := Lib.hid (hV.trans hn1)
  have HN2 := Lib.hid hn2
  have HN3 : Hid (V < Num.P (m + 1)) := Lib.hid (by rw [hV, hn1]; exact hn3)
  have hHead : Num.val (Num.from_ ou d) (m + 1) < V := by rw [hV, hn1]; exact HHead.out
  obtain ⟨U, hU⟩ : ∃ U : Int, U = Num.val g (d + m) * S2 := ⟨_, rfl⟩
  have hUu : U = Num.val ou (d + m + 1) := by rw [hU, HVal2.out]; exact HVu.out.symm
  have HU := Lib.hid hU
  have hdu := HDu.out
  clear hn1 hn2 hn3 hV hU hmk
  go_loopw [12] (fun i wr => ∃ (k : Nat) (o qq : Nat → Int), k ≤ d ∧ i = .int .i64 ((k : Int) - 1) ∧ Buf wr bu (d + m + 1) o ∧ Num.Dig o (d + m + 1) ∧ Buf wr bq d qq ∧ Num.Dig qq d ∧ Buf wr bv (m + 1 + 1) ov ∧ Below w.heap.size w wr ∧ (∀ i, k + (m + 1) ≤ i → i < d + m + 1 → o i = 0) ∧ Num.val (Num.from_ o k) (m + 1) < V ∧ (∀ i, i < k → qq i = 0) ∧ U = Num.val o (d + m + 1) + V * Num.val qq d) (fun i _ => (intOf i + 1).toNat)
  case atStart => exact ⟨d, ou, fun _ => 0, Nat.le_refl _, rfl, hbufu4, hdu, hbufq, fun i hi => ⟨Int.le_refl 0, by show (0 : Int) < 4294967296; omega⟩, hbufv4, hbel4, fun i h1 h2 => absurd h2 (by omega), hHead, fun _ _ => rfl, by rw [hUu, Num.val_zero]; omega⟩
  case round =>
    clear hbel4 hbufq hbufu4 hbufv4 hHead hUu hdu
    obtain ⟨k, o, qq, hk, rfl, hbo, hdo, hbqq, hdq, hbvv, hbe, hz, hhead, hq0, hval⟩ := hrel
    have HBo := Lib.hid hbo
    have HDo := Lib.hid hdo
    have HBq := Lib.hid hbqq
    have HDq := Lib.hid hdq
    have HBv := Lib.hid hbvv
    have HBe := Lib.hid hbe
    have HZ := Lib.hid hz
    have HHd := Lib.hid hhead
    have HQ0 := Lib.hid hq0
    have HVal := Lib.hid hval
    have hB := hbe.size
    clear hbo hdo hbqq hdq hbvv hbe hz hhead hq0 hval
    rcases Nat.eq_zero_or_pos k with rfl | h0
    · rw [show ((0 : Nat) : Int) - 1 = -1 from by omega]
      go_wp2_with (first
        | (go_at_call_has 144 bu; refine (trim_row _ (some ⟨bu, 0, none⟩) (d + m + 1) capu o HDo.out (by omega) (by omega) HBo.out.at).mono ?_; rintro e w5 ⟨A1, m1, rfl, hrow1, hm1, rfl⟩; have HR1 := Lib.hid hrow1; clear hrow1)
        | (go_at_call 151; obtain ⟨g1, ha1, hd1, ht1, hv1⟩ := HR1.out.ex; refine (right_small _ A1 m1 capu s g1 (by omega) hs (by omega) ha1 hd1).mono ?_; rintro e w6 ⟨b2, o2, rfl, hb2, hbs2, hd2, hv2, hbel2⟩; have HB2 := Lib.hid hb2; have HD2 := Lib.hid hd2; have HV2 : Hid (Num.val o2 m1 = Num.val o (d + m + 1) / 2 ^ s) := Lib.hid (by rw [hv2, hv1]); have HBe2 := Lib.hid hbel2; clear hb2 hd2 hv2 hbel2 ha1 hd1 ht1 hv1)
        | (go_at_call_has 144 bq; refine (trim_row _ (some ⟨bq, 0, none⟩) d d qq HDq.out (Nat.le_refl _) (by omega) (HBq.out.at.below HBe2.out)).mono ?_; rintro e w7 ⟨A3, m3, rfl, hrow3, hm3, rfl⟩; have HR3 := Lib.hid hrow3; clear hrow3)
        | (go_at_call_has 144 b2; refine (trim_row _ (some ⟨b2, 0, none⟩) m1 m1 o2 HD2.out (Nat.le_refl _) (by omega) HB2.out.at).mono ?_; rintro e w8 ⟨A4, m4, rfl, hrow4, hm4, rfl⟩; have HR4 := Lib.hid hrow4; clear hrow4))
      go_ret2
      have hend := Num.div_end (o := o) (n := m + 1) (M := d + m + 1) (a := Num.val g (d + m)) (b := Num.val h (m + 1)) (s := S2) (q := Num.val qq d) (by omega) HDo.out (fun i h1 h2 => HZ.out i (by omega) h2)
        (by rw [← HVS.out]; have := HHd.out; rw [Num.val_congr (h := o) (fun i _ => by simp [Num.from_])] at this; exact this) hS0
        (by have := Num.val_ge HH.out H0.out; have := Num.P_pos m; omega) (by rw [← HU.out, ← HVS.out]; exact HVal.out)
      refine ⟨A3, m3, d, A4, m4, m1, rfl, ?_, ?_, HBe.out.trans (HBe2.out.mono hB)⟩
      · rw [← hend.1]; exact HR3.out
      · rw [← hend.2, HVal2.out, ← HV2.out]; exact HR4.out
    · obtain ⟨j, rfl⟩ : ∃ j, k = j + 1 := ⟨k - 1, by omega⟩
      rw [show ((j + 1 : Nat) : Int) - 1 = (j : Int) from by omega]
      have hDF : Num.Dig (Num.from_ o j) (m + 1 + 1) := fun i hi => HDo.out (j + i) (by omega)
      have hwin : Num.val (Num.from_ o j) (m + 1 + 1) < Num.val ov (m + 1) * 4294967296 := by
        rw [← HV.out]
        exact Num.div_window (HDo.out j (by omega)) HHd.out
      obtain ⟨hV0, hqa, hqb, _, _⟩ := Num.digit hDF (HDv.out.mono (Nat.le_succ _)) HN2.out hwin
      have hst := step_calls wr bu (d + m + 1) j bv 0 m (capu - j) capv o ov (by omega) HDo.out (by omega) (by omega) (HDv.out.mono (Nat.le_succ _)) HBo.out (by omega) HBv.out.lt (fun i hi => by rw [Nat.zero_add]; exact HBv.out.cell i (by omega)) HN2.out hwin
      rw [← HV.out] at hst hV0 hqa hqb
      obtain ⟨q, hq⟩ : ∃ q, q = Num.val (Num.from_ o j) (m + 1 + 1) / V := ⟨_, rfl⟩
      rw [← hq] at hst hqa hqb
      have HQ := Lib.hid hq
      have HSt := Lib.hid hst
      have HV0 := Lib.hid hV0
      clear hDF hwin hst hq hV0
      go_wp2_with (go_at_call 150; rw [show j + (m + 1) + 1 - j = m + 1 + 1 from by omega]; refine HSt.out.mono ?_; rintro e w5 ⟨o', rfl, hbo', hdo', hag, hr, hbut⟩; have HBq5 := HBq.out.but hbut (by omega); have HBv5 := Lib.hid (HBv.out.but hbut (by omega)); have hcq := HBq5.cell j (by omega); have hfq := HBq5.free j (by omega); have HBQ5 := Lib.hid HBq5; have HBo' := Lib.hid hbo'; have HDo' := Lib.hid hdo'; have HAg := Lib.hid hag; have HR := Lib.hid hr; have HBut := Lib.hid hbut; clear hbo' hdo' hag hr hbut HBq5)
      go_roundw
      case rel =>
        have hrest := Num.div_rest (o := o') (j := j) (n := m + 1) (V := V) (fun i hi => HDo'.out (j + i) (by omega)) (by rw [HR.out]; exact Int.emod_lt_of_pos _ HV0.out) HN3.out
        refine ⟨j, o', Num.upd qq j q, by omega, by go_num, HBo'.out.setFar _ _ (by simp; omega), HDo'.out, HBQ5.out.set _ (by omega), HDq.out.upd hqa hqb, HBv5.out.setFar _ _ (by simp; omega), (HBut.out.below HBe.out hB (by omega)).setCell (p := ⟨bq, j, none⟩) (by simp; omega) _, fun i h1 h2 => ?_, hrest.2, fun i hi => ?_, ?_⟩
        · rcases Nat.eq_or_lt_of_le h1 with h3 | h3
          · rw [← h3]; exact hrest.1
          · rw [HAg.out i (by omega)]; exact HZ.out i (by omega) h2
        · rw [Num.upd_other (by omega)]; exact HQ0.out i (by omega)
        · exact Num.div_round (w := m + 1 + 1) (by omega) (by omega) HAg.out rfl HR.out (by rw [HQ.out]; exact (Int.mul_ediv_add_emod _ _).symm) (HQ0.out j (by omega)) HVal.out
      case measure => simp [intOf]

theorem divide_calls (w : World) (A A' : Option Addr) (n m cap cap' : Nat) (g h : Nat → Int) (hm : 0 < m) (hn : n ≤ 1099511627) (hmm : m ≤ 1099511627) (ha : At w A g n) (hb : At w A' h m) (hdg : Num.Dig g n) (hdh : Num.Dig h m) (tg : Num.Trim g n) (th : Num.Trim h m) :
    Calls Tryz.prog 102 #[.slice A n cap, .slice A' m cap'] w (DivPost (Num.val g n) (Num.val h m) w) := by
  rcases Int.lt_or_le (Num.val g n) (Num.val h m) with hlt | hge
  · exact divide_less w A A' n m cap cap' g h hn hmm ha hb hdg hdh tg th hlt
  · obtain ⟨m, rfl⟩ : ∃ k, m = k + 1 := ⟨m - 1, by omega⟩
    rcases Nat.eq_zero_or_pos m with rfl | h0
    · exact divide_one w A A' n cap cap' g h hn ha hb hdg hdh tg th hge
    · have hl := Num.len_le hdh th hdg hge
      obtain ⟨d, rfl⟩ : ∃ d, n = d + m := ⟨n - m, by omega⟩
      exact divide_many w A A' d m cap cap' g h h0 hn ha hb hdg hdh tg th hge

end Go.Proofs.YtilaheplclaokaaGreatDoor
namespace Go.Proofs.YtilaheplclaokaaGreatDoor
open Go.RowKit Go.Shelf
attribute [local go_sem] Oper.semAt_some

/-- A number's struct. -/
def num (neg : Bool) (A : Option Addr) (n cap : Nat) : Value := .agg #[.bool neg, .slice A n cap]

set_option maxRecDepth 100000 in
set_option maxHeartbeats 1000000 in
theorem add_same (w : World) (neg : Bool) (A A' : Option Addr) (n n' cap cap' : Nat) (g h : Nat → Int) (hn : n ≤ 4096) (hn' : n' ≤ 4096) (hdg : Num.Dig g n) (hdh : Num.Dig h n') (tg : Num.Trim g n) (th : Num.Trim h n') (ha : At w A g n) (hb : At w A' h n') :
    Calls Tryz.prog 101 #[.agg #[.bool neg, .slice A n cap], .agg #[.bool neg, .slice A' n' cap']] w (NumPost (Num.sg neg * Num.val g n + Num.sg neg * Num.val h n') w) := by
  have k2 := (((Blk.new w #[.bool neg, .slice A n cap] 92).alloc (.cells #[.bool neg, .slice A' n' cap'] 92)).alloc (.cells #[.bool false, .slice none 0 0] 92))
  have k3 := ((Blk.new (w.alloc (.cells #[.bool neg, .slice A n cap] 92)) #[.bool neg, .slice A' n' cap'] 92).alloc (.cells #[.bool false, .slice none 0 0] 92))
  have k4 := Blk.new ((w.alloc (.cells #[.bool neg, .slice A n cap] 92)).alloc (.cells #[.bool neg, .slice A' n' cap'] 92)) #[.bool false, .slice none 0 0] 92
  have hb0 := (((Below.refl w.heap.size w).alloc (Nat.le_refl _) (.cells #[.bool neg, .slice A n cap] 92)).alloc (by simp) (.cells #[.bool neg, .slice A' n' cap'] 92)).alloc (by simp; omega) (.cells #[.bool false, .slice none 0 0] 92)
  simp only [World.size_alloc] at k2 k3 k4
  have K2 := Lib.hid k2
  have K3 := Lib.hid k3
  have K4 := Lib.hid k4
  have HB0 := Lib.hid hb0
  have HA := Lib.hid ha
  have HB := Lib.hid hb
  have HG := Lib.hid hdg
  have HH := Lib.hid hdh
  have HTG := Lib.hid tg
  have HTH := Lib.hid th
  clear k2 k3 k4 hb0 ha hb hdg hdh tg th
  go_enter Tryz.func101, Tryz.ntmps101
  go_wp2_with (go_at_call 145; refine (compare_calls _ A A' n n' cap cap' g h (by omega) (by omega) (HA.out.below HB0.out) (HB.out.below HB0.out) HG.out HH.out HTG.out HTH.out).mono ?_; rintro e w4 ⟨rfl, hb4⟩; have hk2 := K2.out.below hb4; have hk3 := K3.out.below hb4; have hk4 := K4.out.below hb4; have hb := HB0.out.trans (hb4.mono (by (simp; omega))); have c20 := hk2.c0; have c30 := hk3.c0; have HK2 := Lib.hid hk2; have HK3 := Lib.hid hk3; have HK4 := Lib.hid hk4; have HBe := Lib.hid hb; clear hk2 hk3 hk4 hb hb4 K2 K3 K4 HB0)
  clear c20 c30
  have hS : Blk w4.drew w.heap.size #[.bool neg, .slice A n cap] 92 ∧ Blk w4.drew (w.heap.size + 1) #[.bool neg, .slice A' n' cap'] 92 := ⟨HK2.out, HK3.out⟩
  have hbe : Below w.heap.size w w4.drew := below_drewN HBe.out 1
  have hk4 : Blk w4.drew (w.heap.size + 1 + 1) #[.bool false, .slice none 0 0] 92 := HK4.out
  clear HK2 HK3 HK4 HBe
  refine wp_region_any (by kernel_rfl) ?_
  refine wpAny_of_held (S := fun W' => Blk W' w.heap.size #[.bool neg, .slice A n cap] 92 ∧ Blk W' (w.heap.size + 1) #[.bool neg, .slice A' n' cap'] 92) _ _ _ _ ?_
  refine wpAnyH_take (i := 0) (v := .pointer (some ⟨w.heap.size, 0, none⟩)) rfl (by kernel_rfl) (by kernel_rfl) (by kernel_rfl) (fun _ _ _ h => h) (.inl ⟨rfl, fun w0 hw0 => ?a0⟩) hS ?_
  case a0 =>
    obtain ⟨g2, g3⟩ := hw0; have e0 := g2.c0; have e1 := g2.c1; have e2 := g3.c0; have e3 := g3.c1
    go_simp
  refine wpAnyH_take (i := 1) (v := .bool neg) rfl (by kernel_rfl) (by kernel_rfl) (by kernel_rfl) (fun _ _ _ h => h) (.inl ⟨rfl, fun w0 hw0 => ?a1⟩) hS ?_
  case a1 =>
    obtain ⟨g2, g3⟩ := hw0; have e0 := g2.c0; have e1 := g2.c1; have e2 := g3.c0; have e3 := g3.c1
    go_simp
  refine wpAnyH_take (i := 2) (v := .pointer (some ⟨w.heap.size, 1, none⟩)) rfl (by kernel_rfl) (by kernel_rfl) (by kernel_rfl) (fun _ _ _ h => h) (.inl ⟨rfl, fun w0 hw0 => ?a2⟩) hS ?_
  case a2 =>
    obtain ⟨g2, g3⟩ := hw0; have e0 := g2.c0; have e1 := g2.c1; have e2 := g3.c0; have e3 := g3.c1
    go_simp
  refine wpAnyH_take (i := 3) (v := .slice A n cap) rfl (by kernel_rfl) (by kernel_rfl) (by kernel_rfl) (fun _ _ _ h => h) (.inl ⟨rfl, fun w0 hw0 => ?a3⟩) hS ?_
  case a3 =>
    obtain ⟨g2, g3⟩ := hw0; have e0 := g2.c0; have e1 := g2.c1; have e2 := g3.c0; have e3 := g3.c1
    go_simp
  refine wpAnyH_take (i := 4) (v := .pointer (some ⟨w.heap.size + 1, 1, none⟩)) rfl (by kernel_rfl) (by kernel_rfl) (by kernel_rfl) (fun _ _ _ h => h) (.inl ⟨rfl, fun w0 hw0 => ?a4⟩) hS ?_
  case a4 =>
    obtain ⟨g2, g3⟩ := hw0; have e0 := g2.c0; have e1 := g2.c1; have e2 := g3.c0; have e3 := g3.c1
    go_simp
  refine wpAnyH_take (i := 5) (v := .slice A' n' cap') rfl (by kernel_rfl) (by kernel_rfl) (by kernel_rfl) (fun _ _ _ h => h) (.inl ⟨rfl, fun w0 hw0 => ?a5⟩) hS ?_
  case a5 =>
    obtain ⟨g2, g3⟩ := hw0; have e0 := g2.c0; have e1 := g2.c1; have e2 := g3.c0; have e3 := g3.c1
    go_simp
  refine wpAnyH_all (rs := [6]) (by kernel_rfl) (by simp) ?_
  intro i0 hi0
  obtain rfl : i0 = 6 := by simpa using hi0
  refine wpOp_plain rfl rfl fun K' hK' => ?_
  go_simp
  generalize w4.drew = w5 at *
  refine (plus_calls w5 A A' n n' cap cap' g h HG.out HH.out (by omega) (by omega) (HA.out.below hbe) (HB.out.below hbe)).mono ?_
  rintro e w6 ⟨b, o, rfl, hbo, hdo, hvo, hbb, hb6⟩
  have hS : Blk w6 w.heap.size #[.bool neg, .slice A n cap] 92 ∧ Blk w6 (w.heap.size + 1) #[.bool neg, .slice A' n' cap'] 92 := ⟨hS.1.below hb6, hS.2.below hb6⟩
  have hk4 := hk4.below hb6
  have hbe := hbe.trans (hb6.mono hbe.size)
  refine hK' _ _ ⟨hS, ?_⟩
  clear hK' K'
  refine wpAnyH_all (rs := [7]) (by kernel_rfl) (by simp) ?_
  intro i0 hi0
  obtain rfl : i0 = 7 := by simpa using hi0
  refine wpOp_plain rfl rfl fun K' hK' => ?_
  go_simp
  refine (made_calls w6 (neg) (some ⟨b, 0, none⟩) (max n n' + 1) (max n n' + 1) o hdo (Nat.le_refl _) (by omega) hbo.at).mono ?_
  rintro e w7 ⟨v, rfl, hwid, hb7⟩
  obtain ⟨neg2, A2, n2, cap2, rfl, hwd⟩ := hwid
  rw [hvo, show Num.sg neg * (Num.val g n + Num.val h n') = Num.sg neg * Num.val g n + Num.sg neg * Num.val h n' from Int.mul_add _ _ _] at hwd ⊢
  have hS : Blk w7 w.heap.size #[.bool neg, .slice A n cap] 92 ∧ Blk w7 (w.heap.size + 1) #[.bool neg, .slice A' n' cap'] 92 := ⟨hS.1.below hb7, hS.2.below hb7⟩
  have hk4 := hk4.below hb7
  have hbe := hbe.trans (hb7.mono hbe.size)
  refine hK' _ _ ⟨hS, ?_⟩
  clear hK' K'
  generalize Num.sg neg * Num.val g n + Num.sg neg * Num.val h n' = x at *
  refine wpAnyH_take (i := 8) (v := .agg #[.bool neg2, .slice A2 n2 cap2]) rfl (by kernel_rfl) (by kernel_rfl) (by kernel_rfl) (fun _ _ _ h => h) (.inl ⟨rfl, fun w0 hw0 => ?a8⟩) hS ?_
  case a8 =>
    obtain ⟨g2, g3⟩ := hw0; have e0 := g2.c0; have e1 := g2.c1; have e2 := g3.c0; have e3 := g3.c1
    go_simp
  refine wpAnyH_take (i := 9) (v := .int .i64 (Num.ferr x)) rfl (by kernel_rfl) (by kernel_rfl) (by kernel_rfl) (fun _ _ _ h => h) (.inl ⟨rfl, fun w0 hw0 => ?a9⟩) hS ?_
  case a9 =>
    obtain ⟨g2, g3⟩ := hw0; have e0 := g2.c0; have e1 := g2.c1; have e2 := g3.c0; have e3 := g3.c1
    go_simp
  have f0 := hk4.c0
  have f1 := hk4.c1
  have f2 := hk4.fr 0
  have f3 := hk4.fr 1
  refine wpAnyH_all (rs := [10]) (by kernel_rfl) (by simp) ?_
  intro i0 hi0
  obtain rfl : i0 = 10 := by simpa using hi0
  refine wpOp_plain rfl rfl fun K' hK' => ?_
  go_simp
  have h8 := hk4.set2 (.bool neg2) (.slice A2 n2 cap2)
  have hwd8 := hwd.set2 hk4 (.bool neg2) (.slice A2 n2 cap2)
  have hbe8 := below_set2 hbe (w.heap.size + 1 + 1) (by omega) (.bool neg2) (.slice A2 n2 cap2)
  have hS : Blk ((w7.setCell ⟨w.heap.size + 1 + 1, 0, none⟩ (.bool neg2)).setCell ⟨w.heap.size + 1 + 1, 1, none⟩ (.slice A2 n2 cap2)) w.heap.size #[.bool neg, .slice A n cap] 92 ∧ Blk ((w7.setCell ⟨w.heap.size + 1 + 1, 0, none⟩ (.bool neg2)).setCell ⟨w.heap.size + 1 + 1, 1, none⟩ (.slice A2 n2 cap2)) (w.heap.size + 1) #[.bool neg, .slice A' n' cap'] 92 := ⟨hS.1.far2 _ _ _ (by omega), hS.2.far2 _ _ _ (by omega)⟩
  clear hbe hwd hk4 f0 f1 f2 f3
  generalize (w7.setCell ⟨w.heap.size + 1 + 1, 0, none⟩ (.bool neg2)).setCell ⟨w.heap.size + 1 + 1, 1, none⟩ (.slice A2 n2 cap2) = w8 at *
  refine hK' _ _ ⟨hS, ?_⟩
  clear hK' K'
  refine wpAnyH_take (i := 11) (v := .int .i64 (Num.ferr x)) rfl (by kernel_rfl) (by kernel_rfl) (by kernel_rfl) (fun _ _ _ h => h) (.inl ⟨rfl, fun w0 hw0 => ?a11⟩) hS ?_
  case a11 =>
    obtain ⟨g2, g3⟩ := hw0; have e0 := g2.c0; have e1 := g2.c1; have e2 := g3.c0; have e3 := g3.c1
    go_simp
  refine wpAnyH_done (by kernel_rfl) ?_ _
  have r0 := h8.c0
  have r1 := h8.c1
  have HW8 := Lib.hid hwd8
  have HBe8 := Lib.hid hbe8
  clear hS hwd8 hbe8 h8
  go_wp2
  refine bodyPost_ret (v := .tuple #[.agg #[.bool neg2, .slice A2 n2 cap2], .int .i64 (Num.ferr x)]) (by simp [results, Tryz.results101, go_sem, r0, r1]) rfl ?_
  exact ⟨_, rfl, ⟨neg2, A2, n2, cap2, rfl, HW8.out⟩, HBe8.out⟩

theorem sg_not (neg : Bool) (x y : Int) : Num.sg neg * (x - y) = Num.sg neg * x + Num.sg (!neg) * y := by
  cases neg <;> simp only [Num.sg, Bool.not_true, Bool.not_false, if_true, Bool.false_eq_true, if_false] <;> omega
theorem sg_not' (neg : Bool) (x y : Int) : Num.sg (!neg) * (y - x) = Num.sg neg * x + Num.sg (!neg) * y := by
  cases neg <;> simp only [Num.sg, Bool.not_true, Bool.not_false, if_true, Bool.false_eq_true, if_false] <;> omega

set_option maxRecDepth 100000 in
set_option maxHeartbeats 1000000 in
theorem add_more (w : World) (neg : Bool) (A A' : Option Addr) (n n' cap cap' : Nat) (g h : Nat → Int) (hn : n ≤ 4096) (hn' : n' ≤ 4096) (hdg : Num.Dig g n) (hdh : Num.Dig h n') (tg : Num.Trim g n) (th : Num.Trim h n') (ha : At w A g n) (hb : At w A' h n') (hge : Num.val h n' ≤ Num.val g n) :
    Calls Tryz.prog 101 #[.agg #[.bool neg, .slice A n cap], .agg #[.bool (!neg), .slice A' n' cap']] w (NumPost (Num.sg neg * Num.val g n + Num.sg (!neg) * Num.val h n') w) := by
  have hl := Num.len_le hdh th hdg hge
  have hcm : 0 ≤ cmpZ (Num.val g n) (Num.val h n') := by
    unfold cmpZ
    rw [if_neg (by omega)]
    split <;> omega
  have k2 := (((Blk.new w #[.bool neg, .slice A n cap] 92).alloc (.cells #[.bool (!neg), .slice A' n' cap'] 92)).alloc (.cells #[.bool false, .slice none 0 0] 92))
  have k3 := ((Blk.new (w.alloc (.cells #[.bool neg, .slice A n cap] 92)) #[.bool (!neg), .slice A' n' cap'] 92).alloc (.cells #[.bool false, .slice none 0 0] 92))
  have k4 := Blk.new ((w.alloc (.cells #[.bool neg, .slice A n cap] 92)).alloc (.cells #[.bool (!neg), .slice A' n' cap'] 92)) #[.bool false, .slice none 0 0] 92
  have hb0 := (((Below.refl w.heap.size w).alloc (Nat.le_refl _) (.cells #[.bool neg, .slice A n cap] 92)).alloc (by simp) (.cells #[.bool (!neg), .slice A' n' cap'] 92)).alloc (by simp; omega) (.cells #[.bool false, .slice none 0 0] 92)
  simp only [World.size_alloc] at k2 k3 k4
  have K2 := Lib.hid k2
  have K3 := Lib.hid k3
  have K4 := Lib.hid k4
  have HB0 := Lib.hid hb0
  have HA := Lib.hid ha
  have HB := Lib.hid hb
  have HG := Lib.hid hdg
  have HH := Lib.hid hdh
  have HTG := Lib.hid tg
  have HTH := Lib.hid th
  clear k2 k3 k4 hb0 ha hb hdg hdh tg th
  go_enter Tryz.func101, Tryz.ntmps101
  go_wp2_with (go_at_call 145; refine (compare_calls _ A A' n n' cap cap' g h (by omega) (by omega) (HA.out.below HB0.out) (HB.out.below HB0.out) HG.out HH.out HTG.out HTH.out).mono ?_; rintro e w4 ⟨rfl, hb4⟩; have hk2 := K2.out.below hb4; have hk3 := K3.out.below hb4; have hk4 := K4.out.below hb4; have hb := HB0.out.trans (hb4.mono (by (simp; omega))); have c20 := hk2.c0; have c30 := hk3.c0; have HK2 := Lib.hid hk2; have HK3 := Lib.hid hk3; have HK4 := Lib.hid hk4; have HBe := Lib.hid hb; clear hk2 hk3 hk4 hb hb4 K2 K3 K4 HB0)
  clear c20 c30
  have hS : Blk w4.drew w.heap.size #[.bool neg, .slice A n cap] 92 ∧ Blk w4.drew (w.heap.size + 1) #[.bool (!neg), .slice A' n' cap'] 92 := ⟨HK2.out, HK3.out⟩
  have hbe : Below w.heap.size w w4.drew := below_drewN HBe.out 1
  have hk4 : Blk w4.drew (w.heap.size + 1 + 1) #[.bool false, .slice none 0 0] 92 := HK4.out
  clear HK2 HK3 HK4 HBe
  refine wp_region_any (by kernel_rfl) ?_
  refine wpAny_of_held (S := fun W' => Blk W' w.heap.size #[.bool neg, .slice A n cap] 92 ∧ Blk W' (w.heap.size + 1) #[.bool (!neg), .slice A' n' cap'] 92) _ _ _ _ ?_
  refine wpAnyH_take (i := 0) (v := .pointer (some ⟨w.heap.size, 0, none⟩)) rfl (by kernel_rfl) (by kernel_rfl) (by kernel_rfl) (fun _ _ _ h => h) (.inl ⟨rfl, fun w0 hw0 => ?a0⟩) hS ?_
  case a0 =>
    obtain ⟨g2, g3⟩ := hw0; have e0 := g2.c0; have e1 := g2.c1; have e2 := g3.c0; have e3 := g3.c1
    go_simp
  refine wpAnyH_take (i := 1) (v := .bool neg) rfl (by kernel_rfl) (by kernel_rfl) (by kernel_rfl) (fun _ _ _ h => h) (.inl ⟨rfl, fun w0 hw0 => ?a1⟩) hS ?_
  case a1 =>
    obtain ⟨g2, g3⟩ := hw0; have e0 := g2.c0; have e1 := g2.c1; have e2 := g3.c0; have e3 := g3.c1
    go_simp
  refine wpAnyH_take (i := 2) (v := .pointer (some ⟨w.heap.size, 1, none⟩)) rfl (by kernel_rfl) (by kernel_rfl) (by kernel_rfl) (fun _ _ _ h => h) (.inl ⟨rfl, fun w0 hw0 => ?a2⟩) hS ?_
  case a2 =>
    obtain ⟨g2, g3⟩ := hw0; have e0 := g2.c0; have e1 := g2.c1; have e2 := g3.c0; have e3 := g3.c1
    go_simp
  refine wpAnyH_take (i := 3) (v := .slice A n cap) rfl (by kernel_rfl) (by kernel_rfl) (by kernel_rfl) (fun _ _ _ h => h) (.inl ⟨rfl, fun w0 hw0 => ?a3⟩) hS ?_
  case a3 =>
    obtain ⟨g2, g3⟩ := hw0; have e0 := g2.c0; have e1 := g2.c1; have e2 := g3.c0; have e3 := g3.c1
    go_simp
  refine wpAnyH_take (i := 4) (v := .pointer (some ⟨w.heap.size + 1, 1, none⟩)) rfl (by kernel_rfl) (by kernel_rfl) (by kernel_rfl) (fun _ _ _ h => h) (.inl ⟨rfl, fun w0 hw0 => ?a4⟩) hS ?_
  case a4 =>
    obtain ⟨g2, g3⟩ := hw0; have e0 := g2.c0; have e1 := g2.c1; have e2 := g3.c0; have e3 := g3.c1
    go_simp
  refine wpAnyH_take (i := 5) (v := .slice A' n' cap') rfl (by kernel_rfl) (by kernel_rfl) (by kernel_rfl) (fun _ _ _ h => h) (.inl ⟨rfl, fun w0 hw0 => ?a5⟩) hS ?_
  case a5 =>
    obtain ⟨g2, g3⟩ := hw0; have e0 := g2.c0; have e1 := g2.c1; have e2 := g3.c0; have e3 := g3.c1
    go_simp
  refine wpAnyH_all (rs := [6]) (by kernel_rfl) (by simp) ?_
  intro i0 hi0
  obtain rfl : i0 = 6 := by simpa using hi0
  refine wpOp_plain rfl rfl fun K' hK' => ?_
  go_simp
  generalize w4.drew = w5 at *
  refine (minus_calls w5 A A' n n' cap cap' g h HG.out HH.out (by omega) (by omega) hge (HA.out.below hbe) (HB.out.below hbe)).mono ?_
  rintro e w6 ⟨b, o, rfl, hbo, hdo, hvo, hbb, hb6⟩
  have hS : Blk w6 w.heap.size #[.bool neg, .slice A n cap] 92 ∧ Blk w6 (w.heap.size + 1) #[.bool (!neg), .slice A' n' cap'] 92 := ⟨hS.1.below hb6, hS.2.below hb6⟩
  have hk4 := hk4.below hb6
  have hbe := hbe.trans (hb6.mono hbe.size)
  refine hK' _ _ ⟨hS, ?_⟩
  clear hK' K'
  refine wpAnyH_all (rs := [7]) (by kernel_rfl) (by simp) ?_
  intro i0 hi0
  obtain rfl : i0 = 7 := by simpa using hi0
  refine wpOp_plain rfl rfl fun K' hK' => ?_
  go_simp
  refine (made_calls w6 (neg) (some ⟨b, 0, none⟩) (n) (n) o hdo (Nat.le_refl _) (by omega) hbo.at).mono ?_
  rintro e w7 ⟨v, rfl, hwid, hb7⟩
  obtain ⟨neg2, A2, n2, cap2, rfl, hwd⟩ := hwid
  rw [hvo, show Num.sg neg * (Num.val g n - Num.val h n') = Num.sg neg * Num.val g n + Num.sg (!neg) * Num.val h n' from sg_not neg _ _] at hwd ⊢
  have hS : Blk w7 w.heap.size #[.bool neg, .slice A n cap] 92 ∧ Blk w7 (w.heap.size + 1) #[.bool (!neg), .slice A' n' cap'] 92 := ⟨hS.1.below hb7, hS.2.below hb7⟩
  have hk4 := hk4.below hb7
  have hbe := hbe.trans (hb7.mono hbe.size)
  refine hK' _ _ ⟨hS, ?_⟩
  clear hK' K'
  generalize Num.sg neg * Num.val g n + Num.sg (!neg) * Num.val h n' = x at *
  refine wpAnyH_take (i := 8) (v := .agg #[.bool neg2, .slice A2 n2 cap2]) rfl (by kernel_rfl) (by kernel_rfl) (by kernel_rfl) (fun _ _ _ h => h) (.inl ⟨rfl, fun w0 hw0 => ?a8⟩) hS ?_
  case a8 =>
    obtain ⟨g2, g3⟩ := hw0; have e0 := g2.c0; have e1 := g2.c1; have e2 := g3.c0; have e3 := g3.c1
    go_simp
  refine wpAnyH_take (i := 9) (v := .int .i64 (Num.ferr x)) rfl (by kernel_rfl) (by kernel_rfl) (by kernel_rfl) (fun _ _ _ h => h) (.inl ⟨rfl, fun w0 hw0 => ?a9⟩) hS ?_
  case a9 =>
    obtain ⟨g2, g3⟩ := hw0; have e0 := g2.c0; have e1 := g2.c1; have e2 := g3.c0; have e3 := g3.c1
    go_simp
  have f0 := hk4.c0
  have f1 := hk4.c1
  have f2 := hk4.fr 0
  have f3 := hk4.fr 1
  refine wpAnyH_all (rs := [10]) (by kernel_rfl) (by simp) ?_
  intro i0 hi0
  obtain rfl : i0 = 10 := by simpa using hi0
  refine wpOp_plain rfl rfl fun K' hK' => ?_
  go_simp
  have h8 := hk4.set2 (.bool neg2) (.slice A2 n2 cap2)
  have hwd8 := hwd.set2 hk4 (.bool neg2) (.slice A2 n2 cap2)
  have hbe8 := below_set2 hbe (w.heap.size + 1 + 1) (by omega) (.bool neg2) (.slice A2 n2 cap2)
  have hS : Blk ((w7.setCell ⟨w.heap.size + 1 + 1, 0, none⟩ (.bool neg2)).setCell ⟨w.heap.size + 1 + 1, 1, none⟩ (.slice A2 n2 cap2)) w.heap.size #[.bool neg, .slice A n cap] 92 ∧ Blk ((w7.setCell ⟨w.heap.size + 1 + 1, 0, none⟩ (.bool neg2)).setCell ⟨w.heap.size + 1 + 1, 1, none⟩ (.slice A2 n2 cap2)) (w.heap.size + 1) #[.bool (!neg), .slice A' n' cap'] 92 := ⟨hS.1.far2 _ _ _ (by omega), hS.2.far2 _ _ _ (by omega)⟩
  clear hbe hwd hk4 f0 f1 f2 f3
  generalize (w7.setCell ⟨w.heap.size + 1 + 1, 0, none⟩ (.bool neg2)).setCell ⟨w.heap.size + 1 + 1, 1, none⟩ (.slice A2 n2 cap2) = w8 at *
  refine hK' _ _ ⟨hS, ?_⟩
  clear hK' K'
  refine wpAnyH_take (i := 11) (v := .int .i64 (Num.ferr x)) rfl (by kernel_rfl) (by kernel_rfl) (by kernel_rfl) (fun _ _ _ h => h) (.inl ⟨rfl, fun w0 hw0 => ?a11⟩) hS ?_
  case a11 =>
    obtain ⟨g2, g3⟩ := hw0; have e0 := g2.c0; have e1 := g2.c1; have e2 := g3.c0; have e3 := g3.c1
    go_simp
  refine wpAnyH_done (by kernel_rfl) ?_ _
  have r0 := h8.c0
  have r1 := h8.c1
  have HW8 := Lib.hid hwd8
  have HBe8 := Lib.hid hbe8
  clear hS hwd8 hbe8 h8
  go_wp2
  refine bodyPost_ret (v := .tuple #[.agg #[.bool neg2, .slice A2 n2 cap2], .int .i64 (Num.ferr x)]) (by simp [results, Tryz.results101, go_sem, r0, r1]) rfl ?_
  exact ⟨_, rfl, ⟨neg2, A2, n2, cap2, rfl, HW8.out⟩, HBe8.out⟩

set_option maxRecDepth 100000 in
set_option maxHeartbeats 1000000 in
theorem add_less (w : World) (neg : Bool) (A A' : Option Addr) (n n' cap cap' : Nat) (g h : Nat → Int) (hn : n ≤ 4096) (hn' : n' ≤ 4096) (hdg : Num.Dig g n) (hdh : Num.Dig h n') (tg : Num.Trim g n) (th : Num.Trim h n') (ha : At w A g n) (hb : At w A' h n') (hlt : Num.val g n < Num.val h n') :
    Calls Tryz.prog 101 #[.agg #[.bool neg, .slice A n cap], .agg #[.bool (!neg), .slice A' n' cap']] w (NumPost (Num.sg neg * Num.val g n + Num.sg (!neg) * Num.val h n') w) := by
  have hl := Num.len_le hdg tg hdh (Int.le_of_lt hlt)
  have hcm : ¬ 0 ≤ cmpZ (Num.val g n) (Num.val h n') := by
    unfold cmpZ
    rw [if_pos hlt]
    omega
  have k2 := (((Blk.new w #[.bool neg, .slice A n cap] 92).alloc (.cells #[.bool (!neg), .slice A' n' cap'] 92)).alloc (.cells #[.bool false, .slice none 0 0] 92))
  have k3 := ((Blk.new (w.alloc (.cells #[.bool neg, .slice A n cap] 92)) #[.bool (!neg), .slice A' n' cap'] 92).alloc (.cells #[.bool false, .slice none 0 0] 92))
  have k4 := Blk.new ((w.alloc (.cells #[.bool neg, .slice A n cap] 92)).alloc (.cells #[.bool (!neg), .slice A' n' cap'] 92)) #[.bool false, .slice none 0 0] 92
  have hb0 := (((Below.refl w.heap.size w).alloc (Nat.le_refl _) (.cells #[.bool neg, .slice A n cap] 92)).alloc (by simp) (.cells #[.bool (!neg), .slice A' n' cap'] 92)).alloc (by simp; omega) (.cells #[.bool false, .slice none 0 0] 92)
  simp only [World.size_alloc] at k2 k3 k4
  have K2 := Lib.hid k2
  have K3 := Lib.hid k3
  have K4 := Lib.hid k4
  have HB0 := Lib.hid hb0
  have HA := Lib.hid ha
  have HB := Lib.hid hb
  have HG := Lib.hid hdg
  have HH := Lib.hid hdh
  have HTG := Lib.hid tg
  have HTH := Lib.hid th
  clear k2 k3 k4 hb0 ha hb hdg hdh tg th
  go_enter Tryz.func101, Tryz.ntmps101
  go_wp2_with (go_at_call 145; refine (compare_calls _ A A' n n' cap cap' g h (by omega) (by omega) (HA.out.below HB0.out) (HB.out.below HB0.out) HG.out HH.out HTG.out HTH.out).mono ?_; rintro e w4 ⟨rfl, hb4⟩; have hk2 := K2.out.below hb4; have hk3 := K3.out.below hb4; have hk4 := K4.out.below hb4; have hb := HB0.out.trans (hb4.mono (by (simp; omega))); have c20 := hk2.c0; have c30 := hk3.c0; have HK2 := Lib.hid hk2; have HK3 := Lib.hid hk3; have HK4 := Lib.hid hk4; have HBe := Lib.hid hb; clear hk2 hk3 hk4 hb hb4 K2 K3 K4 HB0)
  clear c20 c30
  have hS : Blk w4.drew w.heap.size #[.bool neg, .slice A n cap] 92 ∧ Blk w4.drew (w.heap.size + 1) #[.bool (!neg), .slice A' n' cap'] 92 := ⟨HK2.out, HK3.out⟩
  have hbe : Below w.heap.size w w4.drew := below_drewN HBe.out 1
  have hk4 : Blk w4.drew (w.heap.size + 1 + 1) #[.bool false, .slice none 0 0] 92 := HK4.out
  clear HK2 HK3 HK4 HBe
  refine wp_region_any (by kernel_rfl) ?_
  refine wpAny_of_held (S := fun W' => Blk W' w.heap.size #[.bool neg, .slice A n cap] 92 ∧ Blk W' (w.heap.size + 1) #[.bool (!neg), .slice A' n' cap'] 92) _ _ _ _ ?_
  refine wpAnyH_take (i := 0) (v := .pointer (some ⟨w.heap.size + 1, 0, none⟩)) rfl (by kernel_rfl) (by kernel_rfl) (by kernel_rfl) (fun _ _ _ h => h) (.inl ⟨rfl, fun w0 hw0 => ?a0⟩) hS ?_
  case a0 =>
    obtain ⟨g2, g3⟩ := hw0; have e0 := g2.c0; have e1 := g2.c1; have e2 := g3.c0; have e3 := g3.c1
    go_simp
  refine wpAnyH_take (i := 1) (v := .bool (!neg)) rfl (by kernel_rfl) (by kernel_rfl) (by kernel_rfl) (fun _ _ _ h => h) (.inl ⟨rfl, fun w0 hw0 => ?a1⟩) hS ?_
  case a1 =>
    obtain ⟨g2, g3⟩ := hw0; have e0 := g2.c0; have e1 := g2.c1; have e2 := g3.c0; have e3 := g3.c1
    go_simp
  refine wpAnyH_take (i := 2) (v := .pointer (some ⟨w.heap.size + 1, 1, none⟩)) rfl (by kernel_rfl) (by kernel_rfl) (by kernel_rfl) (fun _ _ _ h => h) (.inl ⟨rfl, fun w0 hw0 => ?a2⟩) hS ?_
  case a2 =>
    obtain ⟨g2, g3⟩ := hw0; have e0 := g2.c0; have e1 := g2.c1; have e2 := g3.c0; have e3 := g3.c1
    go_simp
  refine wpAnyH_take (i := 3) (v := .slice A' n' cap') rfl (by kernel_rfl) (by kernel_rfl) (by kernel_rfl) (fun _ _ _ h => h) (.inl ⟨rfl, fun w0 hw0 => ?a3⟩) hS ?_
  case a3 =>
    obtain ⟨g2, g3⟩ := hw0; have e0 := g2.c0; have e1 := g2.c1; have e2 := g3.c0; have e3 := g3.c1
    go_simp
  refine wpAnyH_take (i := 4) (v := .pointer (some ⟨w.heap.size, 1, none⟩)) rfl (by kernel_rfl) (by kernel_rfl) (by kernel_rfl) (fun _ _ _ h => h) (.inl ⟨rfl, fun w0 hw0 => ?a4⟩) hS ?_
  case a4 =>
    obtain ⟨g2, g3⟩ := hw0; have e0 := g2.c0; have e1 := g2.c1; have e2 := g3.c0; have e3 := g3.c1
    go_simp
  refine wpAnyH_take (i := 5) (v := .slice A n cap) rfl (by kernel_rfl) (by kernel_rfl) (by kernel_rfl) (fun _ _ _ h => h) (.inl ⟨rfl, fun w0 hw0 => ?a5⟩) hS ?_
  case a5 =>
    obtain ⟨g2, g3⟩ := hw0; have e0 := g2.c0; have e1 := g2.c1; have e2 := g3.c0; have e3 := g3.c1
    go_simp
  refine wpAnyH_all (rs := [6]) (by kernel_rfl) (by simp) ?_
  intro i0 hi0
  obtain rfl : i0 = 6 := by simpa using hi0
  refine wpOp_plain rfl rfl fun K' hK' => ?_
  go_simp
  generalize w4.drew = w5 at *
  refine (minus_calls w5 A' A n' n cap' cap h g HH.out HG.out (by omega) (by omega) (Int.le_of_lt hlt) (HB.out.below hbe) (HA.out.below hbe)).mono ?_
  rintro e w6 ⟨b, o, rfl, hbo, hdo, hvo, hbb, hb6⟩
  have hS : Blk w6 w.heap.size #[.bool neg, .slice A n cap] 92 ∧ Blk w6 (w.heap.size + 1) #[.bool (!neg), .slice A' n' cap'] 92 := ⟨hS.1.below hb6, hS.2.below hb6⟩
  have hk4 := hk4.below hb6
  have hbe := hbe.trans (hb6.mono hbe.size)
  refine hK' _ _ ⟨hS, ?_⟩
  clear hK' K'
  refine wpAnyH_all (rs := [7]) (by kernel_rfl) (by simp) ?_
  intro i0 hi0
  obtain rfl : i0 = 7 := by simpa using hi0
  refine wpOp_plain rfl rfl fun K' hK' => ?_
  go_simp
  refine (made_calls w6 ((!neg)) (some ⟨b, 0, none⟩) (n') (n') o hdo (Nat.le_refl _) (by omega) hbo.at).mono ?_
  rintro e w7 ⟨v, rfl, hwid, hb7⟩
  obtain ⟨neg2, A2, n2, cap2, rfl, hwd⟩ := hwid
  rw [hvo, show Num.sg (!neg) * (Num.val h n' - Num.val g n) = Num.sg neg * Num.val g n + Num.sg (!neg) * Num.val h n' from sg_not' neg _ _] at hwd ⊢
  have hS : Blk w7 w.heap.size #[.bool neg, .slice A n cap] 92 ∧ Blk w7 (w.heap.size + 1) #[.bool (!neg), .slice A' n' cap'] 92 := ⟨hS.1.below hb7, hS.2.below hb7⟩
  have hk4 := hk4.below hb7
  have hbe := hbe.trans (hb7.mono hbe.size)
  refine hK' _ _ ⟨hS, ?_⟩
  clear hK' K'
  generalize Num.sg neg * Num.val g n + Num.sg (!neg) * Num.val h n' = x at *
  refine wpAnyH_take (i := 8) (v := .agg #[.bool neg2, .slice A2 n2 cap2]) rfl (by kernel_rfl) (by kernel_rfl) (by kernel_rfl) (fun _ _ _ h => h) (.inl ⟨rfl, fun w0 hw0 => ?a8⟩) hS ?_
  case a8 =>
    obtain ⟨g2, g3⟩ := hw0; have e0 := g2.c0; have e1 := g2.c1; have e2 := g3.c0; have e3 := g3.c1
    go_simp
  refine wpAnyH_take (i := 9) (v := .int .i64 (Num.ferr x)) rfl (by kernel_rfl) (by kernel_rfl) (by kernel_rfl) (fun _ _ _ h => h) (.inl ⟨rfl, fun w0 hw0 => ?a9⟩) hS ?_
  case a9 =>
    obtain ⟨g2, g3⟩ := hw0; have e0 := g2.c0; have e1 := g2.c1; have e2 := g3.c0; have e3 := g3.c1
    go_simp
  have f0 := hk4.c0
  have f1 := hk4.c1
  have f2 := hk4.fr 0
  have f3 := hk4.fr 1
  refine wpAnyH_all (rs := [10]) (by kernel_rfl) (by simp) ?_
  intro i0 hi0
  obtain rfl : i0 = 10 := by simpa using hi0
  refine wpOp_plain rfl rfl fun K' hK' => ?_
  go_simp
  have h8 := hk4.set2 (.bool neg2) (.slice A2 n2 cap2)
  have hwd8 := hwd.set2 hk4 (.bool neg2) (.slice A2 n2 cap2)
  have hbe8 := below_set2 hbe (w.heap.size + 1 + 1) (by omega) (.bool neg2) (.slice A2 n2 cap2)
  have hS : Blk ((w7.setCell ⟨w.heap.size + 1 + 1, 0, none⟩ (.bool neg2)).setCell ⟨w.heap.size + 1 + 1, 1, none⟩ (.slice A2 n2 cap2)) w.heap.size #[.bool neg, .slice A n cap] 92 ∧ Blk ((w7.setCell ⟨w.heap.size + 1 + 1, 0, none⟩ (.bool neg2)).setCell ⟨w.heap.size + 1 + 1, 1, none⟩ (.slice A2 n2 cap2)) (w.heap.size + 1) #[.bool (!neg), .slice A' n' cap'] 92 := ⟨hS.1.far2 _ _ _ (by omega), hS.2.far2 _ _ _ (by omega)⟩
  clear hbe hwd hk4 f0 f1 f2 f3
  generalize (w7.setCell ⟨w.heap.size + 1 + 1, 0, none⟩ (.bool neg2)).setCell ⟨w.heap.size + 1 + 1, 1, none⟩ (.slice A2 n2 cap2) = w8 at *
  refine hK' _ _ ⟨hS, ?_⟩
  clear hK' K'
  refine wpAnyH_take (i := 11) (v := .int .i64 (Num.ferr x)) rfl (by kernel_rfl) (by kernel_rfl) (by kernel_rfl) (fun _ _ _ h => h) (.inl ⟨rfl, fun w0 hw0 => ?a11⟩) hS ?_
  case a11 =>
    obtain ⟨g2, g3⟩ := hw0; have e0 := g2.c0; have e1 := g2.c1; have e2 := g3.c0; have e3 := g3.c1
    go_simp
  refine wpAnyH_done (by kernel_rfl) ?_ _
  have r0 := h8.c0
  have r1 := h8.c1
  have HW8 := Lib.hid hwd8
  have HBe8 := Lib.hid hbe8
  clear hS hwd8 hbe8 h8
  go_wp2
  refine bodyPost_ret (v := .tuple #[.agg #[.bool neg2, .slice A2 n2 cap2], .int .i64 (Num.ferr x)]) (by simp [results, Tryz.results101, go_sem, r0, r1]) rfl ?_
  exact ⟨_, rfl, ⟨neg2, A2, n2, cap2, rfl, HW8.out⟩, HBe8.out⟩

theorem add_any (w : World) (neg neg' : Bool) (A A' : Option Addr) (n n' cap cap' : Nat) (g h : Nat → Int) (hn : n ≤ 4096) (hn' : n' ≤ 4096) (hdg : Num.Dig g n) (hdh : Num.Dig h n') (tg : Num.Trim g n) (th : Num.Trim h n') (hag : At w A g n) (hah : At w A' h n') :
    Calls Tryz.prog 101 #[.agg #[.bool neg, .slice A n cap], .agg #[.bool neg', .slice A' n' cap']] w (NumPost (Num.sg neg * Num.val g n + Num.sg neg' * Num.val h n') w) := by
  by_cases e : neg' = neg
  · subst e
    exact add_same w neg' A A' n n' cap cap' g h hn hn' hdg hdh tg th hag hah
  · obtain rfl : neg' = !neg := by cases neg <;> cases neg' <;> simp_all
    rcases Int.lt_or_le (Num.val g n) (Num.val h n') with hlt | hge
    · exact add_less w neg A A' n n' cap cap' g h hn hn' hdg hdh tg th hag hah hlt
    · exact add_more w neg A A' n n' cap cap' g h hn hn' hdg hdh tg th hag hah hge

end Go.Proofs.YtilaheplclaokaaGreatDoor

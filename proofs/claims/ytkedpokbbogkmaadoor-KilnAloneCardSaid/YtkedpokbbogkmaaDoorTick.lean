/-
  The contract of moist.Tick.
-/
import Derived.Test.YtkedpokbbogkmaaDoorMoist
import Derived.Test.YtkedpokbbogkmaaDoorWLast
namespace Go.Proofs.YtkedpokbbogkmaaDoor
open Go.RowKit Go.Proofs.YtkedpokbbogkmaaDoorW.PrintLast

def surfZ (a fast t d : Int) (fan : Bool) : Int := if fan = true then towardZ a (Pl.emcZ t d) (clampZ (fast * t / 200) 1 10000) else a
def coreZ (b a' slow t thick : Int) : Int := towardZ b a' (clampZ (slow * t * 25 / (200 * thick)) 1 10000)
def strZ (s a' b' safe : Int) : Int := if s + (if 0 ≤ b' - a' - safe then b' - a' - safe else 0) ≤ 1099511627776 then s + (if 0 ≤ b' - a' - safe then b' - a' - safe else 0) else 1099511627776

theorem setO {w : World} {p a : Addr} {u v : Value} (hn : p ≠ a) (h : w.cell? a = some v) : (w.setCell p u).cell? a = some v := (World.cell?_setCell_other w p a u hn).trans h
theorem keepB {w w' : World} {a : Addr} {v : Value} (hb : Below w.heap.size w w') (h : w.cell? a = some v) : w'.cell? a = some v := (hb.cell (World.block_lt_of_cell? w a h)).trans h
set_option maxHeartbeats 4000000 in
set_option maxRecDepth 100000 in
theorem tick_no (a b s : Int) (n : ByteArray) (a0 a1 a2 a3 a4 a5 a6 a7 a8 a9 a10 a11 thick t d : Int) (fan : Bool) (w : World) (hc : ¬ Comp a b s a1 a2 a3 thick t d) :
    Calls Tryd.prog 50 #[.agg #[.int .i64 a, .int .i64 b, .int .i64 s], .agg #[.string n, .int .i64 a0, .int .i64 a1, .int .i64 a2, .int .i64 a3, .int .i64 a4, .int .i64 a5, .int .i64 a6, .int .i64 a7, .int .i64 a8, .int .i64 a9, .int .i64 a10, .int .i64 a11], .int .i64 thick, .agg #[.int .i64 t, .int .i64 d], .bool fan] w fun e w' => e = .returned (.agg #[.int .i64 a, .int .i64 b, .int .i64 s]) ∧ Below w.heap.size w w' := by
  have hcb : compB a b s a1 a2 a3 thick t d = false := decide_eq_false hc
  have HC := Lib.hid hcb
  have hb := (((below_new w (.cells #[.int .i64 a, .int .i64 b, .int .i64 s] 51)).alloc (by simp) (.cells #[.string n, .int .i64 a0, .int .i64 a1, .int .i64 a2, .int .i64 a3, .int .i64 a4, .int .i64 a5, .int .i64 a6, .int .i64 a7, .int .i64 a8, .int .i64 a9, .int .i64 a10, .int .i64 a11] 26)).alloc (by simp; omega) (.cells #[.int .i64 t, .int .i64 d] 37)).alloc (by simp; omega) (.cells #[.int .i64 0, .int .i64 0, .int .i64 0] 51)
  have hk0 : Blk ((((w.alloc (.cells #[.int .i64 a, .int .i64 b, .int .i64 s] 51)).alloc (.cells #[.string n, .int .i64 a0, .int .i64 a1, .int .i64 a2, .int .i64 a3, .int .i64 a4, .int .i64 a5, .int .i64 a6, .int .i64 a7, .int .i64 a8, .int .i64 a9, .int .i64 a10, .int .i64 a11] 26)).alloc (.cells #[.int .i64 t, .int .i64 d] 37)).alloc (.cells #[.int .i64 0, .int .i64 0, .int .i64 0] 51)) w.heap.size 51 #[.int .i64 a, .int .i64 b, .int .i64 s] := (((Blk.new w _ _).alloc _).alloc _).alloc _
  have hk3 : Blk ((((w.alloc (.cells #[.int .i64 a, .int .i64 b, .int .i64 s] 51)).alloc (.cells #[.string n, .int .i64 a0, .int .i64 a1, .int .i64 a2, .int .i64 a3, .int .i64 a4, .int .i64 a5, .int .i64 a6, .int .i64 a7, .int .i64 a8, .int .i64 a9, .int .i64 a10, .int .i64 a11] 26)).alloc (.cells #[.int .i64 t, .int .i64 d] 37)).alloc (.cells #[.int .i64 0, .int .i64 0, .int .i64 0] 51)) (w.heap.size + 3) 51 #[.int .i64 0, .int .i64 0, .int .i64 0] := by
    simpa using Blk.new (((w.alloc (.cells #[.int .i64 a, .int .i64 b, .int .i64 s] 51)).alloc (.cells #[.string n, .int .i64 a0, .int .i64 a1, .int .i64 a2, .int .i64 a3, .int .i64 a4, .int .i64 a5, .int .i64 a6, .int .i64 a7, .int .i64 a8, .int .i64 a9, .int .i64 a10, .int .i64 a11] 26)).alloc (.cells #[.int .i64 t, .int .i64 d] 37)) 51 #[.int .i64 0, .int .i64 0, .int .i64 0]
  have HB := Lib.hid hb
  have HK0 := Lib.hid hk0
  have HK3 := Lib.hid hk3
  clear hb hk0 hk3 hcb hc
  go_enter Tryd.func50, Tryd.ntmps50
  go_wp2_with fail
  refine (comp_any _ _ _ _ _ _ _ _ _ _ _ _ _ _ _ _ _ _ _ _).mono ?_
  rintro e w1 ⟨rfl, hb1⟩
  have hk0 := HK0.out.below hb1 HK0.out.lt
  have hk3 := HK3.out.below hb1 HK3.out.lt
  have c0 : w1.cell? ⟨w.heap.size, 0, none⟩ = some (.int .i64 a) := hk0.cell 0
  have c1 : w1.cell? ⟨w.heap.size, 1, none⟩ = some (.int .i64 b) := hk0.cell 1
  have c2 : w1.cell? ⟨w.heap.size, 2, none⟩ = some (.int .i64 s) := hk0.cell 2
  have r0 : w1.cell? ⟨w.heap.size + 3, 0, none⟩ = some (.int .i64 0) := hk3.cell 0
  have r1 : w1.cell? ⟨w.heap.size + 3, 1, none⟩ = some (.int .i64 0) := hk3.cell 1
  have r2 : w1.cell? ⟨w.heap.size + 3, 2, none⟩ = some (.int .i64 0) := hk3.cell 2
  have f0 := hk3.frozen 0
  have f1 := hk3.frozen 1
  have f2 := hk3.frozen 2
  have HR := Lib.hid hk3
  have HF := Lib.hid (HB.out.trans (hb1.mono (by simp; omega)))
  clear hb1 hk0 hk3
  rw [HC.out]
  go_wp2
  have hf : Blk (((w1.setCell ⟨w.heap.size + 3, 0, none⟩ (.int .i64 a)).setCell ⟨w.heap.size + 3, 1, none⟩ (.int .i64 b)).setCell ⟨w.heap.size + 3, 2, none⟩ (.int .i64 s)) (w.heap.size + 3) 51 #[.int .i64 a, .int .i64 b, .int .i64 s] := by
    simpa using ((HR.out.set_ 0 (.int .i64 a)).set_ 1 (.int .i64 b)).set_ 2 (.int .i64 s)
  refine bodyPost_ret (results_cell_row Tryd.results50 _ _ (w.heap.size + 3) 51 _ (0, 0) _ rfl hf Tryd.underlying51 rfl (by kernel_rfl)) rfl ⟨rfl, ?_⟩
  exact ((HF.out.setCell (by simp; omega) _).setCell (by simp; omega) _).setCell (by simp; omega) _

theorem toward_b (a b k : Int) (w : World) (ha : 0 ≤ a) (ha' : a ≤ 1000000) (hb : 0 ≤ b) (hb' : b ≤ 1000000) (hk : 1 ≤ k) (hk' : k ≤ 10000) :
    Calls Tryd.prog 57 #[.int .i64 a, .int .i64 b, .int .i64 k] w fun e w' => e = .returned (.int .i64 (towardZ a b k)) ∧ Below w.heap.size w w' :=
  (toward_any a b k w ha ha' hb hb' hk hk').mono fun _ _ ⟨h1, n, h2⟩ => ⟨h1, by rw [h2]; exact bDrewN (Below.refl _ _) n⟩
theorem ret_cell {x y z x' y' z' : Int} (hx : x = x') (hy : y = y') (hz : z = z') : Ending.returned (.agg #[.int .i64 x, .int .i64 y, .int .i64 z]) = .returned (.agg #[.int .i64 x', .int .i64 y', .int .i64 z']) := by rw [hx, hy, hz]
/-- The numbers of a tick that can be computed, for the walk's arithmetic. -/
structure Nums (a b s fast slow safe thick t d : Int) : Prop where
  c : 0 ≤ a ∧ a ≤ 20000 ∧ 0 ≤ b ∧ b ≤ 20000 ∧ 0 ≤ s ∧ s ≤ 1099511627776
  e : 0 ≤ t ∧ t ≤ 1200 ∧ 0 ≤ d ∧ d ≤ 400
  p : 1 ≤ fast ∧ fast ≤ 10000 ∧ 1 ≤ slow ∧ slow ≤ 10000 ∧ 0 ≤ safe ∧ safe ≤ 20000 ∧ 1 ≤ thick ∧ thick ≤ 600
theorem Comp.nums {a b s fast slow safe thick t d : Int} (h : Comp a b s fast slow safe thick t d) : Nums a b s fast slow safe thick t d := by
  obtain ⟨h1, h2, h3⟩ := h
  refine ⟨chkZ_ok.1 h1, ?_, h3⟩
  unfold airZ at h2
  split at h2
  · assumption
  · omega

set_option maxHeartbeats 4000000 in
set_option maxRecDepth 100000 in
theorem tick_still (a b s : Int) (n : ByteArray) (a0 a1 a2 a3 a4 a5 a6 a7 a8 a9 a10 a11 thick t d : Int) (w : World) (hc : Comp a b s a1 a2 a3 thick t d) :
    Calls Tryd.prog 50 #[.agg #[.int .i64 a, .int .i64 b, .int .i64 s], .agg #[.string n, .int .i64 a0, .int .i64 a1, .int .i64 a2, .int .i64 a3, .int .i64 a4, .int .i64 a5, .int .i64 a6, .int .i64 a7, .int .i64 a8, .int .i64 a9, .int .i64 a10, .int .i64 a11], .int .i64 thick, .agg #[.int .i64 t, .int .i64 d], .bool false] w fun e w' => e = .returned (.agg #[.int .i64 a, .int .i64 (coreZ b a a2 t thick), .int .i64 (strZ s a (coreZ b a a2 t thick) a3)]) ∧ Below w.heap.size w w' := by
  have hcb : compB a b s a1 a2 a3 thick t d = true := decide_eq_true hc
  have HC := Lib.hid hcb
  obtain ⟨hn1, hn2, hn3⟩ := hc.nums
  have hb := (((below_new w (.cells #[.int .i64 a, .int .i64 b, .int .i64 s] 51)).alloc (by simp) (.cells #[.string n, .int .i64 a0, .int .i64 a1, .int .i64 a2, .int .i64 a3, .int .i64 a4, .int .i64 a5, .int .i64 a6, .int .i64 a7, .int .i64 a8, .int .i64 a9, .int .i64 a10, .int .i64 a11] 26)).alloc (by simp; omega) (.cells #[.int .i64 t, .int .i64 d] 37)).alloc (by simp; omega) (.cells #[.int .i64 0, .int .i64 0, .int .i64 0] 51)
  have hk0 : Blk (((((w.alloc (.cells #[.int .i64 a, .int .i64 b, .int .i64 s] 51)).alloc (.cells #[.string n, .int .i64 a0, .int .i64 a1, .int .i64 a2, .int .i64 a3, .int .i64 a4, .int .i64 a5, .int .i64 a6, .int .i64 a7, .int .i64 a8, .int .i64 a9, .int .i64 a10, .int .i64 a11] 26)).alloc (.cells #[.int .i64 t, .int .i64 d] 37)).alloc (.cells #[.int .i64 0, .int .i64 0, .int .i64 0] 51))) w.heap.size 51 #[.int .i64 a, .int .i64 b, .int .i64 s] := (((Blk.new w _ _).alloc _).alloc _).alloc _
  have hk1 : Blk (((((w.alloc (.cells #[.int .i64 a, .int .i64 b, .int .i64 s] 51)).alloc (.cells #[.string n, .int .i64 a0, .int .i64 a1, .int .i64 a2, .int .i64 a3, .int .i64 a4, .int .i64 a5, .int .i64 a6, .int .i64 a7, .int .i64 a8, .int .i64 a9, .int .i64 a10, .int .i64 a11] 26)).alloc (.cells #[.int .i64 t, .int .i64 d] 37)).alloc (.cells #[.int .i64 0, .int .i64 0, .int .i64 0] 51))) (w.heap.size + 1) 26 #[.string n, .int .i64 a0, .int .i64 a1, .int .i64 a2, .int .i64 a3, .int .i64 a4, .int .i64 a5, .int .i64 a6, .int .i64 a7, .int .i64 a8, .int .i64 a9, .int .i64 a10, .int .i64 a11] := by
    simpa using ((Blk.new (w.alloc (.cells #[.int .i64 a, .int .i64 b, .int .i64 s] 51)) 26 #[.string n, .int .i64 a0, .int .i64 a1, .int .i64 a2, .int .i64 a3, .int .i64 a4, .int .i64 a5, .int .i64 a6, .int .i64 a7, .int .i64 a8, .int .i64 a9, .int .i64 a10, .int .i64 a11]).alloc (.cells #[.int .i64 t, .int .i64 d] 37)).alloc (.cells #[.int .i64 0, .int .i64 0, .int .i64 0] 51)
  have hk2 : Blk (((((w.alloc (.cells #[.int .i64 a, .int .i64 b, .int .i64 s] 51)).alloc (.cells #[.string n, .int .i64 a0, .int .i64 a1, .int .i64 a2, .int .i64 a3, .int .i64 a4, .int .i64 a5, .int .i64 a6, .int .i64 a7, .int .i64 a8, .int .i64 a9, .int .i64 a10, .int .i64 a11] 26)).alloc (.cells #[.int .i64 t, .int .i64 d] 37)).alloc (.cells #[.int .i64 0, .int .i64 0, .int .i64 0] 51))) (w.heap.size + 2) 37 #[.int .i64 t, .int .i64 d] := by
    simpa using (Blk.new ((w.alloc (.cells #[.int .i64 a, .int .i64 b, .int .i64 s] 51)).alloc (.cells #[.string n, .int .i64 a0, .int .i64 a1, .int .i64 a2, .int .i64 a3, .int .i64 a4, .int .i64 a5, .int .i64 a6, .int .i64 a7, .int .i64 a8, .int .i64 a9, .int .i64 a10, .int .i64 a11] 26)) 37 #[.int .i64 t, .int .i64 d]).alloc (.cells #[.int .i64 0, .int .i64 0, .int .i64 0] 51)
  have hk3 : Blk (((((w.alloc (.cells #[.int .i64 a, .int .i64 b, .int .i64 s] 51)).alloc (.cells #[.string n, .int .i64 a0, .int .i64 a1, .int .i64 a2, .int .i64 a3, .int .i64 a4, .int .i64 a5, .int .i64 a6, .int .i64 a7, .int .i64 a8, .int .i64 a9, .int .i64 a10, .int .i64 a11] 26)).alloc (.cells #[.int .i64 t, .int .i64 d] 37)).alloc (.cells #[.int .i64 0, .int .i64 0, .int .i64 0] 51))) (w.heap.size + 3) 51 #[.int .i64 0, .int .i64 0, .int .i64 0] := by
    simpa using Blk.new (((w.alloc (.cells #[.int .i64 a, .int .i64 b, .int .i64 s] 51)).alloc (.cells #[.string n, .int .i64 a0, .int .i64 a1, .int .i64 a2, .int .i64 a3, .int .i64 a4, .int .i64 a5, .int .i64 a6, .int .i64 a7, .int .i64 a8, .int .i64 a9, .int .i64 a10, .int .i64 a11] 26)).alloc (.cells #[.int .i64 t, .int .i64 d] 37)) 51 #[.int .i64 0, .int .i64 0, .int .i64 0]
  have HB := Lib.hid hb
  have HK0 := Lib.hid hk0
  have HK1 := Lib.hid hk1
  have HK2 := Lib.hid hk2
  have HK3 := Lib.hid hk3
  clear hb hk0 hk1 hk2 hk3 hcb hc
  go_enter Tryd.func50, Tryd.ntmps50
  go_wp2_with fail
  refine (comp_any _ _ _ _ _ _ _ _ _ _ _ _ _ _ _ _ _ _ _ _).mono ?_
  rintro e w1 ⟨rfl, hb1⟩
  have hk0 := HK0.out.below hb1 HK0.out.lt
  have hk1 := HK1.out.below hb1 HK1.out.lt
  have hk2 := HK2.out.below hb1 HK2.out.lt
  have hk3 := HK3.out.below hb1 HK3.out.lt
  have hz := hk3.lt
  have K0 := Lib.hid hk0
  have K1 := Lib.hid hk1
  have K2 := Lib.hid hk2
  have K3 := Lib.hid hk3
  have c0 : w1.cell? ⟨w.heap.size, 0, none⟩ = some (.int .i64 a) := hk0.cell 0
  have c1 : w1.cell? ⟨w.heap.size, 1, none⟩ = some (.int .i64 b) := hk0.cell 1
  have p3 : w1.cell? ⟨w.heap.size + 1, 3, none⟩ = some (.int .i64 a2) := hk1.cell 3
  have d0 : w1.cell? ⟨w.heap.size + 2, 0, none⟩ = some (.int .i64 t) := hk2.cell 0
  have HF := Lib.hid (HB.out.trans (hb1.mono (by simp; omega)))
  clear hb1 hk0 hk1 hk2 hk3 HK0 HK1 HK2 HK3
  rw [HC.out]
  have m0 : 0 ≤ a2 * t := Int.mul_nonneg (by omega) (by omega)
  have m1 : a2 * t ≤ 10000 * 1200 := Int.mul_le_mul (by omega) (by omega) (by omega) (by omega)
  have u1 : 0 ≤ a2 * t * 25 := by omega
  have u2 : a2 * t * 25 ≤ 9223372036854775807 := by omega
  have u3 : 1 ≤ 200 * thick := by omega
  have u4 : 200 * thick ≤ 9223372036854775807 := by omega
  have u5 := clampZ_bd (n := a2 * t * 25 / (200 * thick)) (lo := 1) (hi := 10000) (by omega)
  have h20a : a ≤ 1000000 := by omega
  have h20b : b ≤ 1000000 := by omega
  have s1 : IntKind.i64.wrap (a2 * t) = a2 * t := IntWalk.i64_in _ (by omega)
  have s2 : IntKind.i64.wrap (a2 * t * 25) = a2 * t * 25 := IntWalk.i64_in _ (by omega)
  have s3 : IntKind.i64.wrap (200 * thick) = 200 * thick := IntWalk.i64_in _ (by omega)
  have cd1 : w1.drew.cell? ⟨w.heap.size, 1, none⟩ = some (.int .i64 b) := c1
  go_wp2
  refine start_ (n := 16) (S := fun w' => w'.cell? ⟨w.heap.size, 0, none⟩ = some (.int .i64 a) ∧ w'.cell? ⟨w.heap.size, 1, none⟩ = some (.int .i64 b) ∧ w'.cell? ⟨w.heap.size + 1, 3, none⟩ = some (.int .i64 a2) ∧ w'.cell? ⟨w.heap.size + 2, 0, none⟩ = some (.int .i64 t)) (ds := [15]) #[false, false, false, false, false, false, false, false, false, false, false, false, false, false, false, false] (by kernel_rfl) rfl rfl ⟨c0, c1, p3, d0⟩ (fun hHeld => ?_)
  refine pure_ (i := 0) (N := some 35) (v := ?_) (a' := ?_) #[true, false, false, false, false, false, false, false, false, false, false, false, false, false, false, false] rfl rfl (by kernel_rfl) (fun _ _ _ h => h) (Or.inl ⟨by rfl, ?_⟩) ?_ ?_
  rotate_left
  · intro w'
    go_simp
    with_reducible rfl
  rotate_left
  · simp only [Act.put, List.setIfInBounds_toArray, List.set_cons_zero, List.set_cons_succ]
    rfl
  refine pure_ (i := 2) (N := some 37) (v := ?_) (a' := ?_) #[true, false, true, false, false, false, false, false, false, false, false, false, false, false, false, false] rfl rfl (by kernel_rfl) (fun _ _ _ h => h) (Or.inl ⟨by rfl, ?_⟩) ?_ ?_
  rotate_left
  · intro w'
    go_simp
    with_reducible rfl
  rotate_left
  · simp only [Act.put, List.setIfInBounds_toArray, List.set_cons_zero, List.set_cons_succ]
    rfl
  refine pure_ (i := 4) (N := some 39) (v := ?_) (a' := ?_) #[true, false, true, false, true, false, false, false, false, false, false, false, false, false, false, false] rfl rfl (by kernel_rfl) (fun _ _ _ h => h) (Or.inl ⟨by rfl, ?_⟩) ?_ ?_
  rotate_left
  · intro w'
    go_simp
    with_reducible rfl
  rotate_left
  · simp only [Act.put, List.setIfInBounds_toArray, List.set_cons_zero, List.set_cons_succ]
    rfl
  refine pure_ (i := 6) (N := some 41) (v := ?_) (a' := ?_) #[true, false, true, false, true, false, true, false, false, false, false, false, false, false, false, false] rfl rfl (by kernel_rfl) (fun _ _ _ h => h) (Or.inl ⟨by rfl, ?_⟩) ?_ ?_
  rotate_left
  · intro w'
    go_simp
    with_reducible rfl
  rotate_left
  · simp only [Act.put, List.setIfInBounds_toArray, List.set_cons_zero, List.set_cons_succ]
    rfl
  refine pure_ (i := 10) (N := some 45) (v := ?_) (a' := ?_) #[true, false, true, false, true, false, true, false, false, false, true, false, false, false, false, false] rfl rfl (by kernel_rfl) (fun _ _ _ h => h) (Or.inl ⟨by rfl, ?_⟩) ?_ ?_
  rotate_left
  · intro w'
    go_simp
    with_reducible rfl
  rotate_left
  · simp only [Act.put, List.setIfInBounds_toArray, List.set_cons_zero, List.set_cons_succ]
    rfl
  refine pure_ (i := 11) (N := some 46) (v := ?_) (a' := ?_) #[true, false, true, false, true, false, true, false, false, false, true, true, false, false, false, false] rfl rfl (by kernel_rfl) (fun _ _ _ h => h) (Or.inl ⟨by rfl, ?_⟩) ?_ ?_
  rotate_left
  · intro w'
    go_simp
    with_reducible rfl
  rotate_left
  · simp only [Act.put, List.setIfInBounds_toArray, List.set_cons_zero, List.set_cons_succ]
    rfl
  refine take_ (i := 1) (N := some 36) (v := ?_) (a' := ?_) #[true, true, true, false, true, false, true, false, false, false, true, true, false, false, false, false] rfl rfl (by kernel_rfl) (fun _ _ _ h => h) (Or.inl ⟨by rfl, ?_⟩) hHeld ?_ ?_
  rotate_left
  · rintro w' ⟨s0_, s1_, s2_, s3_⟩
    go_simp
    with_reducible rfl
  rotate_left
  · simp only [Act.put, List.setIfInBounds_toArray, List.set_cons_zero, List.set_cons_succ]
    rfl
  refine take_ (i := 3) (N := some 38) (v := ?_) (a' := ?_) #[true, true, true, true, true, false, true, false, false, false, true, true, false, false, false, false] rfl rfl (by kernel_rfl) (fun _ _ _ h => h) (Or.inl ⟨by rfl, ?_⟩) hHeld ?_ ?_
  rotate_left
  · rintro w' ⟨s0_, s1_, s2_, s3_⟩
    go_simp
    with_reducible rfl
  rotate_left
  · simp only [Act.put, List.setIfInBounds_toArray, List.set_cons_zero, List.set_cons_succ]
    rfl
  refine take_ (i := 5) (N := some 40) (v := ?_) (a' := ?_) #[true, true, true, true, true, true, true, false, false, false, true, true, false, false, false, false] rfl rfl (by kernel_rfl) (fun _ _ _ h => h) (Or.inl ⟨by rfl, ?_⟩) hHeld ?_ ?_
  rotate_left
  · rintro w' ⟨s0_, s1_, s2_, s3_⟩
    go_simp
    with_reducible rfl
  rotate_left
  · simp only [Act.put, List.setIfInBounds_toArray, List.set_cons_zero, List.set_cons_succ]
    rfl
  refine take_ (i := 7) (N := some 42) (v := ?_) (a' := ?_) #[true, true, true, true, true, true, true, true, false, false, true, true, false, false, false, false] rfl rfl (by kernel_rfl) (fun _ _ _ h => h) (Or.inl ⟨by rfl, ?_⟩) hHeld ?_ ?_
  rotate_left
  · rintro w' ⟨s0_, s1_, s2_, s3_⟩
    go_simp
    with_reducible rfl
  rotate_left
  · simp only [Act.put, List.setIfInBounds_toArray, List.set_cons_zero, List.set_cons_succ]
    rfl
  refine pure_ (i := 8) (N := some 43) (v := ?_) (a' := ?_) #[true, true, true, true, true, true, true, true, true, false, true, true, false, false, false, false] rfl rfl (by kernel_rfl) (fun _ _ _ h => h) (Or.inl ⟨by rfl, ?_⟩) ?_ ?_
  rotate_left
  · intro w'
    go_simp
    with_reducible rfl
  rotate_left
  · simp only [Act.put, List.setIfInBounds_toArray, List.set_cons_zero, List.set_cons_succ]
    rfl
  refine pure_ (i := 9) (N := some 44) (v := ?_) (a' := ?_) #[true, true, true, true, true, true, true, true, true, true, true, true, false, false, false, false] rfl rfl (by kernel_rfl) (fun _ _ _ h => h) (Or.inl ⟨by rfl, ?_⟩) ?_ ?_
  rotate_left
  · intro w'
    go_simp
    with_reducible rfl
  rotate_left
  · simp only [Act.put, List.setIfInBounds_toArray, List.set_cons_zero, List.set_cons_succ]
    rfl
  refine one_ (i := 12) (N := some 47) #[true, true, true, true, true, true, true, true, true, true, true, true, true, false, false, false] rfl rfl (by kernel_rfl) (by decide) (fun K hK => ?_)
  refine goes_ Tryd.func59 (by kernel_rfl) rfl #[.int .i64 (a2 * t * 25), .int .i64 (200 * thick)] (by rfl) rfl rfl (by (try simp only [List.map_toArray, List.map_cons, List.map_nil]); first | done | rfl) ?_
  with_reducible refine (speed_any _ _ _ u1 u2 u3 u4).mono ?_
  rintro e w2 ⟨rfl, hb2⟩
  refine ⟨_, rfl, ?_⟩
  refine hK.out _ _ ⟨keepD hb2 c0, keepD hb2 c1, keepD hb2 p3, keepD hb2 d0⟩ (fun hHeld => ?_)
  clear hK K
  refine norm_ (a' := ?_) ?_ ?_
  rotate_left
  · show Act.put _ (some 47) _ = _
    simp only [Act.put, List.setIfInBounds_toArray, List.set_cons_zero, List.set_cons_succ]
    rfl
  refine one_ (i := 13) (N := some 48) #[true, true, true, true, true, true, true, true, true, true, true, true, true, true, false, false] rfl rfl (by kernel_rfl) (by decide) (fun K hK => ?_)
  refine goes_ Tryd.func57 (by kernel_rfl) rfl #[.int .i64 b, .int .i64 a, .int .i64 (clampZ (a2 * t * 25 / (200 * thick)) 1 10000)] (by rfl) rfl rfl (by (try simp only [List.map_toArray, List.map_cons, List.map_nil]); first | done | rfl) ?_
  with_reducible refine (toward_b _ _ _ _ hn1.2.2.1 h20b hn1.1 h20a u5.1 u5.2).mono ?_
  rintro e w3 ⟨rfl, hb3⟩
  refine ⟨_, rfl, ?_⟩
  refine hK.out _ _ ⟨keepB hb3 (keepD hb2 c0), keepB hb3 (keepD hb2 c1), keepB hb3 (keepD hb2 p3), keepB hb3 (keepD hb2 d0)⟩ (fun hHeld => ?_)
  clear hK K
  refine norm_ (a' := ?_) ?_ ?_
  rotate_left
  · show Act.put _ (some 48) _ = _
    simp only [Act.put, List.setIfInBounds_toArray, List.set_cons_zero, List.set_cons_succ]
    rfl
  refine pure_ (i := 14) (N := some 49) (v := ?_) (a' := ?_) #[true, true, true, true, true, true, true, true, true, true, true, true, true, true, true, false] rfl rfl (by kernel_rfl) (fun _ _ _ h => h) (Or.inl ⟨by rfl, ?_⟩) ?_ ?_
  rotate_left
  · intro w'
    go_simp
    with_reducible rfl
  rotate_left
  · simp only [Act.put, List.setIfInBounds_toArray, List.set_cons_zero, List.set_cons_succ]
    rfl
  refine last_ (i := 15) (N := none) #[true, true, true, true, true, true, true, true, true, true, true, true, true, true, true, true] rfl rfl (by kernel_rfl) (by decide) (fun K hK => ?_)
  have K3' := (K0.out.drew.below hb2 (by simp; omega)).below hb3 (K0.out.drew.below hb2 (by simp; omega)).lt
  have e1 := keepB hb3 (keepD hb2 c1)
  have fz := K3'.frozen 1
  refine skip_ (w1 := ?_) (by rfl) rfl ?_ ?_
  rotate_left
  · go_simp
    rfl
  refine hK.out _ _ ?_
  clear hK K
  refine done_ (by kernel_rfl) ?_
  have yb := towardZ_bd b a (clampZ (a2 * t * 25 / (200 * thick)) 1 10000) u5.2
  have HY : Hid (coreZ b a a2 t thick = towardZ b a (clampZ (a2 * t * 25 / (200 * thick)) 1 10000)) := rfl
  generalize towardZ b a (clampZ (a2 * t * 25 / (200 * thick)) 1 10000) = y at yb HY ⊢
  have K4 : Blk (w3.setCell ⟨w.heap.size, 1, none⟩ (.int .i64 y)) w.heap.size 51 #[.int .i64 a, .int .i64 y, .int .i64 s] := by simpa using K3'.set_ 1 (.int .i64 y)
  have z2 := hb2.size
  have z3 := hb3.size
  have KS : Blk (w3.setCell ⟨w.heap.size, 1, none⟩ (.int .i64 y)) (w.heap.size + 1) 26 #[.string n, .int .i64 a0, .int .i64 a1, .int .i64 a2, .int .i64 a3, .int .i64 a4, .int .i64 a5, .int .i64 a6, .int .i64 a7, .int .i64 a8, .int .i64 a9, .int .i64 a10, .int .i64 a11] := ((K1.out.drew.below hb2 (by simp; omega)).below hb3 (K1.out.drew.below hb2 (by simp; omega)).lt).far (by simp) _
  have KR : Blk (w3.setCell ⟨w.heap.size, 1, none⟩ (.int .i64 y)) (w.heap.size + 3) 51 #[.int .i64 0, .int .i64 0, .int .i64 0] := ((K3.out.drew.below hb2 (by simp; omega)).below hb3 (K3.out.drew.below hb2 (by simp; omega)).lt).far (by simp) _
  have HF4 : Below w.heap.size w (w3.setCell ⟨w.heap.size, 1, none⟩ (.int .i64 y)) := ((bDrew HF.out).trans ((hb2.mono (by simp; omega)).trans (hb3.mono (by simp at z2; omega)))).setCell (by simp) _
  clear hb2 hb3 K3' e1 fz c0 c1 p3 d0 z2 z3 s1 s2 s3 u1 u2 u3 u4 u5 m0 m1 hHeld
  generalize w3.setCell ⟨w.heap.size, 1, none⟩ (.int .i64 y) = w4 at *
  have q0 : w4.cell? ⟨w.heap.size, 0, none⟩ = some (.int .i64 a) := K4.cell 0
  have q1 : w4.cell? ⟨w.heap.size, 1, none⟩ = some (.int .i64 y) := K4.cell 1
  have q2 : w4.cell? ⟨w.heap.size, 2, none⟩ = some (.int .i64 s) := K4.cell 2
  have p4 : w4.cell? ⟨w.heap.size + 1, 4, none⟩ = some (.int .i64 a3) := KS.cell 4
  have r0 : w4.cell? ⟨w.heap.size + 3, 0, none⟩ = some (.int .i64 0) := KR.cell 0
  have r1 : w4.cell? ⟨w.heap.size + 3, 1, none⟩ = some (.int .i64 0) := KR.cell 1
  have r2 : w4.cell? ⟨w.heap.size + 3, 2, none⟩ = some (.int .i64 0) := KR.cell 2
  have f2 := K4.frozen 2
  have g0 := KR.frozen 0
  have g1 := KR.frozen 1
  have g2 := KR.frozen 2
  have hKR := Lib.hid KR
  have hHF := Lib.hid HF4
  clear K4 KS KR HF4
  go_wp2
  all_goals
    refine bodyPost_ret (results_cell_row Tryd.results50 _ _ (w.heap.size + 3) 51 _ (0, 0) _ rfl ((((hKR.out.far (by simp) _).set_ 0 _).set_ 1 _).set_ 2 _) Tryd.underlying51 rfl (by kernel_rfl)) rfl ⟨?_, (((hHF.out.setCell (by simp) _).setCell (by simp; omega) _).setCell (by simp; omega) _).setCell (by simp; omega) _⟩
    exact ret_cell rfl HY.out.symm (by rw [HY.out]; unfold strZ; split <;> split <;> omega)

set_option maxHeartbeats 4000000 in
set_option maxRecDepth 100000 in
theorem tick_fan (a b s : Int) (n : ByteArray) (a0 a1 a2 a3 a4 a5 a6 a7 a8 a9 a10 a11 thick t d : Int) (w : World) (hG : Hid (Glob w)) (hc : Comp a b s a1 a2 a3 thick t d) :
    Calls Tryd.prog 50 #[.agg #[.int .i64 a, .int .i64 b, .int .i64 s], .agg #[.string n, .int .i64 a0, .int .i64 a1, .int .i64 a2, .int .i64 a3, .int .i64 a4, .int .i64 a5, .int .i64 a6, .int .i64 a7, .int .i64 a8, .int .i64 a9, .int .i64 a10, .int .i64 a11], .int .i64 thick, .agg #[.int .i64 t, .int .i64 d], .bool true] w fun e w' => e = .returned (.agg #[.int .i64 (surfZ a a1 t d true), .int .i64 (coreZ b (surfZ a a1 t d true) a2 t thick), .int .i64 (strZ s (surfZ a a1 t d true) (coreZ b (surfZ a a1 t d true) a2 t thick) a3)]) ∧ Below w.heap.size w w' := by
  have hcb : compB a b s a1 a2 a3 thick t d = true := decide_eq_true hc
  have HC := Lib.hid hcb
  obtain ⟨hn1, hn2, hn3⟩ := hc.nums
  have hb := (((below_new w (.cells #[.int .i64 a, .int .i64 b, .int .i64 s] 51)).alloc (by simp) (.cells #[.string n, .int .i64 a0, .int .i64 a1, .int .i64 a2, .int .i64 a3, .int .i64 a4, .int .i64 a5, .int .i64 a6, .int .i64 a7, .int .i64 a8, .int .i64 a9, .int .i64 a10, .int .i64 a11] 26)).alloc (by simp; omega) (.cells #[.int .i64 t, .int .i64 d] 37)).alloc (by simp; omega) (.cells #[.int .i64 0, .int .i64 0, .int .i64 0] 51)
  have hk0 : Blk (((((w.alloc (.cells #[.int .i64 a, .int .i64 b, .int .i64 s] 51)).alloc (.cells #[.string n, .int .i64 a0, .int .i64 a1, .int .i64 a2, .int .i64 a3, .int .i64 a4, .int .i64 a5, .int .i64 a6, .int .i64 a7, .int .i64 a8, .int .i64 a9, .int .i64 a10, .int .i64 a11] 26)).alloc (.cells #[.int .i64 t, .int .i64 d] 37)).alloc (.cells #[.int .i64 0, .int .i64 0, .int .i64 0] 51))) w.heap.size 51 #[.int .i64 a, .int .i64 b, .int .i64 s] := (((Blk.new w _ _).alloc _).alloc _).alloc _
  have hk1 : Blk (((((w.alloc (.cells #[.int .i64 a, .int .i64 b, .int .i64 s] 51)).alloc (.cells #[.string n, .int .i64 a0, .int .i64 a1, .int .i64 a2, .int .i64 a3, .int .i64 a4, .int .i64 a5, .int .i64 a6, .int .i64 a7, .int .i64 a8, .int .i64 a9, .int .i64 a10, .int .i64 a11] 26)).alloc (.cells #[.int .i64 t, .int .i64 d] 37)).alloc (.cells #[.int .i64 0, .int .i64 0, .int .i64 0] 51))) (w.heap.size + 1) 26 #[.string n, .int .i64 a0, .int .i64 a1, .int .i64 a2, .int .i64 a3, .int .i64 a4, .int .i64 a5, .int .i64 a6, .int .i64 a7, .int .i64 a8, .int .i64 a9, .int .i64 a10, .int .i64 a11] := by
    simpa using ((Blk.new (w.alloc (.cells #[.int .i64 a, .int .i64 b, .int .i64 s] 51)) 26 #[.string n, .int .i64 a0, .int .i64 a1, .int .i64 a2, .int .i64 a3, .int .i64 a4, .int .i64 a5, .int .i64 a6, .int .i64 a7, .int .i64 a8, .int .i64 a9, .int .i64 a10, .int .i64 a11]).alloc (.cells #[.int .i64 t, .int .i64 d] 37)).alloc (.cells #[.int .i64 0, .int .i64 0, .int .i64 0] 51)
  have hk2 : Blk (((((w.alloc (.cells #[.int .i64 a, .int .i64 b, .int .i64 s] 51)).alloc (.cells #[.string n, .int .i64 a0, .int .i64 a1, .int .i64 a2, .int .i64 a3, .int .i64 a4, .int .i64 a5, .int .i64 a6, .int .i64 a7, .int .i64 a8, .int .i64 a9, .int .i64 a10, .int .i64 a11] 26)).alloc (.cells #[.int .i64 t, .int .i64 d] 37)).alloc (.cells #[.int .i64 0, .int .i64 0, .int .i64 0] 51))) (w.heap.size + 2) 37 #[.int .i64 t, .int .i64 d] := by
    simpa using (Blk.new ((w.alloc (.cells #[.int .i64 a, .int .i64 b, .int .i64 s] 51)).alloc (.cells #[.string n, .int .i64 a0, .int .i64 a1, .int .i64 a2, .int .i64 a3, .int .i64 a4, .int .i64 a5, .int .i64 a6, .int .i64 a7, .int .i64 a8, .int .i64 a9, .int .i64 a10, .int .i64 a11] 26)) 37 #[.int .i64 t, .int .i64 d]).alloc (.cells #[.int .i64 0, .int .i64 0, .int .i64 0] 51)
  have hk3 : Blk (((((w.alloc (.cells #[.int .i64 a, .int .i64 b, .int .i64 s] 51)).alloc (.cells #[.string n, .int .i64 a0, .int .i64 a1, .int .i64 a2, .int .i64 a3, .int .i64 a4, .int .i64 a5, .int .i64 a6, .int .i64 a7, .int .i64 a8, .int .i64 a9, .int .i64 a10, .int .i64 a11] 26)).alloc (.cells #[.int .i64 t, .int .i64 d] 37)).alloc (.cells #[.int .i64 0, .int .i64 0, .int .i64 0] 51))) (w.heap.size + 3) 51 #[.int .i64 0, .int .i64 0, .int .i64 0] := by
    simpa using Blk.new (((w.alloc (.cells #[.int .i64 a, .int .i64 b, .int .i64 s] 51)).alloc (.cells #[.string n, .int .i64 a0, .int .i64 a1, .int .i64 a2, .int .i64 a3, .int .i64 a4, .int .i64 a5, .int .i64 a6, .int .i64 a7, .int .i64 a8, .int .i64 a9, .int .i64 a10, .int .i64 a11] 26)).alloc (.cells #[.int .i64 t, .int .i64 d] 37)) 51 #[.int .i64 0, .int .i64 0, .int .i64 0]
  have HB := Lib.hid hb
  have HK0 := Lib.hid hk0
  have HK1 := Lib.hid hk1
  have HK2 := Lib.hid hk2
  have HK3 := Lib.hid hk3
  clear hb hk0 hk1 hk2 hk3 hcb hc
  go_enter Tryd.func50, Tryd.ntmps50
  go_wp2_with fail
  refine (comp_any _ _ _ _ _ _ _ _ _ _ _ _ _ _ _ _ _ _ _ _).mono ?_
  rintro e w1 ⟨rfl, hb1⟩
  have hk0 := HK0.out.below hb1 HK0.out.lt
  have hk1 := HK1.out.below hb1 HK1.out.lt
  have hk2 := HK2.out.below hb1 HK2.out.lt
  have hk3 := HK3.out.below hb1 HK3.out.lt
  have hz := hk3.lt
  have K0 := Lib.hid hk0
  have K1 := Lib.hid hk1
  have K2 := Lib.hid hk2
  have K3 := Lib.hid hk3
  have c0 : w1.cell? ⟨w.heap.size, 0, none⟩ = some (.int .i64 a) := hk0.cell 0
  have c1 : w1.cell? ⟨w.heap.size, 1, none⟩ = some (.int .i64 b) := hk0.cell 1
  have p3 : w1.cell? ⟨w.heap.size + 1, 3, none⟩ = some (.int .i64 a2) := hk1.cell 3
  have d0 : w1.cell? ⟨w.heap.size + 2, 0, none⟩ = some (.int .i64 t) := hk2.cell 0
  have d1 : w1.cell? ⟨w.heap.size + 2, 1, none⟩ = some (.int .i64 d) := hk2.cell 1
  have p2 : w1.cell? ⟨w.heap.size + 1, 2, none⟩ = some (.int .i64 a1) := hk1.cell 2
  have HF := Lib.hid (HB.out.trans (hb1.mono (by simp; omega)))
  have HGw := Lib.hid ((hG.out.below HF.out).drew)
  clear hb1 hk0 hk1 hk2 hk3 HK0 HK1 HK2 HK3
  rw [HC.out]
  have v0 : 0 ≤ a1 * t := Int.mul_nonneg (by omega) (by omega)
  have v1 : a1 * t ≤ 10000 * 1200 := Int.mul_le_mul (by omega) (by omega) (by omega) (by omega)
  have v2 : a1 * t ≤ 9223372036854775807 := by omega
  have v5 := clampZ_bd (n := a1 * t / 200) (lo := 1) (hi := 10000) (by omega)
  have ve := Pl.emcZ_bd t d
  have ve0 : 0 ≤ Pl.emcZ t d := by omega
  have ve1 : Pl.emcZ t d ≤ 1000000 := by omega
  have v20 : a ≤ 1000000 := by omega
  have t1 : IntKind.i64.wrap (a1 * t) = a1 * t := IntWalk.i64_in _ (by omega)
  go_wp2
  refine start_ (n := 13) (S := fun w' => w'.cell? ⟨w.heap.size, 0, none⟩ = some (.int .i64 a) ∧ w'.cell? ⟨w.heap.size + 1, 2, none⟩ = some (.int .i64 a1) ∧ w'.cell? ⟨w.heap.size + 2, 0, none⟩ = some (.int .i64 t) ∧ w'.cell? ⟨w.heap.size + 2, 1, none⟩ = some (.int .i64 d)) (ds := [12]) #[false, false, false, false, false, false, false, false, false, false, false, false, false] (by kernel_rfl) rfl rfl ⟨c0, p2, d0, d1⟩ (fun hHeld => ?_)
  refine pure_ (i := 0) (N := some 23) (v := ?_) (a' := ?_) #[true, false, false, false, false, false, false, false, false, false, false, false, false] rfl rfl (by kernel_rfl) (fun _ _ _ h => h) (Or.inl ⟨by rfl, ?_⟩) ?_ ?_
  rotate_left
  · intro w'
    go_simp
    with_reducible rfl
  rotate_left
  · simp only [Act.put, List.setIfInBounds_toArray, List.set_cons_zero, List.set_cons_succ]
    rfl
  refine pure_ (i := 4) (N := some 27) (v := ?_) (a' := ?_) #[true, false, false, false, true, false, false, false, false, false, false, false, false] rfl rfl (by kernel_rfl) (fun _ _ _ h => h) (Or.inl ⟨by rfl, ?_⟩) ?_ ?_
  rotate_left
  · intro w'
    go_simp
    with_reducible rfl
  rotate_left
  · simp only [Act.put, List.setIfInBounds_toArray, List.set_cons_zero, List.set_cons_succ]
    rfl
  refine pure_ (i := 6) (N := some 29) (v := ?_) (a' := ?_) #[true, false, false, false, true, false, true, false, false, false, false, false, false] rfl rfl (by kernel_rfl) (fun _ _ _ h => h) (Or.inl ⟨by rfl, ?_⟩) ?_ ?_
  rotate_left
  · intro w'
    go_simp
    with_reducible rfl
  rotate_left
  · simp only [Act.put, List.setIfInBounds_toArray, List.set_cons_zero, List.set_cons_succ]
    rfl
  refine take_ (i := 1) (N := some 24) (v := ?_) (a' := ?_) #[true, true, false, false, true, false, true, false, false, false, false, false, false] rfl rfl (by kernel_rfl) (fun _ _ _ h => h) (Or.inl ⟨by rfl, ?_⟩) hHeld ?_ ?_
  rotate_left
  · rintro w' ⟨s0_, s1_, s2_, s3_⟩
    go_simp
    with_reducible rfl
  rotate_left
  · simp only [Act.put, List.setIfInBounds_toArray, List.set_cons_zero, List.set_cons_succ]
    rfl
  refine take_ (i := 2) (N := some 25) (v := ?_) (a' := ?_) #[true, true, true, false, true, false, true, false, false, false, false, false, false] rfl rfl (by kernel_rfl) (fun _ _ _ h => h) (Or.inl ⟨by rfl, ?_⟩) hHeld ?_ ?_
  rotate_left
  · rintro w' ⟨s0_, s1_, s2_, s3_⟩
    go_simp
    with_reducible rfl
  rotate_left
  · simp only [Act.put, List.setIfInBounds_toArray, List.set_cons_zero, List.set_cons_succ]
    rfl
  refine take_ (i := 5) (N := some 28) (v := ?_) (a' := ?_) #[true, true, true, false, true, true, true, false, false, false, false, false, false] rfl rfl (by kernel_rfl) (fun _ _ _ h => h) (Or.inl ⟨by rfl, ?_⟩) hHeld ?_ ?_
  rotate_left
  · rintro w' ⟨s0_, s1_, s2_, s3_⟩
    go_simp
    with_reducible rfl
  rotate_left
  · simp only [Act.put, List.setIfInBounds_toArray, List.set_cons_zero, List.set_cons_succ]
    rfl
  refine take_ (i := 7) (N := some 30) (v := ?_) (a' := ?_) #[true, true, true, false, true, true, true, true, false, false, false, false, false] rfl rfl (by kernel_rfl) (fun _ _ _ h => h) (Or.inl ⟨by rfl, ?_⟩) hHeld ?_ ?_
  rotate_left
  · rintro w' ⟨s0_, s1_, s2_, s3_⟩
    go_simp
    with_reducible rfl
  rotate_left
  · simp only [Act.put, List.setIfInBounds_toArray, List.set_cons_zero, List.set_cons_succ]
    rfl
  refine pure_ (i := 8) (N := some 31) (v := ?_) (a' := ?_) #[true, true, true, false, true, true, true, true, true, false, false, false, false] rfl rfl (by kernel_rfl) (fun _ _ _ h => h) (Or.inl ⟨by rfl, ?_⟩) ?_ ?_
  rotate_left
  · intro w'
    go_simp
    with_reducible rfl
  rotate_left
  · simp only [Act.put, List.setIfInBounds_toArray, List.set_cons_zero, List.set_cons_succ]
    rfl
  refine one_ (i := 3) (N := some 26) #[true, true, true, true, true, true, true, true, true, false, false, false, false] rfl rfl (by kernel_rfl) (by decide) (fun K hK => ?_)
  refine goes_ Tryd.func58 (by kernel_rfl) rfl #[.agg #[.int .i64 t, .int .i64 d]] (by rfl) rfl rfl (by (try simp only [List.map_toArray, List.map_cons, List.map_nil]); first | done | rfl) ?_
  with_reducible refine (emc_ok _ _ _ HGw).mono ?_
  rintro e x1 ⟨rfl, hx1⟩
  refine ⟨_, rfl, ?_⟩
  refine hK.out _ _ ⟨keepD hx1 c0, keepD hx1 p2, keepD hx1 d0, keepD hx1 d1⟩ (fun hHeld => ?_)
  clear hK K
  refine norm_ (a' := ?_) ?_ ?_
  rotate_left
  · show Act.put _ (some 26) _ = _
    simp only [Act.put, List.setIfInBounds_toArray, List.set_cons_zero, List.set_cons_succ]
    rfl
  refine one_ (i := 9) (N := some 32) #[true, true, true, true, true, true, true, true, true, true, false, false, false] rfl rfl (by kernel_rfl) (by decide) (fun K hK => ?_)
  refine goes_ Tryd.func59 (by kernel_rfl) rfl #[.int .i64 (a1 * t), .int .i64 200] (by rfl) rfl rfl (by (try simp only [List.map_toArray, List.map_cons, List.map_nil]); first | done | rfl) ?_
  with_reducible refine (speed_any _ _ _ v0 v2 (by decide) (by decide)).mono ?_
  rintro e x2 ⟨rfl, hx2⟩
  refine ⟨_, rfl, ?_⟩
  refine hK.out _ _ ⟨keepB hx2 (keepD hx1 c0), keepB hx2 (keepD hx1 p2), keepB hx2 (keepD hx1 d0), keepB hx2 (keepD hx1 d1)⟩ (fun hHeld => ?_)
  clear hK K
  refine norm_ (a' := ?_) ?_ ?_
  rotate_left
  · show Act.put _ (some 32) _ = _
    simp only [Act.put, List.setIfInBounds_toArray, List.set_cons_zero, List.set_cons_succ]
    rfl
  refine one_ (i := 10) (N := some 33) #[true, true, true, true, true, true, true, true, true, true, true, false, false] rfl rfl (by kernel_rfl) (by decide) (fun K hK => ?_)
  refine goes_ Tryd.func57 (by kernel_rfl) rfl #[.int .i64 a, .int .i64 (Pl.emcZ t d), .int .i64 (clampZ (a1 * t / 200) 1 10000)] (by rfl) rfl rfl (by (try simp only [List.map_toArray, List.map_cons, List.map_nil]); first | done | rfl) ?_
  with_reducible refine (toward_b _ _ _ _ hn1.1 v20 ve0 ve1 v5.1 v5.2).mono ?_
  rintro e x3 ⟨rfl, hx3⟩
  refine ⟨_, rfl, ?_⟩
  refine hK.out _ _ ⟨keepB hx3 (keepB hx2 (keepD hx1 c0)), keepB hx3 (keepB hx2 (keepD hx1 p2)), keepB hx3 (keepB hx2 (keepD hx1 d0)), keepB hx3 (keepB hx2 (keepD hx1 d1))⟩ (fun hHeld => ?_)
  clear hK K
  refine norm_ (a' := ?_) ?_ ?_
  rotate_left
  · show Act.put _ (some 33) _ = _
    simp only [Act.put, List.setIfInBounds_toArray, List.set_cons_zero, List.set_cons_succ]
    rfl
  refine pure_ (i := 11) (N := some 34) (v := ?_) (a' := ?_) #[true, true, true, true, true, true, true, true, true, true, true, true, false] rfl rfl (by kernel_rfl) (fun _ _ _ h => h) (Or.inl ⟨by rfl, ?_⟩) ?_ ?_
  rotate_left
  · intro w'
    go_simp
    with_reducible rfl
  rotate_left
  · simp only [Act.put, List.setIfInBounds_toArray, List.set_cons_zero, List.set_cons_succ]
    rfl
  refine last_ (i := 12) (N := none) #[true, true, true, true, true, true, true, true, true, true, true, true, true] rfl rfl (by kernel_rfl) (by decide) (fun K hK => ?_)
  have hX : Below w1.heap.size w1.drew x3 := (hx1.mono (by simp)).trans ((hx2.mono (by have := hx1.size; simpa using this)).trans (hx3.mono (by have := hx1.size; have := hx2.size; simp at *; omega)))
  have M0 := K0.out.drew.below hX K0.out.lt
  have m0c := M0.cell 0
  have m0f := M0.frozen 0
  refine skip_ (w1 := ?_) (by rfl) rfl ?_ ?_
  rotate_left
  · go_simp
    rfl
  refine hK.out _ _ ?_
  clear hK K
  refine done_ (by kernel_rfl) ?_
  have ab := towardZ_bd a (Pl.emcZ t d) (clampZ (a1 * t / 200) 1 10000) v5.2
  have HA : Hid (surfZ a a1 t d true = towardZ a (Pl.emcZ t d) (clampZ (a1 * t / 200) 1 10000)) := by show _ = _; simp [surfZ]
  generalize towardZ a (Pl.emcZ t d) (clampZ (a1 * t / 200) 1 10000) = A at ab HA ⊢
  have A0 : 0 ≤ A := by omega
  have A1 : A ≤ 20000 := by omega
  have J0 : Blk (x3.setCell ⟨w.heap.size, 0, none⟩ (.int .i64 A)) w.heap.size 51 #[.int .i64 A, .int .i64 b, .int .i64 s] := by simpa using M0.set_ 0 (.int .i64 A)
  have J1 : Blk (x3.setCell ⟨w.heap.size, 0, none⟩ (.int .i64 A)) (w.heap.size + 1) 26 #[.string n, .int .i64 a0, .int .i64 a1, .int .i64 a2, .int .i64 a3, .int .i64 a4, .int .i64 a5, .int .i64 a6, .int .i64 a7, .int .i64 a8, .int .i64 a9, .int .i64 a10, .int .i64 a11] := (K1.out.drew.below hX K1.out.lt).far (by simp) _
  have J2 : Blk (x3.setCell ⟨w.heap.size, 0, none⟩ (.int .i64 A)) (w.heap.size + 2) 37 #[.int .i64 t, .int .i64 d] := (K2.out.drew.below hX K2.out.lt).far (by simp) _
  have J3 : Blk (x3.setCell ⟨w.heap.size, 0, none⟩ (.int .i64 A)) (w.heap.size + 3) 51 #[.int .i64 0, .int .i64 0, .int .i64 0] := (K3.out.drew.below hX K3.out.lt).far (by simp) _
  have JF : Below w.heap.size w (x3.setCell ⟨w.heap.size, 0, none⟩ (.int .i64 A)) := ((bDrew HF.out).trans (hX.mono (by omega))).setCell (by simp) _
  clear hX M0 m0c m0f c0 c1 p2 p3 d0 d1 t1 v0 v1 v2 v5 hHeld hx1 hx2 hx3 HGw K0 K1 K2 K3 HF hz ve ve0 ve1 v20
  generalize x3.setCell ⟨w.heap.size, 0, none⟩ (.int .i64 A) = w1 at *
  have hz := J3.lt
  have K0 := Lib.hid J0
  have K1 := Lib.hid J1
  have K2 := Lib.hid J2
  have K3 := Lib.hid J3
  have HF := Lib.hid JF
  have c0 : w1.cell? ⟨w.heap.size, 0, none⟩ = some (.int .i64 A) := J0.cell 0
  have c1 : w1.cell? ⟨w.heap.size, 1, none⟩ = some (.int .i64 b) := J0.cell 1
  have p3 : w1.cell? ⟨w.heap.size + 1, 3, none⟩ = some (.int .i64 a2) := J1.cell 3
  have d0 : w1.cell? ⟨w.heap.size + 2, 0, none⟩ = some (.int .i64 t) := J2.cell 0
  clear J0 J1 J2 J3 JF
  have m0 : 0 ≤ a2 * t := Int.mul_nonneg (by omega) (by omega)
  have m1 : a2 * t ≤ 10000 * 1200 := Int.mul_le_mul (by omega) (by omega) (by omega) (by omega)
  have u1 : 0 ≤ a2 * t * 25 := by omega
  have u2 : a2 * t * 25 ≤ 9223372036854775807 := by omega
  have u3 : 1 ≤ 200 * thick := by omega
  have u4 : 200 * thick ≤ 9223372036854775807 := by omega
  have u5 := clampZ_bd (n := a2 * t * 25 / (200 * thick)) (lo := 1) (hi := 10000) (by omega)
  have h20a : A ≤ 1000000 := by omega
  have h20b : b ≤ 1000000 := by omega
  have s1 : IntKind.i64.wrap (a2 * t) = a2 * t := IntWalk.i64_in _ (by omega)
  have s2 : IntKind.i64.wrap (a2 * t * 25) = a2 * t * 25 := IntWalk.i64_in _ (by omega)
  have s3 : IntKind.i64.wrap (200 * thick) = 200 * thick := IntWalk.i64_in _ (by omega)
  have cd1 : w1.drew.cell? ⟨w.heap.size, 1, none⟩ = some (.int .i64 b) := c1
  go_wp2
  refine start_ (n := 16) (S := fun w' => w'.cell? ⟨w.heap.size, 0, none⟩ = some (.int .i64 A) ∧ w'.cell? ⟨w.heap.size, 1, none⟩ = some (.int .i64 b) ∧ w'.cell? ⟨w.heap.size + 1, 3, none⟩ = some (.int .i64 a2) ∧ w'.cell? ⟨w.heap.size + 2, 0, none⟩ = some (.int .i64 t)) (ds := [15]) #[false, false, false, false, false, false, false, false, false, false, false, false, false, false, false, false] (by kernel_rfl) rfl rfl ⟨c0, c1, p3, d0⟩ (fun hHeld => ?_)
  refine pure_ (i := 0) (N := some 35) (v := ?_) (a' := ?_) #[true, false, false, false, false, false, false, false, false, false, false, false, false, false, false, false] rfl rfl (by kernel_rfl) (fun _ _ _ h => h) (Or.inl ⟨by rfl, ?_⟩) ?_ ?_
  rotate_left
  · intro w'
    go_simp
    with_reducible rfl
  rotate_left
  · simp only [Act.put, List.setIfInBounds_toArray, List.set_cons_zero, List.set_cons_succ]
    rfl
  refine pure_ (i := 2) (N := some 37) (v := ?_) (a' := ?_) #[true, false, true, false, false, false, false, false, false, false, false, false, false, false, false, false] rfl rfl (by kernel_rfl) (fun _ _ _ h => h) (Or.inl ⟨by rfl, ?_⟩) ?_ ?_
  rotate_left
  · intro w'
    go_simp
    with_reducible rfl
  rotate_left
  · simp only [Act.put, List.setIfInBounds_toArray, List.set_cons_zero, List.set_cons_succ]
    rfl
  refine pure_ (i := 4) (N := some 39) (v := ?_) (a' := ?_) #[true, false, true, false, true, false, false, false, false, false, false, false, false, false, false, false] rfl rfl (by kernel_rfl) (fun _ _ _ h => h) (Or.inl ⟨by rfl, ?_⟩) ?_ ?_
  rotate_left
  · intro w'
    go_simp
    with_reducible rfl
  rotate_left
  · simp only [Act.put, List.setIfInBounds_toArray, List.set_cons_zero, List.set_cons_succ]
    rfl
  refine pure_ (i := 6) (N := some 41) (v := ?_) (a' := ?_) #[true, false, true, false, true, false, true, false, false, false, false, false, false, false, false, false] rfl rfl (by kernel_rfl) (fun _ _ _ h => h) (Or.inl ⟨by rfl, ?_⟩) ?_ ?_
  rotate_left
  · intro w'
    go_simp
    with_reducible rfl
  rotate_left
  · simp only [Act.put, List.setIfInBounds_toArray, List.set_cons_zero, List.set_cons_succ]
    rfl
  refine pure_ (i := 10) (N := some 45) (v := ?_) (a' := ?_) #[true, false, true, false, true, false, true, false, false, false, true, false, false, false, false, false] rfl rfl (by kernel_rfl) (fun _ _ _ h => h) (Or.inl ⟨by rfl, ?_⟩) ?_ ?_
  rotate_left
  · intro w'
    go_simp
    with_reducible rfl
  rotate_left
  · simp only [Act.put, List.setIfInBounds_toArray, List.set_cons_zero, List.set_cons_succ]
    rfl
  refine pure_ (i := 11) (N := some 46) (v := ?_) (a' := ?_) #[true, false, true, false, true, false, true, false, false, false, true, true, false, false, false, false] rfl rfl (by kernel_rfl) (fun _ _ _ h => h) (Or.inl ⟨by rfl, ?_⟩) ?_ ?_
  rotate_left
  · intro w'
    go_simp
    with_reducible rfl
  rotate_left
  · simp only [Act.put, List.setIfInBounds_toArray, List.set_cons_zero, List.set_cons_succ]
    rfl
  refine take_ (i := 1) (N := some 36) (v := ?_) (a' := ?_) #[true, true, true, false, true, false, true, false, false, false, true, true, false, false, false, false] rfl rfl (by kernel_rfl) (fun _ _ _ h => h) (Or.inl ⟨by rfl, ?_⟩) hHeld ?_ ?_
  rotate_left
  · rintro w' ⟨s0_, s1_, s2_, s3_⟩
    go_simp
    with_reducible rfl
  rotate_left
  · simp only [Act.put, List.setIfInBounds_toArray, List.set_cons_zero, List.set_cons_succ]
    rfl
  refine take_ (i := 3) (N := some 38) (v := ?_) (a' := ?_) #[true, true, true, true, true, false, true, false, false, false, true, true, false, false, false, false] rfl rfl (by kernel_rfl) (fun _ _ _ h => h) (Or.inl ⟨by rfl, ?_⟩) hHeld ?_ ?_
  rotate_left
  · rintro w' ⟨s0_, s1_, s2_, s3_⟩
    go_simp
    with_reducible rfl
  rotate_left
  · simp only [Act.put, List.setIfInBounds_toArray, List.set_cons_zero, List.set_cons_succ]
    rfl
  refine take_ (i := 5) (N := some 40) (v := ?_) (a' := ?_) #[true, true, true, true, true, true, true, false, false, false, true, true, false, false, false, false] rfl rfl (by kernel_rfl) (fun _ _ _ h => h) (Or.inl ⟨by rfl, ?_⟩) hHeld ?_ ?_
  rotate_left
  · rintro w' ⟨s0_, s1_, s2_, s3_⟩
    go_simp
    with_reducible rfl
  rotate_left
  · simp only [Act.put, List.setIfInBounds_toArray, List.set_cons_zero, List.set_cons_succ]
    rfl
  refine take_ (i := 7) (N := some 42) (v := ?_) (a' := ?_) #[true, true, true, true, true, true, true, true, false, false, true, true, false, false, false, false] rfl rfl (by kernel_rfl) (fun _ _ _ h => h) (Or.inl ⟨by rfl, ?_⟩) hHeld ?_ ?_
  rotate_left
  · rintro w' ⟨s0_, s1_, s2_, s3_⟩
    go_simp
    with_reducible rfl
  rotate_left
  · simp only [Act.put, List.setIfInBounds_toArray, List.set_cons_zero, List.set_cons_succ]
    rfl
  refine pure_ (i := 8) (N := some 43) (v := ?_) (a' := ?_) #[true, true, true, true, true, true, true, true, true, false, true, true, false, false, false, false] rfl rfl (by kernel_rfl) (fun _ _ _ h => h) (Or.inl ⟨by rfl, ?_⟩) ?_ ?_
  rotate_left
  · intro w'
    go_simp
    with_reducible rfl
  rotate_left
  · simp only [Act.put, List.setIfInBounds_toArray, List.set_cons_zero, List.set_cons_succ]
    rfl
  refine pure_ (i := 9) (N := some 44) (v := ?_) (a' := ?_) #[true, true, true, true, true, true, true, true, true, true, true, true, false, false, false, false] rfl rfl (by kernel_rfl) (fun _ _ _ h => h) (Or.inl ⟨by rfl, ?_⟩) ?_ ?_
  rotate_left
  · intro w'
    go_simp
    with_reducible rfl
  rotate_left
  · simp only [Act.put, List.setIfInBounds_toArray, List.set_cons_zero, List.set_cons_succ]
    rfl
  refine one_ (i := 12) (N := some 47) #[true, true, true, true, true, true, true, true, true, true, true, true, true, false, false, false] rfl rfl (by kernel_rfl) (by decide) (fun K hK => ?_)
  refine goes_ Tryd.func59 (by kernel_rfl) rfl #[.int .i64 (a2 * t * 25), .int .i64 (200 * thick)] (by rfl) rfl rfl (by (try simp only [List.map_toArray, List.map_cons, List.map_nil]); first | done | rfl) ?_
  with_reducible refine (speed_any _ _ _ u1 u2 u3 u4).mono ?_
  rintro e w2 ⟨rfl, hb2⟩
  refine ⟨_, rfl, ?_⟩
  refine hK.out _ _ ⟨keepD hb2 c0, keepD hb2 c1, keepD hb2 p3, keepD hb2 d0⟩ (fun hHeld => ?_)
  clear hK K
  refine norm_ (a' := ?_) ?_ ?_
  rotate_left
  · show Act.put _ (some 47) _ = _
    simp only [Act.put, List.setIfInBounds_toArray, List.set_cons_zero, List.set_cons_succ]
    rfl
  refine one_ (i := 13) (N := some 48) #[true, true, true, true, true, true, true, true, true, true, true, true, true, true, false, false] rfl rfl (by kernel_rfl) (by decide) (fun K hK => ?_)
  refine goes_ Tryd.func57 (by kernel_rfl) rfl #[.int .i64 b, .int .i64 A, .int .i64 (clampZ (a2 * t * 25 / (200 * thick)) 1 10000)] (by rfl) rfl rfl (by (try simp only [List.map_toArray, List.map_cons, List.map_nil]); first | done | rfl) ?_
  with_reducible refine (toward_b _ _ _ _ hn1.2.2.1 h20b A0 h20a u5.1 u5.2).mono ?_
  rintro e w3 ⟨rfl, hb3⟩
  refine ⟨_, rfl, ?_⟩
  refine hK.out _ _ ⟨keepB hb3 (keepD hb2 c0), keepB hb3 (keepD hb2 c1), keepB hb3 (keepD hb2 p3), keepB hb3 (keepD hb2 d0)⟩ (fun hHeld => ?_)
  clear hK K
  refine norm_ (a' := ?_) ?_ ?_
  rotate_left
  · show Act.put _ (some 48) _ = _
    simp only [Act.put, List.setIfInBounds_toArray, List.set_cons_zero, List.set_cons_succ]
    rfl
  refine pure_ (i := 14) (N := some 49) (v := ?_) (a' := ?_) #[true, true, true, true, true, true, true, true, true, true, true, true, true, true, true, false] rfl rfl (by kernel_rfl) (fun _ _ _ h => h) (Or.inl ⟨by rfl, ?_⟩) ?_ ?_
  rotate_left
  · intro w'
    go_simp
    with_reducible rfl
  rotate_left
  · simp only [Act.put, List.setIfInBounds_toArray, List.set_cons_zero, List.set_cons_succ]
    rfl
  refine last_ (i := 15) (N := none) #[true, true, true, true, true, true, true, true, true, true, true, true, true, true, true, true] rfl rfl (by kernel_rfl) (by decide) (fun K hK => ?_)
  have K3' := (K0.out.drew.below hb2 (by simp; omega)).below hb3 (K0.out.drew.below hb2 (by simp; omega)).lt
  have e1 := keepB hb3 (keepD hb2 c1)
  have fz := K3'.frozen 1
  refine skip_ (w1 := ?_) (by rfl) rfl ?_ ?_
  rotate_left
  · go_simp
    rfl
  refine hK.out _ _ ?_
  clear hK K
  refine done_ (by kernel_rfl) ?_
  have yb := towardZ_bd b A (clampZ (a2 * t * 25 / (200 * thick)) 1 10000) u5.2
  have HY : Hid (coreZ b A a2 t thick = towardZ b A (clampZ (a2 * t * 25 / (200 * thick)) 1 10000)) := rfl
  generalize towardZ b A (clampZ (a2 * t * 25 / (200 * thick)) 1 10000) = y at yb HY ⊢
  have K4 : Blk (w3.setCell ⟨w.heap.size, 1, none⟩ (.int .i64 y)) w.heap.size 51 #[.int .i64 A, .int .i64 y, .int .i64 s] := by simpa using K3'.set_ 1 (.int .i64 y)
  have z2 := hb2.size
  have z3 := hb3.size
  have KS : Blk (w3.setCell ⟨w.heap.size, 1, none⟩ (.int .i64 y)) (w.heap.size + 1) 26 #[.string n, .int .i64 a0, .int .i64 a1, .int .i64 a2, .int .i64 a3, .int .i64 a4, .int .i64 a5, .int .i64 a6, .int .i64 a7, .int .i64 a8, .int .i64 a9, .int .i64 a10, .int .i64 a11] := ((K1.out.drew.below hb2 (by simp; omega)).below hb3 (K1.out.drew.below hb2 (by simp; omega)).lt).far (by simp) _
  have KR : Blk (w3.setCell ⟨w.heap.size, 1, none⟩ (.int .i64 y)) (w.heap.size + 3) 51 #[.int .i64 0, .int .i64 0, .int .i64 0] := ((K3.out.drew.below hb2 (by simp; omega)).below hb3 (K3.out.drew.below hb2 (by simp; omega)).lt).far (by simp) _
  have HF4 : Below w.heap.size w (w3.setCell ⟨w.heap.size, 1, none⟩ (.int .i64 y)) := ((bDrew HF.out).trans ((hb2.mono (by simp; omega)).trans (hb3.mono (by simp at z2; omega)))).setCell (by simp) _
  clear hb2 hb3 K3' e1 fz c0 c1 p3 d0 z2 z3 s1 s2 s3 u1 u2 u3 u4 u5 m0 m1 hHeld
  generalize w3.setCell ⟨w.heap.size, 1, none⟩ (.int .i64 y) = w4 at *
  have q0 : w4.cell? ⟨w.heap.size, 0, none⟩ = some (.int .i64 A) := K4.cell 0
  have q1 : w4.cell? ⟨w.heap.size, 1, none⟩ = some (.int .i64 y) := K4.cell 1
  have q2 : w4.cell? ⟨w.heap.size, 2, none⟩ = some (.int .i64 s) := K4.cell 2
  have p4 : w4.cell? ⟨w.heap.size + 1, 4, none⟩ = some (.int .i64 a3) := KS.cell 4
  have r0 : w4.cell? ⟨w.heap.size + 3, 0, none⟩ = some (.int .i64 0) := KR.cell 0
  have r1 : w4.cell? ⟨w.heap.size + 3, 1, none⟩ = some (.int .i64 0) := KR.cell 1
  have r2 : w4.cell? ⟨w.heap.size + 3, 2, none⟩ = some (.int .i64 0) := KR.cell 2
  have f2 := K4.frozen 2
  have g0 := KR.frozen 0
  have g1 := KR.frozen 1
  have g2 := KR.frozen 2
  have hKR := Lib.hid KR
  have hHF := Lib.hid HF4
  clear K4 KS KR HF4
  go_wp2
  all_goals
    refine bodyPost_ret (results_cell_row Tryd.results50 _ _ (w.heap.size + 3) 51 _ (0, 0) _ rfl ((((hKR.out.far (by simp) _).set_ 0 _).set_ 1 _).set_ 2 _) Tryd.underlying51 rfl (by kernel_rfl)) rfl ⟨?_, (((hHF.out.setCell (by simp) _).setCell (by simp; omega) _).setCell (by simp; omega) _).setCell (by simp; omega) _⟩
    exact ret_cell HA.out.symm (by rw [HA.out]; exact HY.out.symm) (by rw [HA.out, HY.out]; unfold strZ; split <;> split <;> omega)

end Go.Proofs.YtkedpokbbogkmaaDoor

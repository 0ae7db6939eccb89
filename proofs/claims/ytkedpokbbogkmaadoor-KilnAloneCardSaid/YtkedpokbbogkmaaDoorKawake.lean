/-
  The chapter's examples: a kiln of one board, four ticks.
-/
import Derived.Test.YtkedpokbbogkmaaDoorKbegun
import Derived.Test.YtkedpokbbogkmaaDoorKtick
import Derived.Deep.DeepCutAuto
namespace Go.Proofs.YtkedpokbbogkmaaDoor
open Go.RowKit Go.Proofs.YtkedpokbbogkmaaDoorW.PrintLast
set_option linter.unusedSimpArgs false
set_option linter.unusedVariables false

def nA : ByteArray := ⟨#[112, 105, 110, 101]⟩
def pnA : ByteArray := ⟨#[115, 108, 111, 119]⟩
def stA : List Q4 := [(0, 2, 400, 60), (0, 1, 600, 100)]
def PA : KP := ⟨50, stA, 100, 50, 300, 800, 700, 250⟩
def s0 : KS := ⟨[(25, 2000, 2000, 0)], 200, 100, 0, 0, 0, 0⟩
def s1 : KS := ⟨[(25, 1996, 1999, 0)], 250, 60, 0, 1, 1, 0⟩
def s2 : KS := ⟨[(25, 1991, 1998, 0)], 300, 60, 1, 0, 2, 0⟩
def s3 : KS := ⟨[(25, 1977, 1997, 0)], 350, 100, 2, 0, 3, 0⟩
set_option maxRecDepth 100000 in
theorem tick01 : s0.tick PA [] = s1 := by kernel_rfl
set_option maxRecDepth 100000 in
theorem tick12 : s1.tick PA [] = s2 := by kernel_rfl
set_option maxRecDepth 100000 in
theorem tick23 : s2.tick PA [] = s3 := by kernel_rfl
set_option maxRecDepth 100000 in
theorem newA : newZ pnA 50 stA nA 6000 100 50 300 800 1000 700 250 500 11000 500 80 s0.l = 0 := by kernel_rfl
/-- The kiln of the examples in a state. -/
structure KB (w : World) (gk gi gs ci cs : Nat) (pad pads : List Value) (s : KS) (w' : World) : Prop where
  own : Own w [(gk, 74, #[.string pnA, .int .i64 50, .slice (some ⟨gs, 0, none⟩) stA.length cs, .string nA, .int .i64 6000, .int .i64 100, .int .i64 50, .int .i64 300, .int .i64 800, .int .i64 1000, .int .i64 700, .int .i64 250, .int .i64 500, .int .i64 11000, .int .i64 500, .int .i64 80, .slice (some ⟨gi, 0, none⟩) 1 ci, .int .i64 s.t, .int .i64 s.d, .int .i64 s.stage, .int .i64 s.ins, .int .i64 s.ticks, .int .i64 s.held]), (gi, 53, (flat q4 s.l ++ pad).toArray), (gs, 65, (flat q4 stA ++ pads).toArray)] w'
theorem KB.call {w gk gi gs ci cs pad pads s} {w' w'' : World} (h : KB w gk gi gs ci cs pad pads s w') (hb : Below w'.heap.size w' w'') : KB w gk gi gs ci cs pad pads s w'' := ⟨h.own.call hb⟩
structure SmallK (s : KS) : Prop where
  one : s.l.length = 1
  lt : s.stage < stA.length
  ok : Valid s.l
  b1 : 0 ≤ s.ins ∧ s.ins ≤ 1000000
  b2 : 0 ≤ s.ticks ∧ s.ticks ≤ 1000000
  b3 : 0 ≤ s.held ∧ s.held ≤ 1000000
theorem smallOf (s : KS) (h : (decide (s.l.length = 1) && decide (s.stage < stA.length) && s.l.all (fun x => chkZ x.2.1 x.2.2.1 x.2.2.2 == 0) && decide (0 ≤ s.ins ∧ s.ins ≤ 1000000) && decide (0 ≤ s.ticks ∧ s.ticks ≤ 1000000) && decide (0 ≤ s.held ∧ s.held ≤ 1000000)) = true) : SmallK s := by
  simp only [Bool.and_eq_true, decide_eq_true_eq] at h
  obtain ⟨⟨⟨⟨⟨h1, h2⟩, h3⟩, h4⟩, h5⟩, h6⟩ := h
  exact ⟨h1, h2, fun x hx => by simpa using List.all_eq_true.1 h3 x hx, h4, h5, h6⟩
theorem tickA {w w' : World} {gk gi gs ci cs : Nat} {pad pads : List Value} {s s' : KS} (hs : s.tick PA [] = s') (hm : SmallK s) (hG : Hid (Glob w)) (h2 : Hid (Glob2 w)) (h : KB w gk gi gs ci cs pad pads s w') :
    Calls Tryd.prog 14 #[.pointer (some ⟨gk, 0, none⟩), .slice none 0 0] w' fun e w'' => ∃ gi ci pad, e = .returned (.bool (!((s'.stage : Int) == 2))) ∧ KB w gk gi gs ci cs pad pads s' w'' := by
  have hh := h.own
  obtain ⟨l, t, d, stage, ins, ticks, held⟩ := s
  obtain ⟨hl, hlt, hv, b1, b2, b3⟩ := hm
  simp only at hl hlt hv b1 b2 b3 hh
  refine (tickK_any gk gs gi cs ci stA.length l.length stage pnA nA 50 6000 100 50 300 800 1000 700 250 500 11000 500 80 t d ins ticks held l stA pad pads (.slice none 0 0) [] [] w w' hG h2 (Lib.hid fun _ _ => .inl ⟨none, 0, rfl, rfl⟩) (by decide) (by omega) (by omega) rfl (by decide) rfl hlt (Lib.hid hv) b1 b2 b3 PA rfl _ rfl (by rw [hl]; exact hh)).mono ?_
  rintro e w'' ⟨gi', ci', pad', rfl, hO⟩
  rw [hs] at hO
  refine ⟨gi', ci', pad', by rw [hs]; rfl, ⟨?_⟩⟩
  rw [hl] at hO
  exact hO
theorem climA {w w' : World} {gk gi gs ci cs : Nat} {pad pads : List Value} {s : KS} (h : KB w gk gi gs ci cs pad pads s w') :
    Calls Tryd.prog 15 #[.pointer (some ⟨gk, 0, none⟩)] w' fun e w'' => e = .returned (.agg #[.int .i64 s.t, .int .i64 s.d]) ∧ Below w'.heap.size w' w'' :=
  climate_any gk gs gi cs ci stA.length 1 pnA nA 50 6000 100 50 300 800 1000 700 250 500 11000 500 80 s.t s.d s.stage s.ins s.ticks s.held w' (Lib.hid (h.own.at 0 rfl))
theorem stageA {w w' : World} {gk gi gs ci cs : Nat} {pad pads : List Value} {s : KS} (h : KB w gk gi gs ci cs pad pads s w') :
    Calls Tryd.prog 20 #[.pointer (some ⟨gk, 0, none⟩)] w' fun e w'' => e = .returned (.int .i64 s.stage) ∧ Below w'.heap.size w' w'' :=
  stage_any gk gs gi cs ci stA.length 1 pnA nA 50 6000 100 50 300 800 1000 700 250 500 11000 500 80 s.t s.d s.stage s.ins s.ticks s.held w' (Lib.hid (h.own.at 0 rfl))
theorem doneA {w w' : World} {gk gi gs ci cs : Nat} {pad pads : List Value} {s : KS} (h : KB w gk gi gs ci cs pad pads s w') :
    Calls Tryd.prog 21 #[.pointer (some ⟨gk, 0, none⟩)] w' fun e w'' => e = .returned (.bool ((s.stage : Int) == (stA.length : Int))) ∧ Below w'.heap.size w' w'' :=
  done_any gk gs gi cs ci stA.length 1 pnA nA 50 6000 100 50 300 800 1000 700 250 500 11000 500 80 s.t s.d s.stage s.ins s.ticks s.held w' (Lib.hid (h.own.at 0 rfl))
theorem ticksA {w w' : World} {gk gi gs ci cs : Nat} {pad pads : List Value} {s : KS} (h : KB w gk gi gs ci cs pad pads s w') :
    Calls Tryd.prog 19 #[.pointer (some ⟨gk, 0, none⟩)] w' fun e w'' => e = .returned (.tuple #[.int .i64 s.ticks, .int .i64 s.held]) ∧ Below w'.heap.size w' w'' :=
  ticksK_any gk gs gi cs ci stA.length 1 pnA nA 50 6000 100 50 300 800 1000 700 250 500 11000 500 80 s.t s.d s.stage s.ins s.ticks s.held w' (Lib.hid (h.own.at 0 rfl))
theorem itemsA {w w' : World} {gk gi gs ci cs : Nat} {pad pads : List Value} {s : KS} (hl : s.l.length = 1) (h : KB w gk gi gs ci cs pad pads s w') :
    Calls Tryd.prog 22 #[.pointer (some ⟨gk, 0, none⟩)] w' fun e w'' => ∃ g c pad', e = .returned (.slice (some ⟨g, 0, none⟩) 1 c) ∧ Own w' [(g, 54, (flat q4 s.l ++ pad').toArray)] w'' :=
  (items38_any gk gs gi cs ci stA.length 1 pnA nA 50 6000 100 50 300 800 1000 700 250 500 11000 500 80 s.t s.d s.stage s.ins s.ticks s.held s.l pad w' (by omega) (by omega) hl.symm (Lib.hid (h.own.at 0 rfl)) (Lib.hid (h.own.at 1 rfl))).mono (by
    rintro e w'' ⟨g, c, p, rfl, hO⟩
    exact ⟨g, c, p, by rw [hl], hO⟩)
set_option maxHeartbeats 2000000 in
set_option maxRecDepth 100000 in
/-- A tick of a kiln that is done. -/
theorem rest_any (gk gs gi cs ci ns ni : Nat) (pn n : ByteArray) (ramp a0 a1 a2 a3 a4 a5 a6 a7 a8 a9 a10 a11 t d stage ins ticks held : Int) (v : Value) (w : World) (HK : Hid (Blk w gk 74 #[.string pn, .int .i64 ramp, .slice (some ⟨gs, 0, none⟩) ns cs, .string n, .int .i64 a0, .int .i64 a1, .int .i64 a2, .int .i64 a3, .int .i64 a4, .int .i64 a5, .int .i64 a6, .int .i64 a7, .int .i64 a8, .int .i64 a9, .int .i64 a10, .int .i64 a11, .slice (some ⟨gi, 0, none⟩) ni ci, .int .i64 t, .int .i64 d, .int .i64 stage, .int .i64 ins, .int .i64 ticks, .int .i64 held])) (hd : (stage == (ns : Int)) = true) :
    Calls Tryd.prog 14 #[.pointer (some ⟨gk, 0, none⟩), v] w fun e w' => e = .returned (.bool false) ∧ Below w.heap.size w w' := by
  have q1 := ptr_eql gk
  have HD : Hid (∀ w, Hid (Blk w gk 74 #[.string pn, .int .i64 ramp, .slice (some ⟨gs, 0, none⟩) ns cs, .string n, .int .i64 a0, .int .i64 a1, .int .i64 a2, .int .i64 a3, .int .i64 a4, .int .i64 a5, .int .i64 a6, .int .i64 a7, .int .i64 a8, .int .i64 a9, .int .i64 a10, .int .i64 a11, .slice (some ⟨gi, 0, none⟩) ni ci, .int .i64 t, .int .i64 d, .int .i64 stage, .int .i64 ins, .int .i64 ticks, .int .i64 held]) → Calls Tryd.prog 21 #[.pointer (some ⟨gk, 0, none⟩)] w fun e w' => e = .returned (.bool true) ∧ Below w.heap.size w w') := Lib.hid (fun w h => hd ▸ done_any gk gs gi cs ci ns ni pn n ramp a0 a1 a2 a3 a4 a5 a6 a7 a8 a9 a10 a11 t d stage ins ticks held w h)
  clear hd
  go_enter Tryd.func14, Tryd.ntmps14
  go_wp2_with (go_at_call 21; (with_reducible refine (HD.out _ HK).mono ?_); rintro e w_ ⟨rfl, hb_⟩)
  go_ret
  exact ⟨rfl, hb_⟩
theorem restA {w w' : World} {gk gi gs ci cs : Nat} {pad pads : List Value} {s : KS} (hd : ((s.stage : Int) == (stA.length : Int)) = true) (h : KB w gk gi gs ci cs pad pads s w') :
    Calls Tryd.prog 14 #[.pointer (some ⟨gk, 0, none⟩), .slice none 0 0] w' fun e w'' => e = .returned (.bool false) ∧ Below w'.heap.size w' w'' :=
  rest_any gk gs gi cs ci stA.length 1 pnA nA 50 6000 100 50 300 800 1000 700 250 500 11000 500 80 s.t s.d s.stage s.ins s.ticks s.held _ w' (Lib.hid (h.own.at 0 rfl)) hd
set_option maxHeartbeats 8000000 in
set_option maxRecDepth 100000 in
theorem awake38_any (w : World) (hG : Hid (Glob w)) (h2 : Hid (Glob2 w)) : Calls Tryd.prog 9 #[] w fun e w' => e = .returned (.bool true) ∧ Below w.heap.size w w' := by
  obtain ⟨i0, hi0, hz0, hz1, _⟩ := info_parts stage_info
  obtain ⟨j0, hj0, jz0, jz1, _⟩ := info_parts ritem_info
  have hO := Own.nil w
  go_enter Tryd.func9, Tryd.ntmps9
  go_wp2_with (first
    | ((with_reducible refine gate_alloc 26 rfl ?_); refine own_alloc rfl 26 rfl hO _ rfl #[.string ⟨#[]⟩, .int .i64 0, .int .i64 0, .int .i64 0, .int .i64 0, .int .i64 0, .int .i64 0, .int .i64 0, .int .i64 0, .int .i64 0, .int .i64 0, .int .i64 0, .int .i64 0] (by kernel_rfl) ?_; clear hO; (try clear w_); intro g_ w_ hO)
    | ((with_reducible refine gate_box 26 rfl ?_); refine own_box rfl 26 _ rfl hO _ rfl ?_ ?_ ?_; rotate_left; (focus (first | (go_simp; done) | (go_simp; with_reducible rfl) | rfl)); clear hO; (try clear w_); intro g_ w_ hO; simp only [Value.cells] at hO)
    | ((with_reducible refine gate_load 26 rfl ?_); (first | refine own_load_row rfl 26 _ rfl hO 0 _ _ rfl _ _ rfl _ rfl 13 ?_ ?_ ?_ _ Tryd.underlying26 rfl ?_ ?_ | refine own_load_row rfl 26 _ rfl hO 1 _ _ rfl _ _ rfl _ rfl 13 ?_ ?_ ?_ _ Tryd.underlying26 rfl ?_ ?_ | refine own_load_row rfl 26 _ rfl hO 2 _ _ rfl _ _ rfl _ rfl 13 ?_ ?_ ?_ _ Tryd.underlying26 rfl ?_ ?_ | refine own_load_row rfl 26 _ rfl hO 3 _ _ rfl _ _ rfl _ rfl 13 ?_ ?_ ?_ _ Tryd.underlying26 rfl ?_ ?_); rotate_left; (focus (first | (with_reducible exact hrow_) | (with_reducible exact hrow2_) | (simp only [Array.toList_extract, List.extract_toArray, List.extract_eq_take_drop, List.drop_zero, List.drop_succ_cons, List.take_succ_cons, List.take_zero, Nat.reduceAdd, Nat.reduceSub, Nat.zero_add, Nat.add_zero, Nat.add_sub_cancel_left, Nat.sub_zero, Nat.sub_self]; rfl))); (focus rfl); (focus kernel_rfl))
    | ((with_reducible refine gate_store 26 rfl ?_); (first | refine own_store rfl 26 _ _ rfl hO 0 _ _ ?_ rfl ?_ _ _ rfl _ rfl ?_ ?_ ?_ ?_ | refine own_store rfl 26 _ _ rfl hO 1 _ _ ?_ rfl ?_ _ _ rfl _ rfl ?_ ?_ ?_ ?_ | refine own_store rfl 26 _ _ rfl hO 2 _ _ ?_ rfl ?_ _ _ rfl _ rfl ?_ ?_ ?_ ?_ | refine own_store rfl 26 _ _ rfl hO 3 _ _ ?_ rfl ?_ _ _ rfl _ rfl ?_ ?_ ?_ ?_); rotate_left; (focus (first | (go_simp; done) | (go_simp; with_reducible rfl) | rfl)); (focus (first | (exact hble_) | kernel_rfl)); (focus kernel_rfl); (focus kernel_rfl); clear hO; (try clear w_); intro w_ hO; (first | (simp only [Value.cells] at hO; rw [hput_] at hO) | simp only [List.set_cons_zero, List.set_cons_succ, putAllA, Value.cells, List.setIfInBounds_toArray] at hO))
    | ((with_reducible refine gate_alloc 24 rfl ?_); refine own_alloc rfl 24 rfl hO _ rfl #[.string ⟨#[]⟩, .int .i64 0, .slice none 0 0] (by kernel_rfl) ?_; clear hO; (try clear w_); intro g_ w_ hO)
    | ((with_reducible refine gate_box 24 rfl ?_); refine own_box rfl 24 _ rfl hO _ rfl ?_ ?_ ?_; rotate_left; (focus (first | (go_simp; done) | (go_simp; with_reducible rfl) | rfl)); clear hO; (try clear w_); intro g_ w_ hO; simp only [Value.cells] at hO)
    | ((with_reducible refine gate_load 24 rfl ?_); (first | refine own_load_row rfl 24 _ rfl hO 0 _ _ rfl _ _ rfl _ rfl 3 ?_ ?_ ?_ _ Tryd.underlying24 rfl ?_ ?_ | refine own_load_row rfl 24 _ rfl hO 1 _ _ rfl _ _ rfl _ rfl 3 ?_ ?_ ?_ _ Tryd.underlying24 rfl ?_ ?_ | refine own_load_row rfl 24 _ rfl hO 2 _ _ rfl _ _ rfl _ rfl 3 ?_ ?_ ?_ _ Tryd.underlying24 rfl ?_ ?_ | refine own_load_row rfl 24 _ rfl hO 3 _ _ rfl _ _ rfl _ rfl 3 ?_ ?_ ?_ _ Tryd.underlying24 rfl ?_ ?_); rotate_left; (focus (first | (with_reducible exact hrow_) | (with_reducible exact hrow2_) | (simp only [Array.toList_extract, List.extract_toArray, List.extract_eq_take_drop, List.drop_zero, List.drop_succ_cons, List.take_succ_cons, List.take_zero, Nat.reduceAdd, Nat.reduceSub, Nat.zero_add, Nat.add_zero, Nat.add_sub_cancel_left, Nat.sub_zero, Nat.sub_self]; rfl))); (focus rfl); (focus kernel_rfl))
    | ((with_reducible refine gate_store 24 rfl ?_); (first | refine own_store rfl 24 _ _ rfl hO 0 _ _ ?_ rfl ?_ _ _ rfl _ rfl ?_ ?_ ?_ ?_ | refine own_store rfl 24 _ _ rfl hO 1 _ _ ?_ rfl ?_ _ _ rfl _ rfl ?_ ?_ ?_ ?_ | refine own_store rfl 24 _ _ rfl hO 2 _ _ ?_ rfl ?_ _ _ rfl _ rfl ?_ ?_ ?_ ?_ | refine own_store rfl 24 _ _ rfl hO 3 _ _ ?_ rfl ?_ _ _ rfl _ rfl ?_ ?_ ?_ ?_); rotate_left; (focus (first | (go_simp; done) | (go_simp; with_reducible rfl) | rfl)); (focus (first | (exact hble_) | kernel_rfl)); (focus kernel_rfl); (focus kernel_rfl); clear hO; (try clear w_); intro w_ hO; (first | (simp only [Value.cells] at hO; rw [hput_] at hO) | simp only [List.set_cons_zero, List.set_cons_succ, putAllA, Value.cells, List.setIfInBounds_toArray] at hO))
    | (refine wpList_build_is rfl 26 _ rfl #[.string ⟨#[112, 105, 110, 101]⟩, .int .i64 6000, .int .i64 100, .int .i64 50, .int .i64 300, .int .i64 800, .int .i64 1000, .int .i64 700, .int .i64 250, .int .i64 500, .int .i64 11000, .int .i64 500, .int .i64 80] (by kernel_rfl) ?_)
    | (refine own_buildSlice rfl 22 65 2 _ rfl _ rfl hO #[.int .i64 0, .int .i64 2, .int .i64 400, .int .i64 60, .int .i64 0, .int .i64 1, .int .i64 600, .int .i64 100] i0 (.agg #[.int .i64 0, .int .i64 0, .int .i64 0, .int .i64 0]) 4 Tryd.underlying22 hi0 hz0 hz1 rfl rfl (by kernel_rfl) ?_; clear hO; intro gst w_ hO)
    | (refine own_buildSlice rfl 27 54 1 _ rfl _ rfl hO #[.int .i64 25, .int .i64 2000, .int .i64 2000, .int .i64 0] j0 (.agg #[.int .i64 0, .int .i64 0, .int .i64 0, .int .i64 0]) 4 Tryd.underlying27 hj0 jz0 jz1 rfl rfl (by kernel_rfl) ?_; clear hO; intro git w_ hO)
    )
  have HS : Hid (RepQ w_ (.slice (some ⟨gst, 0, none⟩) 2 2) stA) := Lib.hid (RepQ.blk (l := stA) (pad := []) (hO.at 2 rfl))
  have HI : Hid (RepQ w_ (.slice (some ⟨git, 0, none⟩) 1 1) s0.l) := Lib.hid (RepQ.blk (l := s0.l) (pad := []) (hO.at 0 rfl))
  refine (begun_any pnA nA 50 6000 100 50 300 800 1000 700 250 500 11000 500 80 (.slice (some ⟨gst, 0, none⟩) 2 2) (.slice (some ⟨git, 0, none⟩) 1 1) stA s0.l _ (Lib.hid (h2.out.below hO.bel)) HS HI (by decide) (by decide)).mono ?_
  rintro e w3 hN
  rcases hN with ⟨h1, _⟩ | ⟨_, gk, gi, ci, pad, gs, cs, pads, rfl, hO3⟩
  · exact absurd newA h1
  have hB : KB w gk gi gs ci cs pad pads s0 w3 := ⟨(hO.join hO3).sub (List.Sublist.cons_cons _ (List.Sublist.cons_cons _ (List.Sublist.cons_cons _ (List.nil_sublist _))))⟩
  clear hO hO3 HS HI hi0 hz0 hz1 hj0 jz0 jz1
  have q1 := ptr_eql gk
  have m0 : SmallK s0 := smallOf s0 (by kernel_rfl)
  have m1 : SmallK s1 := smallOf s1 (by kernel_rfl)
  have m2 : SmallK s2 := smallOf s2 (by kernel_rfl)
  have M0 := Lib.hid m0
  have M1 := Lib.hid m1
  have M2 := Lib.hid m2
  clear m0 m1 m2
  have qc0 : ∀ w : World, (binOp .neq 37 (.agg #[.int .i64 s0.t, .int .i64 s0.d]) (.agg #[.int .i64 200, .int .i64 100])).run Tryd.prog w = .ok (.bool false) w := fun w => neq_clim 200 100 200 100 w
  have qc1 : ∀ w : World, (binOp .neq 37 (.agg #[.int .i64 s1.t, .int .i64 s1.d]) (.agg #[.int .i64 250, .int .i64 60])).run Tryd.prog w = .ok (.bool false) w := fun w => neq_clim 250 60 250 60 w
  have z1 : (s1.stage : Int) = 0 := rfl
  have z2 : (s2.stage : Int) = 1 := rfl
  have z3 : (s3.stage : Int) = 2 := rfl
  have z4 : s3.ticks = 3 := rfl
  have z5 : s3.held = 0 := rfl
  have z6 : (stA.length : Int) = 2 := rfl
  have D3 : Hid (((s3.stage : Int) == (stA.length : Int)) = true) := Lib.hid rfl
  go_wp2_with (first
    | (go_at_call 15; (with_reducible refine (climA hB).mono ?_); rintro e w_ ⟨rfl, hb_⟩; replace hB := hB.call hb_; clear hb_)
    | (go_at_call 20; (with_reducible refine (stageA hB).mono ?_); rintro e w_ ⟨rfl, hb_⟩; replace hB := hB.call hb_; clear hb_)
    | (go_at_call 21; (with_reducible refine (doneA hB).mono ?_); rintro e w_ ⟨rfl, hb_⟩; replace hB := hB.call hb_; clear hb_)
    | (go_at_call 19; (with_reducible refine (ticksA hB).mono ?_); rintro e w_ ⟨rfl, hb_⟩; replace hB := hB.call hb_; clear hb_)
    | (go_at_call 14; (first | (with_reducible refine (tickA tick01 M0.out hG h2 hB).mono ?_) | (with_reducible refine (tickA tick12 M1.out hG h2 hB).mono ?_) | (with_reducible refine (tickA tick23 M2.out hG h2 hB).mono ?_)); rintro e w_ ⟨gi2, ci2, pad2, rfl, hB2⟩; replace hB := hB2; clear hB2)
    | (go_at_call 14; (with_reducible refine (restA D3.out hB).mono ?_); rintro e w_ ⟨rfl, hb_⟩; replace hB := hB.call hb_; clear hb_)
    | (go_at_call 22; (with_reducible refine (itemsA rfl hB).mono ?_); rintro e w_ ⟨gI, cI, padI, rfl, hOI⟩; have hc1 : w_.cell? ⟨gI, 1, none⟩ = some (.int .i64 1996) := ((hOI.at 0 rfl).cell 1).trans rfl; have hc2 : w_.cell? ⟨gI, 2, none⟩ = some (.int .i64 1999) := ((hOI.at 0 rfl).cell 2).trans rfl; replace hB := hB.call hOI.bel; clear hOI)
    )
  go_ret
  exact ⟨rfl, hB.own.bel⟩
end Go.Proofs.YtkedpokbbogkmaaDoor

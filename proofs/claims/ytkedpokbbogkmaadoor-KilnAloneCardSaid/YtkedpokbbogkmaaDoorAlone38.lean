/-
  KilnAlone, walked.
-/
import Derived.Test.YtkedpokbbogkmaaDoorKalone
import Derived.Test.YtkedpokbbogkmaaDoorKmore
import Derived.Test.YtkedpokbbogkmaaDoorSame
import Derived.Deep.DeepCutAuto
namespace Go.Proofs.YtkedpokbbogkmaaDoor
open Go.RowKit Go.Proofs.YtkedpokbbogkmaaDoorW.PrintLast
set_option linter.unusedSimpArgs false
set_option linter.unusedVariables false
attribute [local go_sem] max2_intk min2_intk max_pairk min_pairk

theorem run_sliceAt {P : Program} (t e : TypeId) (hu : P.underlying t = some (.slice e)) (x : Value) (lo hi mx : Option Value) (w : World) : (Instr.sliceAt t x lo hi mx).run P w = (Instr.slice t x lo hi mx).run P w := by
  unfold Instr.sliceAt
  simp [run_underlying hu]
theorem run_slice_mid {P : Program} (t e : TypeId) (hu : P.underlying t = some (.slice e)) (i : TypeInfo) (hi : P.info? e = some i) (sz : Nat) (hs : i.size = sz) (b o n c a : Nat) (h : a < c) (w : World) :
    (Instr.slice t (.slice (some ⟨b, o, none⟩) n c) (some (.int .i64 (a : Int))) (some (.int .i64 ((a : Int) + 1))) none).run P w = .ok (.slice (some ⟨b, o + a * sz, none⟩) 1 (c - a)) w := by
  have h1 : (0 : Int) ≤ (a : Int) + 1 ∧ (a : Int) + 1 ≤ (c : Int) := by omega
  have h2 : ((a : Int) + 1).toNat = a + 1 := by omega
  have h3 : ¬ c = a := by omega
  have h4 : (0 : Int) ≤ (a : Int) ∧ (a : Int) ≤ ((a + 1 : Nat) : Int) := by omega
  have h5 : (⟨b, o, none⟩ : Addr).add (a * sz) = ⟨b, o + a * sz, none⟩ := by
    generalize a * sz = m
    cases m <;> simp [Addr.add]
  have h6 : a + 1 - a = 1 := by omega
  unfold Instr.slice
  simp only [Instr.sliceBounds, Instr.sliceBound, asIntOf, run_underlying hu, Sem.run_bind, Sem.run_pure, Result.andThen_ok, if_pos h1, h2, if_pos h4, sizeOf, typeInfo, hi, hs, if_neg h3, Option.map_some, h5, h6, Int.toNat_natCast, Option.isSome_none, pure_bind]
  simp [hi, hs, h3, h5, h6]
theorem RepQ.sub {w : World} {b o : Nat} {l : List Q4} (h : ∀ (j : Nat) (u : Value), (flat q4 l)[j]? = some u → w.cell? ⟨b, o + j, none⟩ = some u) {a : Nat} {x : Q4} (hx : l[a]? = some x) (c : Nat) : RepQ w (.slice (some ⟨b, o + a * 4, none⟩) 1 c) [x] :=
  .inr ⟨b, o + a * 4, c, rfl, fun j u hj => RepQ.row h a x hx j u (by simpa [flat] using hj)⟩
theorem new_one {pn n : ByteArray} {ramp a0 a1 a2 a3 a4 a5 a6 a7 a8 a9 a10 a11 : Int} {st l : List Q4} {x : Q4} (h : newZ pn ramp st n a0 a1 a2 a3 a4 a5 a6 a7 a8 a9 a10 a11 l = 0) (hx : x ∈ l) : newZ pn ramp st n a0 a1 a2 a3 a4 a5 a6 a7 a8 a9 a10 a11 [x] = 0 := by
  obtain ⟨h1, h2, _, _, h5⟩ := new_good h
  have h6 := itemsZ_ok l h5 x hx
  unfold newZ
  rw [if_neg (by omega), if_neg (by omega), if_neg (by simp), if_neg (by simp)]
  apply itemsZ_all
  simp only [List.all_cons, List.all_nil, Bool.and_true, okI, beq_iff_eq]
  unfold itemZ
  rw [if_neg (by omega)]
  exact h6.2.2
theorem begun_one {pn n : ByteArray} {ramp a0 a1 a2 a3 a4 a5 a6 a7 a8 a9 a10 a11 : Int} {vS vI : Value} {st : List Q4} {x : Q4} {w : World} (h2 : Hid (Glob2 w)) (hS : Hid (RepQ w vS st)) (hI : Hid (RepQ w vI [x])) (hs : st.length ≤ 1000000) (hz : newZ pn ramp st n a0 a1 a2 a3 a4 a5 a6 a7 a8 a9 a10 a11 [x] = 0) :
    Calls Tryd.prog 10 #[.agg #[.string pn, .int .i64 ramp, vS, .string n, .int .i64 a0, .int .i64 a1, .int .i64 a2, .int .i64 a3, .int .i64 a4, .int .i64 a5, .int .i64 a6, .int .i64 a7, .int .i64 a8, .int .i64 a9, .int .i64 a10, .int .i64 a11, vI]] w fun e w' => ∃ gk1 gi1 ci1 pad1 gs1 cs1 pads1, e = .returned (.tuple #[.pointer (some ⟨gk1, 0, none⟩), .int .i64 0]) ∧
      Own w [(gk1, 74, #[.string pn, .int .i64 ramp, .slice (some ⟨gs1, 0, none⟩) st.length cs1, .string n, .int .i64 a0, .int .i64 a1, .int .i64 a2, .int .i64 a3, .int .i64 a4, .int .i64 a5, .int .i64 a6, .int .i64 a7, .int .i64 a8, .int .i64 a9, .int .i64 a10, .int .i64 a11, .slice (some ⟨gi1, 0, none⟩) 1 ci1, .int .i64 200, .int .i64 100, .int .i64 0, .int .i64 0, .int .i64 0, .int .i64 0]), (gi1, 53, (flat q4 [x] ++ pad1).toArray), (gs1, 65, (flat q4 st ++ pads1).toArray)] w' := by
  refine (begun_any pn n ramp a0 a1 a2 a3 a4 a5 a6 a7 a8 a9 a10 a11 vS vI st [x] w h2 hS hI hs (by simp)).mono ?_
  rintro e w' (⟨k1, _⟩ | ⟨_, gk, gi, ci, pad, gs, cs, pads, rfl, hO⟩)
  · exact absurd hz k1
  · exact ⟨gk, gi, ci, pad, gs, cs, pads, rfl, hO⟩
theorem items38_one (gk gs gi cs ci ns : Nat) (pn n : ByteArray) (ramp a0 a1 a2 a3 a4 a5 a6 a7 a8 a9 a10 a11 t d stage ins ticks held : Int) (x : Q4) (pad : List Value) (w : World)
    (HK : Hid (Blk w gk 74 #[.string pn, .int .i64 ramp, .slice (some ⟨gs, 0, none⟩) ns cs, .string n, .int .i64 a0, .int .i64 a1, .int .i64 a2, .int .i64 a3, .int .i64 a4, .int .i64 a5, .int .i64 a6, .int .i64 a7, .int .i64 a8, .int .i64 a9, .int .i64 a10, .int .i64 a11, .slice (some ⟨gi, 0, none⟩) 1 ci, .int .i64 t, .int .i64 d, .int .i64 stage, .int .i64 ins, .int .i64 ticks, .int .i64 held])) (HI : Hid (Blk w gi 53 (flat q4 [x] ++ pad).toArray)) :
    Calls Tryd.prog 22 #[.pointer (some ⟨gk, 0, none⟩)] w fun e w' => ∃ g c pad', e = .returned (.slice (some ⟨g, 0, none⟩) 1 c) ∧ Own w [(g, 54, (flat q4 [x] ++ pad').toArray)] w' :=
  items38_any gk gs gi cs ci ns 1 pn n ramp a0 a1 a2 a3 a4 a5 a6 a7 a8 a9 a10 a11 t d stage ins ticks held [x] pad w (by simp) (by simp) rfl HK HI
theorem Acc.ints {w0 w : World} {L v n} {B : List Int} (h : Acc w0 L 3 1 v n (B.map (Value.int .i64 ·)) w) (hn : n = B.length) : ∃ A c RB, v = .slice A B.length c ∧ Own w0 (L ++ RB) w ∧ ∀ w', Own w0 RB w' → RepI w' v B := by
  subst hn
  rcases Nat.eq_zero_or_pos B.length with hz | hz
  · obtain rfl : B = [] := List.length_eq_zero_iff.1 hz
    rcases h.row.2 with ⟨hv, _⟩ | ⟨g, cap, cur, hv, _⟩
    · exact ⟨none, 0, [], hv, by rw [List.append_nil]; exact h.own, fun _ _ => .inl ⟨none, 0, hv, rfl⟩⟩
    · exact ⟨some ⟨g, 0, none⟩, cap, [], hv, by rw [List.append_nil]; exact h.own, fun _ _ => .inl ⟨_, _, hv, rfl⟩⟩
  · obtain ⟨g, c, pad, rfl, hO⟩ := h.blk hz
    refine ⟨some ⟨g, 0, none⟩, c, [(g, 3, (B.map (Value.int .i64 ·) ++ pad).toArray)], rfl, hO.perm List.perm_append_comm, fun w' h' => .inr ⟨g, 0, c, rfl, fun j x hj => ?_⟩⟩
    have hb := (h'.at 0 rfl).cell j
    rw [Nat.zero_add, hb, List.getElem?_toArray, List.getElem?_append_left (by simpa using (List.getElem?_eq_some_iff.1 hj).1), List.getElem?_map, hj]
    rfl
theorem back_map {f : List Int} {k : Nat} {x : Int} (h : f[k]? = some x) : (backK f k).map (Value.int .i64 ·) = (backK f (k + 1)).map (Value.int .i64 ·) ++ [.int .i64 x, .int .i64 x] := by
  rw [backK_step h, List.map_append]
  rfl
/-- What holds between a kiln and that of one of its boards. -/
structure Pair (P : KP) (l : List Q4) (x0 : Q4) (at_ k : Nat) (s s1 : KS) : Prop where
  one : LInv P l k s
  two : LInv P [x0] k s1
  brd : ∃ x, s.l[at_]? = some x ∧ s1.l = [x]
  t : s.t = s1.t
  d : s.d = s1.d
  held : s.held = 0
set_option maxHeartbeats 16000000 in
set_option maxRecDepth 100000 in
theorem alone_any (pn n : ByteArray) (ramp a0 a1 a2 a3 a4 a5 a6 a7 a8 a9 a10 a11 : Int) (wh : Int) (vS vI vF : Value) (st l : List Q4) (F : List (List Int)) (w : World) (hG : Hid (Glob w)) (h2 : Hid (Glob2 w)) (hS : Hid (RepQ w vS st)) (hI : Hid (RepQ w vI l)) (hcap : Hid (∀ A m c, vI = .slice A m c → m ≤ c)) (hwh : 0 ≤ wh ∧ wh ≤ 255) (hF : Hid (RepF w vF F))
    (hl : F.length ≤ 9223372036854775807) (hlf : Hid (∀ f ∈ F, f.length ≤ 9223372036854775807)) :
    Calls Tryd.prog 6 #[.agg #[.string pn, .int .i64 ramp, vS, .string n, .int .i64 a0, .int .i64 a1, .int .i64 a2, .int .i64 a3, .int .i64 a4, .int .i64 a5, .int .i64 a6, .int .i64 a7, .int .i64 a8, .int .i64 a9, .int .i64 a10, .int .i64 a11, vI], .int .u8 wh, vF] w fun e w' => e = .returned (.bool true) ∧ Below w.heap.size w w' := by
  have HSQ := hS
  obtain ⟨sA, sc, hvS⟩ := hS.out.form
  obtain ⟨iA, ic, hvI⟩ := hI.out.form
  obtain ⟨fA, fc, hvF⟩ := hF.out.form
  subst hvS hvI hvF
  have hlic := hcap.out _ _ _ rfl
  clear hcap
  have hO := Own.nil w
  obtain ⟨lb, hlb⟩ : ∃ b, lightB st.length l.length pn n = b := ⟨_, rfl⟩
  obtain ⟨fb, hfb⟩ : ∃ b, fewB F = b := ⟨_, rfl⟩
  obtain ⟨mb, hmb⟩ : ∃ b, decide ((30 : Int) < (F.length : Int)) = b := ⟨_, rfl⟩
  have HL : Hid (∀ w, Calls Tryd.prog 8 #[.agg #[.string pn, .int .i64 ramp, .slice sA st.length sc, .string n, .int .i64 a0, .int .i64 a1, .int .i64 a2, .int .i64 a3, .int .i64 a4, .int .i64 a5, .int .i64 a6, .int .i64 a7, .int .i64 a8, .int .i64 a9, .int .i64 a10, .int .i64 a11, .slice iA l.length ic]] w fun e w' => e = .returned (.bool lb) ∧ Below w.heap.size w w') := Lib.hid (fun w => hlb ▸ light_any pn n ramp a0 a1 a2 a3 a4 a5 a6 a7 a8 a9 a10 a11 sA iA st.length l.length sc ic w)
  have HW : Hid (∀ w, Hid (RepF w (.slice fA F.length fc) F) → Calls Tryd.prog 13 #[.slice fA F.length fc] w fun e w' => e = .returned (.bool fb) ∧ Below w.heap.size w w') := Lib.hid (fun w h => hfb ▸ few_any _ F w h hl hlf)
  clear hl
  obtain ⟨bad, hbad⟩ : ∃ b, (!lb || !fb || mb) = b := ⟨_, rfl⟩
  cases bad with
  | true =>
    clear hlb hfb hlic
    cases lb <;> cases fb <;> cases mb <;> first | (exfalso; revert hbad; decide) | skip
    all_goals
      clear hbad
      go_enter Tryd.func6, Tryd.ntmps6
      go_wp2_with (first
    | ((with_reducible refine gate_alloc 29 rfl ?_); refine own_alloc rfl 29 rfl hO _ rfl #[.string ⟨#[]⟩, .int .i64 0, .slice none 0 0, .string ⟨#[]⟩, .int .i64 0, .int .i64 0, .int .i64 0, .int .i64 0, .int .i64 0, .int .i64 0, .int .i64 0, .int .i64 0, .int .i64 0, .int .i64 0, .int .i64 0, .int .i64 0, .slice none 0 0] (by kernel_rfl) ?_; clear hO; (try clear w_); intro g_ w_ hO)
    | ((with_reducible refine gate_box 29 rfl ?_); refine own_box rfl 29 _ rfl hO _ rfl ?_ ?_ ?_; rotate_left; (focus (first | (go_simp; done) | (go_simp; with_reducible rfl) | rfl)); clear hO; (try clear w_); intro g_ w_ hO; simp only [Value.cells] at hO)
    | ((with_reducible refine gate_load 29 rfl ?_); (first | refine own_load_row rfl 29 _ rfl hO 0 _ _ rfl _ _ rfl _ rfl 17 ?_ ?_ ?_ _ Tryd.underlying29 rfl ?_ ?_); rotate_left; (focus (first | (with_reducible exact hrow_) | (with_reducible exact hrow2_) | (simp only [Array.toList_extract, List.extract_toArray, List.extract_eq_take_drop, List.drop_zero, List.drop_succ_cons, List.take_succ_cons, List.take_zero, Nat.reduceAdd, Nat.reduceSub, Nat.zero_add, Nat.add_zero, Nat.add_sub_cancel_left, Nat.sub_zero, Nat.sub_self]; rfl))); (focus rfl); (focus kernel_rfl))
    | ((with_reducible refine gate_store 29 rfl ?_); (first | refine own_store rfl 29 _ _ rfl hO 0 _ _ ?_ rfl ?_ _ _ rfl _ rfl ?_ ?_ ?_ ?_); rotate_left; (focus (first | (go_simp; done) | (go_simp; with_reducible rfl) | rfl)); (focus (first | (exact hble_) | kernel_rfl)); (focus kernel_rfl); (focus kernel_rfl); clear hO; (try clear w_); intro w_ hO; (first | (simp only [Value.cells] at hO; rw [hput_] at hO) | simp only [List.set_cons_zero, List.set_cons_succ, putAllA, Value.cells, List.setIfInBounds_toArray] at hO))
    | (go_at_call 8; (with_reducible refine (HL.out _).mono ?_); rintro e w_ ⟨rfl, hb_⟩; replace hO := Own.call hO hb_; clear hb_)
    | (go_at_call 13; (with_reducible refine (HW.out _ (Lib.hid (hF.out.below hO.bel))).mono ?_); rintro e w_ ⟨rfl, hb_⟩; replace hO := Own.call hO hb_; clear hb_)
    | (go_at_call 9; (with_reducible refine (awake38_any _ (Lib.hid (hG.out.below hO.bel)) (Lib.hid (h2.out.below hO.bel))).mono ?_); rintro e w_ ⟨rfl, hb_⟩; replace hO := Own.call hO hb_; clear hb_)
      )
      go_ret
      exact ⟨rfl, hO.bel⟩
  | false =>
      obtain ⟨rfl, rfl, rfl⟩ : lb = true ∧ fb = true ∧ mb = false := by
        revert hbad
        cases lb <;> cases fb <;> cases mb <;> decide
      obtain ⟨m1, m2⟩ := light_len hlb
      obtain ⟨m3, m4⟩ := few_len hfb
      have M4 := Lib.hid m4
      clear hlb hfb m4 hlf hbad
      go_enter Tryd.func6, Tryd.ntmps6
      go_wp2_with (first
    | ((with_reducible refine gate_alloc 29 rfl ?_); refine own_alloc rfl 29 rfl hO _ rfl #[.string ⟨#[]⟩, .int .i64 0, .slice none 0 0, .string ⟨#[]⟩, .int .i64 0, .int .i64 0, .int .i64 0, .int .i64 0, .int .i64 0, .int .i64 0, .int .i64 0, .int .i64 0, .int .i64 0, .int .i64 0, .int .i64 0, .int .i64 0, .slice none 0 0] (by kernel_rfl) ?_; clear hO; (try clear w_); intro g_ w_ hO)
    | ((with_reducible refine gate_box 29 rfl ?_); refine own_box rfl 29 _ rfl hO _ rfl ?_ ?_ ?_; rotate_left; (focus (first | (go_simp; done) | (go_simp; with_reducible rfl) | rfl)); clear hO; (try clear w_); intro g_ w_ hO; simp only [Value.cells] at hO)
    | ((with_reducible refine gate_load 29 rfl ?_); (first | refine own_load_row rfl 29 _ rfl hO 0 _ _ rfl _ _ rfl _ rfl 17 ?_ ?_ ?_ _ Tryd.underlying29 rfl ?_ ?_); rotate_left; (focus (first | (with_reducible exact hrow_) | (with_reducible exact hrow2_) | (simp only [Array.toList_extract, List.extract_toArray, List.extract_eq_take_drop, List.drop_zero, List.drop_succ_cons, List.take_succ_cons, List.take_zero, Nat.reduceAdd, Nat.reduceSub, Nat.zero_add, Nat.add_zero, Nat.add_sub_cancel_left, Nat.sub_zero, Nat.sub_self]; rfl))); (focus rfl); (focus kernel_rfl))
    | ((with_reducible refine gate_store 29 rfl ?_); (first | refine own_store rfl 29 _ _ rfl hO 0 _ _ ?_ rfl ?_ _ _ rfl _ rfl ?_ ?_ ?_ ?_); rotate_left; (focus (first | (go_simp; done) | (go_simp; with_reducible rfl) | rfl)); (focus (first | (exact hble_) | kernel_rfl)); (focus kernel_rfl); (focus kernel_rfl); clear hO; (try clear w_); intro w_ hO; (first | (simp only [Value.cells] at hO; rw [hput_] at hO) | simp only [List.set_cons_zero, List.set_cons_succ, putAllA, Value.cells, List.setIfInBounds_toArray] at hO))
    | (go_at_call 8; (with_reducible refine (HL.out _).mono ?_); rintro e w_ ⟨rfl, hb_⟩; replace hO := Own.call hO hb_; clear hb_)
    | (go_at_call 13; (with_reducible refine (HW.out _ (Lib.hid (hF.out.below hO.bel))).mono ?_); rintro e w_ ⟨rfl, hb_⟩; replace hO := Own.call hO hb_; clear hb_)
      )
      have hbel := hO.bel
      refine (begun_any pn n ramp a0 a1 a2 a3 a4 a5 a6 a7 a8 a9 a10 a11 (.slice sA st.length sc) (.slice iA l.length ic) st l _ (Lib.hid (h2.out.below hbel)) (Lib.hid (hS.out.below hbel)) (Lib.hid (hI.out.below hbel)) (by omega) (by omega)).mono ?_
      clear hbel
      generalize g_ = gx at *
      rintro e w3 hN
      rcases hN with ⟨k1, rfl, k3⟩ | ⟨k1, gk, gi0, ci0, pad0, gs, cs, pads, rfl, k3⟩
      · have q1 : (newZ pn ramp st n a0 a1 a2 a3 a4 a5 a6 a7 a8 a9 a10 a11 l != 0) = true := by simpa using k1
        replace hO := hO.call k3
        generalize newZ pn ramp st n a0 a1 a2 a3 a4 a5 a6 a7 a8 a9 a10 a11 l = ez at *
        clear k1 k3 m1 m2 m3 hlic hwh
        go_wp2_with (first
    | (go_at_call 9; (with_reducible refine (awake38_any _ (Lib.hid (hG.out.below hO.bel)) (Lib.hid (h2.out.below hO.bel))).mono ?_); rintro e w_ ⟨rfl, hb_⟩; replace hO := Own.call hO hb_; clear hb_)
        )
        go_ret
        exact ⟨rfl, hO.bel⟩
      · obtain ⟨n1, n2, n3, n4, n5⟩ := new_good k1
        have hss := sched_stages n1
        have hww := wood_good n2
        have hval := itemsZ_valid n5
        have hsl := sched_len n1
        replace hO := hO.join k3
        simp only [List.cons_append, List.nil_append] at hO
        have q1 := ptr_eql gk
        have q3 : ((l.length : Int) == 0) = false := by
          rw [beq_eq_false_iff_ne]
          omega
        have HSS := Lib.hid hss
        have HWW := Lib.hid hww
        obtain ⟨bi, oi, hiA, HIc⟩ : ∃ b o, iA = some ⟨b, o, none⟩ ∧ Hid (∀ (j : Nat) (u : Value), (flat q4 l)[j]? = some u → w.cell? ⟨b, o + j, none⟩ = some u) := by
          rcases hI.out with ⟨_, _, _, h0⟩ | ⟨b, o, c, hv, hc⟩
          · rw [h0] at n3
            simp at n3
          · injection hv with hv _ _
            exact ⟨b, o, hv, Lib.hid hc⟩
        subst hiA
        obtain ⟨at_, hat⟩ : ∃ a : Nat, wh.toNat % l.length = a := ⟨_, rfl⟩
        have hatl : at_ < l.length := by
          rw [← hat]
          exact Nat.mod_lt _ n3
        obtain ⟨x0, hx0⟩ : ∃ x, l[at_]? = some x := ⟨_, List.getElem?_eq_getElem hatl⟩
        have HX0 := Lib.hid hx0
        have HZ1 := Lib.hid (new_one k1 (List.mem_of_getElem? hx0))
        have hinv : Pair ⟨ramp, st, a1, a2, a3, a4, a6, a7⟩ l x0 at_ 0 ⟨l, 200, 100, 0, 0, 0, 0⟩ ⟨[x0], 200, 100, 0, 0, 0, 0⟩ :=
          have hlim : InLim ⟨ramp, st, a1, a2, a3, a4, a6, a7⟩ ⟨l, 200, 100, 0, 0, 0, 0⟩ := ⟨by show (0 : Int) ≤ 200; decide, by show (200 : Int) ≤ a6; omega, by show (0 : Int) ≤ 100; decide, by show (100 : Int) ≤ a7; omega⟩
          ⟨⟨hlim, Within.start hval, Nat.zero_le _, ⟨Int.le_refl _, Int.le_refl _⟩, ⟨Int.le_refl _, Int.le_refl _⟩, ⟨Int.le_refl _, Int.le_refl _⟩⟩,
           ⟨⟨hlim.t0, hlim.t1, hlim.d0, hlim.d1⟩, Within.start (fun z hz => by
              rw [List.mem_singleton] at hz
              subst hz
              exact hval _ (List.mem_of_getElem? hx0)), Nat.zero_le _, ⟨Int.le_refl _, Int.le_refl _⟩, ⟨Int.le_refl _, Int.le_refl _⟩, ⟨Int.le_refl _, Int.le_refl _⟩⟩,
           ⟨x0, hx0, rfl⟩, rfl, rfl, rfl⟩
        clear k1 n1 n2 n5 hss hval k3 hww hx0
        have hrem : wh % (l.length : Int) = (at_ : Int) := by
          rw [← hat, Int.natCast_emod, Int.toNat_of_nonneg hwh.1]
        clear hat

        go_wp2_with (first
    | ((with_reducible refine gate_alloc 27 rfl ?_); refine own_alloc rfl 27 rfl hO _ rfl #[.slice none 0 0] (by kernel_rfl) ?_; clear hO; (try clear w_); intro g_ w_ hO)
    | ((with_reducible refine gate_box 27 rfl ?_); refine own_box rfl 27 _ rfl hO _ rfl ?_ ?_ ?_; rotate_left; (focus (first | (go_simp; done) | (go_simp; with_reducible rfl) | rfl)); clear hO; (try clear w_); intro g_ w_ hO; simp only [Value.cells] at hO)
    | ((with_reducible refine gate_load 27 rfl ?_); (first | refine own_load_one rfl 27 _ rfl hO 0 _ _ rfl _ _ rfl _ rfl ?_ ?_ _ Tryd.underlying27 rfl ?_ | refine own_load_one rfl 27 _ rfl hO 1 _ _ rfl _ _ rfl _ rfl ?_ ?_ _ Tryd.underlying27 rfl ?_ | refine own_load_one rfl 27 _ rfl hO 2 _ _ rfl _ _ rfl _ rfl ?_ ?_ _ Tryd.underlying27 rfl ?_ | refine own_load_one rfl 27 _ rfl hO 3 _ _ rfl _ _ rfl _ rfl ?_ ?_ _ Tryd.underlying27 rfl ?_); rotate_left; (focus (first | (with_reducible exact hcell_) | (simp only [List.getElem?_toArray, List.getElem?_cons_zero, List.getElem?_cons_succ]; rfl))))
    | ((with_reducible refine gate_store 27 rfl ?_); (first | refine own_store rfl 27 _ _ rfl hO 0 _ _ ?_ rfl ?_ _ _ rfl _ rfl ?_ ?_ ?_ ?_ | refine own_store rfl 27 _ _ rfl hO 1 _ _ ?_ rfl ?_ _ _ rfl _ rfl ?_ ?_ ?_ ?_ | refine own_store rfl 27 _ _ rfl hO 2 _ _ ?_ rfl ?_ _ _ rfl _ rfl ?_ ?_ ?_ ?_ | refine own_store rfl 27 _ _ rfl hO 3 _ _ ?_ rfl ?_ _ _ rfl _ rfl ?_ ?_ ?_ ?_); rotate_left; (focus (first | (go_simp; done) | (go_simp; with_reducible rfl) | rfl)); (focus (first | (exact hble_) | kernel_rfl)); (focus kernel_rfl); (focus kernel_rfl); clear hO; (try clear w_); intro w_ hO; (first | (simp only [Value.cells] at hO; rw [hput_] at hO) | simp only [List.set_cons_zero, List.set_cons_succ, putAllA, Value.cells, List.setIfInBounds_toArray] at hO))
        )
        go_upto_region 7 with (first
    | ((with_reducible refine gate_alloc 27 rfl ?_); refine own_alloc rfl 27 rfl hO _ rfl #[.slice none 0 0] (by kernel_rfl) ?_; clear hO; (try clear w_); intro g_ w_ hO)
    | ((with_reducible refine gate_box 27 rfl ?_); refine own_box rfl 27 _ rfl hO _ rfl ?_ ?_ ?_; rotate_left; (focus (first | (go_simp; done) | (go_simp; with_reducible rfl) | rfl)); clear hO; (try clear w_); intro g_ w_ hO; simp only [Value.cells] at hO)
    | ((with_reducible refine gate_load 27 rfl ?_); (first | refine own_load_one rfl 27 _ rfl hO 0 _ _ rfl _ _ rfl _ rfl ?_ ?_ _ Tryd.underlying27 rfl ?_ | refine own_load_one rfl 27 _ rfl hO 1 _ _ rfl _ _ rfl _ rfl ?_ ?_ _ Tryd.underlying27 rfl ?_ | refine own_load_one rfl 27 _ rfl hO 2 _ _ rfl _ _ rfl _ rfl ?_ ?_ _ Tryd.underlying27 rfl ?_ | refine own_load_one rfl 27 _ rfl hO 3 _ _ rfl _ _ rfl _ rfl ?_ ?_ _ Tryd.underlying27 rfl ?_); rotate_left; (focus (first | (with_reducible exact hcell_) | (simp only [List.getElem?_toArray, List.getElem?_cons_zero, List.getElem?_cons_succ]; rfl))))
    | ((with_reducible refine gate_store 27 rfl ?_); (first | refine own_store rfl 27 _ _ rfl hO 0 _ _ ?_ rfl ?_ _ _ rfl _ rfl ?_ ?_ ?_ ?_ | refine own_store rfl 27 _ _ rfl hO 1 _ _ ?_ rfl ?_ _ _ rfl _ rfl ?_ ?_ ?_ ?_ | refine own_store rfl 27 _ _ rfl hO 2 _ _ ?_ rfl ?_ _ _ rfl _ rfl ?_ ?_ ?_ ?_ | refine own_store rfl 27 _ _ rfl hO 3 _ _ ?_ rfl ?_ _ _ rfl _ rfl ?_ ?_ ?_ ?_); rotate_left; (focus (first | (go_simp; done) | (go_simp; with_reducible rfl) | rfl)); (focus (first | (exact hble_) | kernel_rfl)); (focus kernel_rfl); (focus kernel_rfl); clear hO; (try clear w_); intro w_ hO; (first | (simp only [Value.cells] at hO; rw [hput_] at hO) | simp only [List.set_cons_zero, List.set_cons_succ, putAllA, Value.cells, List.setIfInBounds_toArray] at hO))
        )
        (try simp only [Act.put, List.setIfInBounds_toArray, List.set_cons_zero, List.set_cons_succ])
        rw [hrem]
        have sa1 : (0 : Int) ≤ (at_ : Int) + 1 := by omega
        have sa2 : (at_ : Int) + 1 ≤ (ic : Int) := by omega
        have sa3 : ¬ ic = at_ := by omega
        have s1 : IntKind.i64.wrap ((at_ : Int) + 1) = (at_ : Int) + 1 := IntWalk.i64_in _ (by omega)
        obtain ⟨ie, hie, hze, hsz, _⟩ := info_parts ritem_info
        have sl1 : ∀ w : World, (Instr.slice 27 (.slice (some ⟨bi, oi, none⟩) l.length ic) (some (.int .i64 (at_ : Int))) (some (.int .i64 ((at_ : Int) + 1))) none).run Tryd.prog w = .ok (.slice (some ⟨bi, oi + at_ * 4, none⟩) 1 (ic - at_)) w := fun w => run_slice_mid _ _ Tryd.underlying27 ie hie 4 hsz bi oi l.length ic at_ (by omega) w
        have sl2 : ∀ w : World, (Instr.sliceAt 27 (.slice (some ⟨bi, oi, none⟩) l.length ic) (some (.int .i64 (at_ : Int))) (some (.int .i64 ((at_ : Int) + 1))) none).run Tryd.prog w = .ok (.slice (some ⟨bi, oi + at_ * 4, none⟩) 1 (ic - at_)) w := fun w => (run_sliceAt _ _ Tryd.underlying27 _ _ _ _ w).trans (sl1 w)
        clear hrem hwh hie hze hsz

        refine start_ (n := 17) (S := fun w' => Own w [(gk, 74, #[.string pn, .int .i64 ramp, .slice (some ⟨gs, 0, none⟩) st.length cs, .string n, .int .i64 a0, .int .i64 a1, .int .i64 a2, .int .i64 a3, .int .i64 a4, .int .i64 a5, .int .i64 a6, .int .i64 a7, .int .i64 a8, .int .i64 a9, .int .i64 a10, .int .i64 a11, .slice (some ⟨gi0, 0, none⟩) l.length ci0, .int .i64 200, .int .i64 100, .int .i64 0, .int .i64 0, .int .i64 0, .int .i64 0]), (gi0, 53, (flat q4 l ++ pad0).toArray), (gs, 65, (flat q4 st ++ pads).toArray), (gx, 29, #[.string pn, .int .i64 ramp, .slice sA st.length sc, .string n, .int .i64 a0, .int .i64 a1, .int .i64 a2, .int .i64 a3, .int .i64 a4, .int .i64 a5, .int .i64 a6, .int .i64 a7, .int .i64 a8, .int .i64 a9, .int .i64 a10, .int .i64 a11, .slice (some ⟨bi, oi, none⟩) l.length ic])] w') (ds := []) #[false, false, false, false, false, false, false, false, false, false, false, false, false, false, false, false, false] (by kernel_rfl) rfl rfl (Own.drew hO) (fun hS => ?_)
        clear hO
        have hO := hS
        refine pure_ (i := 0) (N := some 58) (v := ?_) (a' := ?_) #[true, false, false, false, false, false, false, false, false, false, false, false, false, false, false, false, false] rfl rfl (by kernel_rfl) (fun _ _ _ h => h) (Or.inl ⟨by rfl, ?_⟩) ?_ ?_
        rotate_left
        · intro w'
          go_simp
          with_reducible rfl
        rotate_left
        · simp only [Act.put, List.setIfInBounds_toArray, List.set_cons_zero, List.set_cons_succ]
          rfl
        first
          | (refine take_ (i := 1) (N := some 59) (a' := ?_) #[true, true, false, false, false, false, false, false, false, false, false, false, false, false, false, false, false] rfl rfl (by kernel_rfl) (fun _ _ _ h => h) (yRow hS ?_ 24 _ rfl 0 _ _ rfl _ _ rfl 3 ?_ ?_ ?_ _ Tryd.underlying24 rfl ?_) hS ?_ ?_; (focus rfl); rotate_left; (focus (first | (with_reducible exact hrow_) | (with_reducible exact hrow2_) | (simp only [Array.toList_extract, List.extract_toArray, List.extract_eq_take_drop, List.drop_zero, List.drop_succ_cons, List.take_succ_cons, List.take_zero, Nat.reduceAdd, Nat.reduceSub, Nat.zero_add, Nat.add_zero, Nat.add_sub_cancel_left, Nat.sub_zero, Nat.sub_self]; rfl))); (focus rfl); (focus kernel_rfl); rotate_left; (focus (simp only [Act.put, List.setIfInBounds_toArray, List.set_cons_zero, List.set_cons_succ]; rfl)))
          | (refine take_ (i := 1) (N := some 59) (a' := ?_) #[true, true, false, false, false, false, false, false, false, false, false, false, false, false, false, false, false] rfl rfl (by kernel_rfl) (fun _ _ _ h => h) (yRow hS ?_ 24 _ rfl 1 _ _ rfl _ _ rfl 3 ?_ ?_ ?_ _ Tryd.underlying24 rfl ?_) hS ?_ ?_; (focus rfl); rotate_left; (focus (first | (with_reducible exact hrow_) | (with_reducible exact hrow2_) | (simp only [Array.toList_extract, List.extract_toArray, List.extract_eq_take_drop, List.drop_zero, List.drop_succ_cons, List.take_succ_cons, List.take_zero, Nat.reduceAdd, Nat.reduceSub, Nat.zero_add, Nat.add_zero, Nat.add_sub_cancel_left, Nat.sub_zero, Nat.sub_self]; rfl))); (focus rfl); (focus kernel_rfl); rotate_left; (focus (simp only [Act.put, List.setIfInBounds_toArray, List.set_cons_zero, List.set_cons_succ]; rfl)))
          | (refine take_ (i := 1) (N := some 59) (a' := ?_) #[true, true, false, false, false, false, false, false, false, false, false, false, false, false, false, false, false] rfl rfl (by kernel_rfl) (fun _ _ _ h => h) (yRow hS ?_ 24 _ rfl 2 _ _ rfl _ _ rfl 3 ?_ ?_ ?_ _ Tryd.underlying24 rfl ?_) hS ?_ ?_; (focus rfl); rotate_left; (focus (first | (with_reducible exact hrow_) | (with_reducible exact hrow2_) | (simp only [Array.toList_extract, List.extract_toArray, List.extract_eq_take_drop, List.drop_zero, List.drop_succ_cons, List.take_succ_cons, List.take_zero, Nat.reduceAdd, Nat.reduceSub, Nat.zero_add, Nat.add_zero, Nat.add_sub_cancel_left, Nat.sub_zero, Nat.sub_self]; rfl))); (focus rfl); (focus kernel_rfl); rotate_left; (focus (simp only [Act.put, List.setIfInBounds_toArray, List.set_cons_zero, List.set_cons_succ]; rfl)))
          | (refine take_ (i := 1) (N := some 59) (a' := ?_) #[true, true, false, false, false, false, false, false, false, false, false, false, false, false, false, false, false] rfl rfl (by kernel_rfl) (fun _ _ _ h => h) (yRow hS ?_ 24 _ rfl 3 _ _ rfl _ _ rfl 3 ?_ ?_ ?_ _ Tryd.underlying24 rfl ?_) hS ?_ ?_; (focus rfl); rotate_left; (focus (first | (with_reducible exact hrow_) | (with_reducible exact hrow2_) | (simp only [Array.toList_extract, List.extract_toArray, List.extract_eq_take_drop, List.drop_zero, List.drop_succ_cons, List.take_succ_cons, List.take_zero, Nat.reduceAdd, Nat.reduceSub, Nat.zero_add, Nat.add_zero, Nat.add_sub_cancel_left, Nat.sub_zero, Nat.sub_self]; rfl))); (focus rfl); (focus kernel_rfl); rotate_left; (focus (simp only [Act.put, List.setIfInBounds_toArray, List.set_cons_zero, List.set_cons_succ]; rfl)))
        refine pure_ (i := 2) (N := some 60) (v := ?_) (a' := ?_) #[true, true, true, false, false, false, false, false, false, false, false, false, false, false, false, false, false] rfl rfl (by kernel_rfl) (fun _ _ _ h => h) (Or.inl ⟨by rfl, ?_⟩) ?_ ?_
        rotate_left
        · intro w'
          go_simp
          with_reducible rfl
        rotate_left
        · simp only [Act.put, List.setIfInBounds_toArray, List.set_cons_zero, List.set_cons_succ]
          rfl
        first
          | (refine take_ (i := 3) (N := some 61) (a' := ?_) #[true, true, true, true, false, false, false, false, false, false, false, false, false, false, false, false, false] rfl rfl (by kernel_rfl) (fun _ _ _ h => h) (yRow hS ?_ 26 _ rfl 0 _ _ rfl _ _ rfl 13 ?_ ?_ ?_ _ Tryd.underlying26 rfl ?_) hS ?_ ?_; (focus rfl); rotate_left; (focus (first | (with_reducible exact hrow_) | (with_reducible exact hrow2_) | (simp only [Array.toList_extract, List.extract_toArray, List.extract_eq_take_drop, List.drop_zero, List.drop_succ_cons, List.take_succ_cons, List.take_zero, Nat.reduceAdd, Nat.reduceSub, Nat.zero_add, Nat.add_zero, Nat.add_sub_cancel_left, Nat.sub_zero, Nat.sub_self]; rfl))); (focus rfl); (focus kernel_rfl); rotate_left; (focus (simp only [Act.put, List.setIfInBounds_toArray, List.set_cons_zero, List.set_cons_succ]; rfl)))
          | (refine take_ (i := 3) (N := some 61) (a' := ?_) #[true, true, true, true, false, false, false, false, false, false, false, false, false, false, false, false, false] rfl rfl (by kernel_rfl) (fun _ _ _ h => h) (yRow hS ?_ 26 _ rfl 1 _ _ rfl _ _ rfl 13 ?_ ?_ ?_ _ Tryd.underlying26 rfl ?_) hS ?_ ?_; (focus rfl); rotate_left; (focus (first | (with_reducible exact hrow_) | (with_reducible exact hrow2_) | (simp only [Array.toList_extract, List.extract_toArray, List.extract_eq_take_drop, List.drop_zero, List.drop_succ_cons, List.take_succ_cons, List.take_zero, Nat.reduceAdd, Nat.reduceSub, Nat.zero_add, Nat.add_zero, Nat.add_sub_cancel_left, Nat.sub_zero, Nat.sub_self]; rfl))); (focus rfl); (focus kernel_rfl); rotate_left; (focus (simp only [Act.put, List.setIfInBounds_toArray, List.set_cons_zero, List.set_cons_succ]; rfl)))
          | (refine take_ (i := 3) (N := some 61) (a' := ?_) #[true, true, true, true, false, false, false, false, false, false, false, false, false, false, false, false, false] rfl rfl (by kernel_rfl) (fun _ _ _ h => h) (yRow hS ?_ 26 _ rfl 2 _ _ rfl _ _ rfl 13 ?_ ?_ ?_ _ Tryd.underlying26 rfl ?_) hS ?_ ?_; (focus rfl); rotate_left; (focus (first | (with_reducible exact hrow_) | (with_reducible exact hrow2_) | (simp only [Array.toList_extract, List.extract_toArray, List.extract_eq_take_drop, List.drop_zero, List.drop_succ_cons, List.take_succ_cons, List.take_zero, Nat.reduceAdd, Nat.reduceSub, Nat.zero_add, Nat.add_zero, Nat.add_sub_cancel_left, Nat.sub_zero, Nat.sub_self]; rfl))); (focus rfl); (focus kernel_rfl); rotate_left; (focus (simp only [Act.put, List.setIfInBounds_toArray, List.set_cons_zero, List.set_cons_succ]; rfl)))
          | (refine take_ (i := 3) (N := some 61) (a' := ?_) #[true, true, true, true, false, false, false, false, false, false, false, false, false, false, false, false, false] rfl rfl (by kernel_rfl) (fun _ _ _ h => h) (yRow hS ?_ 26 _ rfl 3 _ _ rfl _ _ rfl 13 ?_ ?_ ?_ _ Tryd.underlying26 rfl ?_) hS ?_ ?_; (focus rfl); rotate_left; (focus (first | (with_reducible exact hrow_) | (with_reducible exact hrow2_) | (simp only [Array.toList_extract, List.extract_toArray, List.extract_eq_take_drop, List.drop_zero, List.drop_succ_cons, List.take_succ_cons, List.take_zero, Nat.reduceAdd, Nat.reduceSub, Nat.zero_add, Nat.add_zero, Nat.add_sub_cancel_left, Nat.sub_zero, Nat.sub_self]; rfl))); (focus rfl); (focus kernel_rfl); rotate_left; (focus (simp only [Act.put, List.setIfInBounds_toArray, List.set_cons_zero, List.set_cons_succ]; rfl)))
        refine pure_ (i := 4) (N := some 62) (v := ?_) (a' := ?_) #[true, true, true, true, true, false, false, false, false, false, false, false, false, false, false, false, false] rfl rfl (by kernel_rfl) (fun _ _ _ h => h) (Or.inl ⟨by rfl, ?_⟩) ?_ ?_
        rotate_left
        · intro w'
          go_simp
          with_reducible rfl
        rotate_left
        · simp only [Act.put, List.setIfInBounds_toArray, List.set_cons_zero, List.set_cons_succ]
          rfl
        first
          | (refine take_ (i := 5) (N := some 63) (a' := ?_) #[true, true, true, true, true, true, false, false, false, false, false, false, false, false, false, false, false] rfl rfl (by kernel_rfl) (fun _ _ _ h => h) (yOne hS ?_ 27 _ rfl 0 _ _ rfl _ _ rfl ?_ ?_ _ Tryd.underlying27 rfl) hS ?_ ?_; (focus rfl); rotate_left; (focus (first | (with_reducible exact hcell_) | (simp only [List.getElem?_toArray, List.getElem?_cons_zero, List.getElem?_cons_succ]; rfl))); rotate_left; (focus (simp only [Act.put, List.setIfInBounds_toArray, List.set_cons_zero, List.set_cons_succ]; rfl)))
          | (refine take_ (i := 5) (N := some 63) (a' := ?_) #[true, true, true, true, true, true, false, false, false, false, false, false, false, false, false, false, false] rfl rfl (by kernel_rfl) (fun _ _ _ h => h) (yOne hS ?_ 27 _ rfl 1 _ _ rfl _ _ rfl ?_ ?_ _ Tryd.underlying27 rfl) hS ?_ ?_; (focus rfl); rotate_left; (focus (first | (with_reducible exact hcell_) | (simp only [List.getElem?_toArray, List.getElem?_cons_zero, List.getElem?_cons_succ]; rfl))); rotate_left; (focus (simp only [Act.put, List.setIfInBounds_toArray, List.set_cons_zero, List.set_cons_succ]; rfl)))
          | (refine take_ (i := 5) (N := some 63) (a' := ?_) #[true, true, true, true, true, true, false, false, false, false, false, false, false, false, false, false, false] rfl rfl (by kernel_rfl) (fun _ _ _ h => h) (yOne hS ?_ 27 _ rfl 2 _ _ rfl _ _ rfl ?_ ?_ _ Tryd.underlying27 rfl) hS ?_ ?_; (focus rfl); rotate_left; (focus (first | (with_reducible exact hcell_) | (simp only [List.getElem?_toArray, List.getElem?_cons_zero, List.getElem?_cons_succ]; rfl))); rotate_left; (focus (simp only [Act.put, List.setIfInBounds_toArray, List.set_cons_zero, List.set_cons_succ]; rfl)))
          | (refine take_ (i := 5) (N := some 63) (a' := ?_) #[true, true, true, true, true, true, false, false, false, false, false, false, false, false, false, false, false] rfl rfl (by kernel_rfl) (fun _ _ _ h => h) (yOne hS ?_ 27 _ rfl 3 _ _ rfl _ _ rfl ?_ ?_ _ Tryd.underlying27 rfl) hS ?_ ?_; (focus rfl); rotate_left; (focus (first | (with_reducible exact hcell_) | (simp only [List.getElem?_toArray, List.getElem?_cons_zero, List.getElem?_cons_succ]; rfl))); rotate_left; (focus (simp only [Act.put, List.setIfInBounds_toArray, List.set_cons_zero, List.set_cons_succ]; rfl)))
        refine pure_ (i := 6) (N := some 64) (v := ?_) (a' := ?_) #[true, true, true, true, true, true, true, false, false, false, false, false, false, false, false, false, false] rfl rfl (by kernel_rfl) (fun _ _ _ h => h) (Or.inl ⟨by rfl, ?_⟩) ?_ ?_
        rotate_left
        · intro w'
          go_simp
          with_reducible rfl
        rotate_left
        · simp only [Act.put, List.setIfInBounds_toArray, List.set_cons_zero, List.set_cons_succ]
          rfl
        refine pure_ (i := 7) (N := some 65) (v := ?_) (a' := ?_) #[true, true, true, true, true, true, true, true, false, false, false, false, false, false, false, false, false] rfl rfl (by kernel_rfl) (fun _ _ _ h => h) (Or.inl ⟨by rfl, ?_⟩) ?_ ?_
        rotate_left
        · intro w'
          go_simp
          with_reducible rfl
        rotate_left
        · simp only [Act.put, List.setIfInBounds_toArray, List.set_cons_zero, List.set_cons_succ]
          rfl
        refine pure_ (i := 8) (N := some 66) (v := ?_) (a' := ?_) #[true, true, true, true, true, true, true, true, true, false, false, false, false, false, false, false, false] rfl rfl (by kernel_rfl) (fun _ _ _ h => h) (Or.inl ⟨by rfl, ?_⟩) ?_ ?_
        rotate_left
        · intro w'
          go_simp
          with_reducible rfl
        rotate_left
        · simp only [Act.put, List.setIfInBounds_toArray, List.set_cons_zero, List.set_cons_succ]
          rfl
        refine pure_ (i := 9) (N := some 67) (v := ?_) (a' := ?_) #[true, true, true, true, true, true, true, true, true, true, false, false, false, false, false, false, false] rfl rfl (by kernel_rfl) (fun _ _ _ h => h) (Or.inl ⟨by rfl, ?_⟩) ?_ ?_
        rotate_left
        · intro w'
          go_simp
          with_reducible rfl
        rotate_left
        · simp only [Act.put, List.setIfInBounds_toArray, List.set_cons_zero, List.set_cons_succ]
          rfl
        refine pure_ (i := 10) (N := some 68) (v := ?_) (a' := ?_) #[true, true, true, true, true, true, true, true, true, true, true, false, false, false, false, false, false] rfl rfl (by kernel_rfl) (fun _ _ _ h => h) (Or.inl ⟨by rfl, ?_⟩) ?_ ?_
        rotate_left
        · intro w'
          go_simp
          with_reducible rfl
        rotate_left
        · simp only [Act.put, List.setIfInBounds_toArray, List.set_cons_zero, List.set_cons_succ]
          rfl
        refine one_ (i := 11) (N := some 69) #[true, true, true, true, true, true, true, true, true, true, true, true, false, false, false, false, false] rfl rfl (by kernel_rfl) (by decide) (fun K hK => ?_)
        refine goes_ Tryd.func10 (by kernel_rfl) rfl #[.agg #[.string pn, .int .i64 ramp, .slice sA st.length sc, .string n, .int .i64 a0, .int .i64 a1, .int .i64 a2, .int .i64 a3, .int .i64 a4, .int .i64 a5, .int .i64 a6, .int .i64 a7, .int .i64 a8, .int .i64 a9, .int .i64 a10, .int .i64 a11, .slice (some ⟨bi, oi + at_ * 4, none⟩) 1 (ic - at_)]] (by rfl) rfl rfl (by (try simp only [List.map_toArray, List.map_cons, List.map_nil]); first | done | rfl) ?_
        with_reducible refine (begun_one (Lib.hid (h2.out.below hO.bel)) (Lib.hid (HSQ.out.below hO.bel)) (Lib.hid (RepQ.below (RepQ.sub HIc.out HX0.out _) hO.bel)) (by omega) HZ1.out).mono ?_
        rintro e w_ ⟨gk1, gi10, ci10, pad10, gs1, cs1, pads1, rfl, hO1⟩
        refine ⟨_, rfl, ?_⟩
        replace hO := Own.join hO hO1
        clear hO1
        simp only [List.cons_append, List.nil_append] at hO
        refine hK.out _ _ (Own.sub hO (List.Sublist.cons _ (List.Sublist.cons _ (List.Sublist.cons _ (List.Sublist.refl _))))) (fun hS => ?_)
        clear hK K
        refine norm_ (a' := ?_) ?_ ?_
        rotate_left
        · show Act.put _ (some 69) _ = _
          simp only [Act.put, List.setIfInBounds_toArray, List.set_cons_zero, List.set_cons_succ]
          rfl
        refine pure_ (i := 12) (N := some 57) (v := ?_) (a' := ?_) #[true, true, true, true, true, true, true, true, true, true, true, true, true, false, false, false, false] rfl rfl (by kernel_rfl) (fun _ _ _ h => h) (Or.inl ⟨by rfl, ?_⟩) ?_ ?_
        rotate_left
        · intro w'
          go_simp
          with_reducible rfl
        rotate_left
        · simp only [Act.put, List.setIfInBounds_toArray, List.set_cons_zero, List.set_cons_succ]
          rfl
        refine pure_ (i := 13) (N := some 70) (v := ?_) (a' := ?_) #[true, true, true, true, true, true, true, true, true, true, true, true, true, true, false, false, false] rfl rfl (by kernel_rfl) (fun _ _ _ h => h) (Or.inl ⟨by rfl, ?_⟩) ?_ ?_
        rotate_left
        · intro w'
          go_simp
          with_reducible rfl
        rotate_left
        · simp only [Act.put, List.setIfInBounds_toArray, List.set_cons_zero, List.set_cons_succ]
          rfl
        refine pure_ (i := 14) (N := some 71) (v := ?_) (a' := ?_) #[true, true, true, true, true, true, true, true, true, true, true, true, true, true, true, false, false] rfl rfl (by kernel_rfl) (fun _ _ _ h => h) (Or.inl ⟨by rfl, ?_⟩) ?_ ?_
        rotate_left
        · intro w'
          go_simp
          with_reducible rfl
        rotate_left
        · simp only [Act.put, List.setIfInBounds_toArray, List.set_cons_zero, List.set_cons_succ]
          rfl
        refine pure_ (i := 15) (N := some 10) (v := ?_) (a' := ?_) #[true, true, true, true, true, true, true, true, true, true, true, true, true, true, true, true, false] rfl rfl (by kernel_rfl) (fun _ _ _ h => h) (Or.inl ⟨by rfl, ?_⟩) ?_ ?_
        rotate_left
        · intro w'
          go_simp
          with_reducible rfl
        rotate_left
        · simp only [Act.put, List.setIfInBounds_toArray, List.set_cons_zero, List.set_cons_succ]
          rfl
        refine pure_ (i := 16) (N := some 11) (v := ?_) (a' := ?_) #[true, true, true, true, true, true, true, true, true, true, true, true, true, true, true, true, true] rfl rfl (by kernel_rfl) (fun _ _ _ h => h) (Or.inl ⟨by rfl, ?_⟩) ?_ ?_
        rotate_left
        · intro w'
          go_simp
          with_reducible rfl
        rotate_left
        · simp only [Act.put, List.setIfInBounds_toArray, List.set_cons_zero, List.set_cons_succ]
          rfl
        refine done_ (by kernel_rfl) ?_
        clear sl1 sl2 s1
        have q2 := ptr_eql gk1
        replace hO := hO.rot3
        go_wp2
        go_loopw [12] (fun i wr => ∃ (k : Nat) (s s1 : KS) (gi ci : Nat) (pad : List Value) (gi1 ci1 : Nat) (pad1 : List Value), k ≤ F.length ∧ i = .int .i64 k ∧ Aside (Pair ⟨ramp, st, a1, a2, a3, a4, a6, a7⟩ l x0 at_ k s s1) ∧ Own w [(gk, 74, #[.string pn, .int .i64 ramp, .slice (some ⟨gs, 0, none⟩) st.length cs, .string n, .int .i64 a0, .int .i64 a1, .int .i64 a2, .int .i64 a3, .int .i64 a4, .int .i64 a5, .int .i64 a6, .int .i64 a7, .int .i64 a8, .int .i64 a9, .int .i64 a10, .int .i64 a11, .slice (some ⟨gi, 0, none⟩) l.length ci, .int .i64 s.t, .int .i64 s.d, .int .i64 s.stage, .int .i64 s.ins, .int .i64 s.ticks, .int .i64 s.held]), (gi, 53, (flat q4 s.l ++ pad).toArray), (gs, 65, (flat q4 st ++ pads).toArray), (gk1, 74, #[.string pn, .int .i64 ramp, .slice (some ⟨gs1, 0, none⟩) st.length cs1, .string n, .int .i64 a0, .int .i64 a1, .int .i64 a2, .int .i64 a3, .int .i64 a4, .int .i64 a5, .int .i64 a6, .int .i64 a7, .int .i64 a8, .int .i64 a9, .int .i64 a10, .int .i64 a11, .slice (some ⟨gi1, 0, none⟩) 1 ci1, .int .i64 s1.t, .int .i64 s1.d, .int .i64 s1.stage, .int .i64 s1.ins, .int .i64 s1.ticks, .int .i64 s1.held]), (gi1, 53, (flat q4 s1.l ++ pad1).toArray), (gs1, 65, (flat q4 st ++ pads1).toArray), (gx, 29, #[.string pn, .int .i64 ramp, .slice sA st.length sc, .string n, .int .i64 a0, .int .i64 a1, .int .i64 a2, .int .i64 a3, .int .i64 a4, .int .i64 a5, .int .i64 a6, .int .i64 a7, .int .i64 a8, .int .i64 a9, .int .i64 a10, .int .i64 a11, .slice (some ⟨bi, oi, none⟩) l.length ic])] wr) (fun i _ => F.length - (intOf i).toNat)
        case atStart => exact ⟨0, ⟨l, 200, 100, 0, 0, 0, 0⟩, ⟨[x0], 200, 100, 0, 0, 0, 0⟩, gi0, ci0, pad0, gi10, ci10, pad10, Nat.zero_le _, rfl, hinv, hO⟩
        case round =>
          clear hO hinv
          obtain ⟨k, s, s1, gi, ci, pad, gi1, ci1, pad1, hk, rfl, hinv, hO⟩ := hrel
          by_cases hlt : k < F.length
          · obtain ⟨f, hf⟩ : ∃ x, F[k]? = some x := ⟨_, List.getElem?_eq_getElem hlt⟩
            obtain ⟨b, o, hfA, u, hc, hu⟩ : ∃ b o, fA = some ⟨b, o, none⟩ ∧ ∃ u, w.cell? ⟨b, o + k, none⟩ = some u ∧ RepI w u f := by
              rcases hF.out with ⟨_, _, _, rfl⟩ | ⟨b, o, c, hv, hc⟩
              · simp at hlt
              · injection hv with hv _ _
                exact ⟨b, o, hv, hc k f hf⟩
            subst hfA
            have hfl := M4.out f (List.mem_of_getElem? hf)
            obtain ⟨uA, uc, hfu⟩ := hu.form
            subst hfu
            have HCX : Hid (w.cell? ⟨b, o + k, none⟩ = some (.slice uA f.length uc)) := Lib.hid hc
            have HU := Lib.hid hu
            clear hf hc hu
            obtain ⟨x, hx, h1l⟩ := hinv.brd
            have ht := hinv.t
            have hd := hinv.d
            have hh := hinv.held
            have HIV := Lib.hid hinv.one
            have HIV1 := Lib.hid hinv.two
            have hlen : s.l.length = l.length := hinv.one.wi.len
            have hstg := hinv.one.stg
            have hstg1 := hinv.two.stg
            simp only at hstg hstg1
            clear hinv
            obtain ⟨ls, t, d, stage, ins, ticks, held⟩ := s
            obtain ⟨ls1, t1, d1, stage1, ins1, ticks1, held1⟩ := s1
            simp only at hO hx h1l ht hd hh hlen hstg hstg1
            subst h1l hh
            have HX := Lib.hid hx
            have HT := Lib.hid ht
            have HD := Lib.hid hd
            clear hx ht hd
            have tokA := Lib.hid True.intro
            by_cases hse : stage = stage1
            · have qs : ((stage : Int) != (stage1 : Int)) = false := by rw [hse]; simp
              have HSE := Lib.hid hse
              have sj : IntKind.i64.wrap ((f.length : Int) - 1) = (f.length : Int) - 1 := IntWalk.i64_in _ (by omega)
              clear hse
              go_wp2_with (first
        | (go_at_call 20; clear tokA; (refine (stage_any gk gs gi cs ci st.length l.length pn n ramp a0 a1 a2 a3 a4 a5 a6 a7 a8 a9 a10 a11 t d stage ins ticks 0 _ (Lib.hid (hO.at 0 rfl))).mono ?_); rintro e w_ ⟨rfl, hb_⟩; replace hO := Own.call hO hb_; clear hb_)
        | (go_at_call 20; (refine (stage_any gk1 gs1 gi1 cs1 ci1 st.length 1 pn n ramp a0 a1 a2 a3 a4 a5 a6 a7 a8 a9 a10 a11 t1 d1 stage1 ins1 ticks1 held1 _ (Lib.hid (hO.at 3 rfl))).mono ?_); rintro e w_ ⟨rfl, hb_⟩; replace hO := Own.call hO hb_; clear hb_)
        | ((with_reducible refine gate_load 46 rfl ?_); refine cell_load_one rfl 46 _ rfl ((hO.bel.cell (World.block_lt_of_cell? w _ HCX.out)).trans HCX.out) rfl _ rfl _ Tryd.underlying46 rfl ?_)
              )
              go_loopw [14, 13] (fun i v wr => ∃ (m N : Nat) (j : Int), m ≤ f.length ∧ N = 2 * (f.length - m) ∧ j = (m : Int) - 1 ∧ i = .int .i64 j ∧ Acc w [(gk, 74, #[.string pn, .int .i64 ramp, .slice (some ⟨gs, 0, none⟩) st.length cs, .string n, .int .i64 a0, .int .i64 a1, .int .i64 a2, .int .i64 a3, .int .i64 a4, .int .i64 a5, .int .i64 a6, .int .i64 a7, .int .i64 a8, .int .i64 a9, .int .i64 a10, .int .i64 a11, .slice (some ⟨gi, 0, none⟩) l.length ci, .int .i64 t, .int .i64 d, .int .i64 stage, .int .i64 ins, .int .i64 ticks, .int .i64 0]), (gi, 53, (flat q4 ls ++ pad).toArray), (gs, 65, (flat q4 st ++ pads).toArray), (gk1, 74, #[.string pn, .int .i64 ramp, .slice (some ⟨gs1, 0, none⟩) st.length cs1, .string n, .int .i64 a0, .int .i64 a1, .int .i64 a2, .int .i64 a3, .int .i64 a4, .int .i64 a5, .int .i64 a6, .int .i64 a7, .int .i64 a8, .int .i64 a9, .int .i64 a10, .int .i64 a11, .slice (some ⟨gi1, 0, none⟩) 1 ci1, .int .i64 t1, .int .i64 d1, .int .i64 stage1, .int .i64 ins1, .int .i64 ticks1, .int .i64 held1]), (gi1, 53, (flat q4 [x] ++ pad1).toArray), (gs1, 65, (flat q4 st ++ pads1).toArray), (gx, 29, #[.string pn, .int .i64 ramp, .slice sA st.length sc, .string n, .int .i64 a0, .int .i64 a1, .int .i64 a2, .int .i64 a3, .int .i64 a4, .int .i64 a5, .int .i64 a6, .int .i64 a7, .int .i64 a8, .int .i64 a9, .int .i64 a10, .int .i64 a11, .slice (some ⟨bi, oi, none⟩) l.length ic])] 3 1 v N ((backK f m).map (Value.int .i64 ·)) wr) (fun i _ _ => (intOf i + 1).toNat)
              case atStart => exact ⟨f.length, 0, _, Nat.le_refl _, by omega, rfl, rfl, by rw [backK_end]; exact Acc.start hO _ _⟩
              case round =>
                clear hO sj
                obtain ⟨m, N, j, hm, hN, hj, rfl, hA⟩ := hrel
                rcases Nat.eq_zero_or_pos m with hz | hz
                · subst hz
                  have qj : decide (0 ≤ j) = false := decide_eq_false (by omega)
                  obtain ⟨bA, bc, RB, rfl, hO, hRB⟩ := hA.ints (by rw [backK_len]; omega)
                  have HRB := Lib.hid hRB
                  have hbl := Lib.hid (backK_len f 0)
                  have hba := Lib.hid (backK_any f)
                  generalize backK f 0 = B at *
                  clear hRB hA hj hN hm
                  simp only [List.cons_append, List.nil_append] at hO
                  have q1 := ptr_eql gk
                  have HRK : Hid (∀ w', Own w ((gk1, 74, #[.string pn, .int .i64 ramp, .slice (some ⟨gs1, 0, none⟩) st.length cs1, .string n, .int .i64 a0, .int .i64 a1, .int .i64 a2, .int .i64 a3, .int .i64 a4, .int .i64 a5, .int .i64 a6, .int .i64 a7, .int .i64 a8, .int .i64 a9, .int .i64 a10, .int .i64 a11, .slice (some ⟨gi1, 0, none⟩) 1 ci1, .int .i64 t1, .int .i64 d1, .int .i64 stage1, .int .i64 ins1, .int .i64 ticks1, .int .i64 held1]) :: (gi1, 53, (flat q4 [x] ++ pad1).toArray) :: (gs1, 65, (flat q4 st ++ pads1).toArray) :: (gx, 29, #[.string pn, .int .i64 ramp, .slice sA st.length sc, .string n, .int .i64 a0, .int .i64 a1, .int .i64 a2, .int .i64 a3, .int .i64 a4, .int .i64 a5, .int .i64 a6, .int .i64 a7, .int .i64 a8, .int .i64 a9, .int .i64 a10, .int .i64 a11, .slice (some ⟨bi, oi, none⟩) l.length ic]) :: RB) w' → RepI w' (.slice uA f.length uc) f) := Lib.hid fun w' h => HU.out.below h.bel
                  go_wp2_with (first
        | ((with_reducible refine gate_load 46 rfl ?_); refine cell_load_one rfl 46 _ rfl ((hO.bel.cell (World.block_lt_of_cell? w _ HCX.out)).trans HCX.out) rfl _ rfl _ Tryd.underlying46 rfl ?_)
                  | (go_at_call 14; (refine (goTick hG h2 HRK (by omega) n3 (by omega) rfl hsl.2 (by omega) HSS.out HWW.out HIV.out hO).mono ?_); rintro e w_ ⟨tb, s', gi', ci', pad', rfl, hs', hinv', hO'⟩; replace hO := hO'; clear hO' HRK)
                  )
                  have q2 := ptr_eql gk1
                  have HRB : Hid (∀ w', Own w ((gk, 74, #[.string pn, .int .i64 ramp, .slice (some ⟨gs, 0, none⟩) st.length cs, .string n, .int .i64 a0, .int .i64 a1, .int .i64 a2, .int .i64 a3, .int .i64 a4, .int .i64 a5, .int .i64 a6, .int .i64 a7, .int .i64 a8, .int .i64 a9, .int .i64 a10, .int .i64 a11, .slice (some ⟨gi', 0, none⟩) l.length ci', .int .i64 s'.t, .int .i64 s'.d, .int .i64 s'.stage, .int .i64 s'.ins, .int .i64 s'.ticks, .int .i64 s'.held]) :: (gi', 53, (flat q4 s'.l ++ pad').toArray) :: (gs, 65, (flat q4 st ++ pads).toArray) :: (gx, 29, #[.string pn, .int .i64 ramp, .slice sA st.length sc, .string n, .int .i64 a0, .int .i64 a1, .int .i64 a2, .int .i64 a3, .int .i64 a4, .int .i64 a5, .int .i64 a6, .int .i64 a7, .int .i64 a8, .int .i64 a9, .int .i64 a10, .int .i64 a11, .slice (some ⟨bi, oi, none⟩) l.length ic]) :: RB) w' → RepI w' (.slice bA B.length bc) B) := Lib.hid fun w' h => HRB.out _ h.tail.tail.tail.tail
                  (refine (goTick hG h2 HRB (by rw [hbl.out]; omega) (by simp) (by simp) rfl hsl.2 (by omega) HSS.out HWW.out HIV1.out hO.rot3).mono ?_)
                  rintro e w_ ⟨tb1, s1', gi1', ci1', pad1', rfl, hs1', hinv1', hO'⟩
                  replace hO := hO'.rot3
                  clear hO' HRB
                  have hhl := hinv'.h0
                  have hhk := hs'
                  have HA := Lib.hid (fun (hh : s'.held = 0) => KS.alone_go hba.out HX.out rfl HT.out HD.out HSE.out (P := ⟨ramp, st, a1, a2, a3, a4, a6, a7⟩) (F := f) (B := B) (s := ⟨ls, t, d, stage, ins, ticks, 0⟩) (s1 := ⟨[x], t1, d1, stage1, ins1, ticks1, held1⟩) (by rw [← hs']; exact hh))
                  rw [← hs', ← hs1'] at HA
                  have HIV := Lib.hid hinv'
                  have HIV1 := Lib.hid hinv1'
                  have hlen' : s'.l.length = l.length := hinv'.wi.len
                  clear hs' hs1' hinv' hinv1' hhk
                  obtain ⟨l', t', d', stage', ins', ticks', held'⟩ := s'
                  obtain ⟨l1', t1', d1', stage1', ins1', ticks1', held1'⟩ := s1'
                  simp only at hO hhl HA hlen'
                  by_cases hpos : 0 < held'
                  · have qh : decide (0 < held') = true := decide_eq_true hpos
                    clear HA hhl hlen' hpos
                    go_wp2_with (first
        | (go_at_call 19; (refine (ticksK_any gk gs gi' cs ci' st.length l.length pn n ramp a0 a1 a2 a3 a4 a5 a6 a7 a8 a9 a10 a11 t' d' stage' ins' ticks' held' _ (Lib.hid (hO.at 0 rfl))).mono ?_); rintro e w_ ⟨rfl, hb_⟩; replace hO := Own.call hO hb_; clear hb_)
        | (go_at_call 9; (with_reducible refine (awake38_any _ (Lib.hid (hG.out.below hO.bel)) (Lib.hid (h2.out.below hO.bel))).mono ?_); rintro e w_ ⟨rfl, hb_⟩; replace hO := Own.call hO hb_; clear hb_)
                    )
                    go_ret
                    exact ⟨rfl, hO.bel⟩
                  · have qh : decide (0 < held') = false := decide_eq_false hpos
                    obtain rfl : held' = 0 := by omega
                    obtain ⟨⟨y, hy, hy1⟩, htt, hdd⟩ := HA.out rfl
                    (try simp only at hy)
                    (try simp only at hy1)
                    (try simp only at htt)
                    (try simp only at hdd)
                    subst hy1 htt hdd
                    have HY := Lib.hid hy
                    obtain ⟨th, ya, yb, ys⟩ := y
                    have tokB := Lib.hid True.intro
                    clear HA hhl hpos hy qh
                    go_wp2_with (first
        | (go_at_call 19; (refine (ticksK_any gk gs gi' cs ci' st.length l.length pn n ramp a0 a1 a2 a3 a4 a5 a6 a7 a8 a9 a10 a11 t' d' stage' ins' ticks' 0 _ (Lib.hid (hO.at 0 rfl))).mono ?_); rintro e w_ ⟨rfl, hb_⟩; replace hO := Own.call hO hb_; clear hb_)
        | (go_at_call 22; clear tokB; (refine (items38_any gk gs gi' cs ci' st.length l.length pn n ramp a0 a1 a2 a3 a4 a5 a6 a7 a8 a9 a10 a11 t' d' stage' ins' ticks' 0 l' pad' _ (by omega) (by omega) (by omega) (Lib.hid (hO.at 0 rfl)) (Lib.hid (hO.at 1 rfl))).mono ?_); rintro e w_ ⟨ga, ca, pada, rfl, hO1⟩; replace hO := Own.join hO hO1; clear hO1; simp only [List.cons_append, List.nil_append] at hO)
        | (go_at_call 22; (refine (items38_one gk1 gs1 gi1' cs1 ci1' st.length pn n ramp a0 a1 a2 a3 a4 a5 a6 a7 a8 a9 a10 a11 t' d' stage1' ins1' ticks1' held1' (th, ya, yb, ys) pad1' _ (Lib.hid (hO.at 4 rfl)) (Lib.hid (hO.at 5 rfl))).mono ?_); rintro e w_ ⟨gb, cb, padb, rfl, hO1⟩; replace hO := Own.join hO hO1; clear hO1; simp only [List.cons_append, List.nil_append] at hO)
                    )
                    have hrow_ : ((flat q4 l' ++ pada).toArray.extract (at_ * 4) (at_ * 4 + 4)).toList = [.int .i64 th, .int .i64 ya, .int .i64 yb, .int .i64 ys] := flat_row q4 4 q4_len l' pada at_ _ HY.out
                    have hrow2_ : ((flat q4 [(th, ya, yb, ys)] ++ padb).toArray.extract 0 (0 + 4)).toList = [.int .i64 th, .int .i64 ya, .int .i64 yb, .int .i64 ys] := flat_row q4 4 q4_len [(th, ya, yb, ys)] padb 0 _ rfl
                    go_upto_region 24 with fail
                    (try simp only [Act.put, List.setIfInBounds_toArray, List.set_cons_zero, List.set_cons_succ])
                    refine start_ (n := 28) (S := fun w' => Own w ((gb, 54, (flat q4 [(th, ya, yb, ys)] ++ padb).toArray) :: (ga, 54, (flat q4 l' ++ pada).toArray) :: (gk, 74, #[.string pn, .int .i64 ramp, .slice (some ⟨gs, 0, none⟩) st.length cs, .string n, .int .i64 a0, .int .i64 a1, .int .i64 a2, .int .i64 a3, .int .i64 a4, .int .i64 a5, .int .i64 a6, .int .i64 a7, .int .i64 a8, .int .i64 a9, .int .i64 a10, .int .i64 a11, .slice (some ⟨gi', 0, none⟩) l.length ci', .int .i64 t', .int .i64 d', .int .i64 stage', .int .i64 ins', .int .i64 ticks', .int .i64 0]) :: (gi', 53, (flat q4 l' ++ pad').toArray) :: (gs, 65, (flat q4 st ++ pads).toArray) :: (gk1, 74, #[.string pn, .int .i64 ramp, .slice (some ⟨gs1, 0, none⟩) st.length cs1, .string n, .int .i64 a0, .int .i64 a1, .int .i64 a2, .int .i64 a3, .int .i64 a4, .int .i64 a5, .int .i64 a6, .int .i64 a7, .int .i64 a8, .int .i64 a9, .int .i64 a10, .int .i64 a11, .slice (some ⟨gi1', 0, none⟩) 1 ci1', .int .i64 t', .int .i64 d', .int .i64 stage1', .int .i64 ins1', .int .i64 ticks1', .int .i64 held1']) :: (gi1', 53, (flat q4 [(th, ya, yb, ys)] ++ pad1').toArray) :: (gs1, 65, (flat q4 st ++ pads1).toArray) :: (gx, 29, #[.string pn, .int .i64 ramp, .slice sA st.length sc, .string n, .int .i64 a0, .int .i64 a1, .int .i64 a2, .int .i64 a3, .int .i64 a4, .int .i64 a5, .int .i64 a6, .int .i64 a7, .int .i64 a8, .int .i64 a9, .int .i64 a10, .int .i64 a11, .slice (some ⟨bi, oi, none⟩) l.length ic]) :: RB) w') (ds := []) #[false, false, false, false, false, false, false, false, false, false, false, false, false, false, false, false, false, false, false, false, false, false, false, false, false, false, false, false] (by kernel_rfl) rfl rfl (Own.drew hO) (fun hS => ?_)
                    clear hO
                    have hO := hS
                    refine pure_ (i := 0) (N := some 136) (v := ?_) (a' := ?_) #[true, false, false, false, false, false, false, false, false, false, false, false, false, false, false, false, false, false, false, false, false, false, false, false, false, false, false, false] rfl rfl (by kernel_rfl) (fun _ _ _ h => h) (Or.inl ⟨by rfl, ?_⟩) ?_ ?_
                    rotate_left
                    · intro w'
                      go_simp
                      with_reducible rfl
                    rotate_left
                    · simp only [Act.put, List.setIfInBounds_toArray, List.set_cons_zero, List.set_cons_succ]
                      rfl
                    refine pure_ (i := 1) (N := some 137) (v := ?_) (a' := ?_) #[true, true, false, false, false, false, false, false, false, false, false, false, false, false, false, false, false, false, false, false, false, false, false, false, false, false, false, false] rfl rfl (by kernel_rfl) (fun _ _ _ h => h) (Or.inl ⟨by rfl, ?_⟩) ?_ ?_
                    rotate_left
                    · intro w'
                      go_simp
                      with_reducible rfl
                    rotate_left
                    · simp only [Act.put, List.setIfInBounds_toArray, List.set_cons_zero, List.set_cons_succ]
                      rfl
                    refine pure_ (i := 2) (N := some 138) (v := ?_) (a' := ?_) #[true, true, true, false, false, false, false, false, false, false, false, false, false, false, false, false, false, false, false, false, false, false, false, false, false, false, false, false] rfl rfl (by kernel_rfl) (fun _ _ _ h => h) (Or.inl ⟨by rfl, ?_⟩) ?_ ?_
                    rotate_left
                    · intro w'
                      go_simp
                      with_reducible rfl
                    rotate_left
                    · simp only [Act.put, List.setIfInBounds_toArray, List.set_cons_zero, List.set_cons_succ]
                      rfl
                    refine pure_ (i := 3) (N := some 139) (v := ?_) (a' := ?_) #[true, true, true, true, false, false, false, false, false, false, false, false, false, false, false, false, false, false, false, false, false, false, false, false, false, false, false, false] rfl rfl (by kernel_rfl) (fun _ _ _ h => h) (Or.inl ⟨by rfl, ?_⟩) ?_ ?_
                    rotate_left
                    · intro w'
                      go_simp
                      with_reducible rfl
                    rotate_left
                    · simp only [Act.put, List.setIfInBounds_toArray, List.set_cons_zero, List.set_cons_succ]
                      rfl
                    refine pure_ (i := 4) (N := some 140) (v := ?_) (a' := ?_) #[true, true, true, true, true, false, false, false, false, false, false, false, false, false, false, false, false, false, false, false, false, false, false, false, false, false, false, false] rfl rfl (by kernel_rfl) (fun _ _ _ h => h) (Or.inl ⟨by rfl, ?_⟩) ?_ ?_
                    rotate_left
                    · intro w'
                      go_simp
                      with_reducible rfl
                    rotate_left
                    · simp only [Act.put, List.setIfInBounds_toArray, List.set_cons_zero, List.set_cons_succ]
                      rfl
                    refine pure_ (i := 5) (N := some 141) (v := ?_) (a' := ?_) #[true, true, true, true, true, true, false, false, false, false, false, false, false, false, false, false, false, false, false, false, false, false, false, false, false, false, false, false] rfl rfl (by kernel_rfl) (fun _ _ _ h => h) (Or.inl ⟨by rfl, ?_⟩) ?_ ?_
                    rotate_left
                    · intro w'
                      go_simp
                      with_reducible rfl
                    rotate_left
                    · simp only [Act.put, List.setIfInBounds_toArray, List.set_cons_zero, List.set_cons_succ]
                      rfl
                    refine pure_ (i := 6) (N := some 142) (v := ?_) (a' := ?_) #[true, true, true, true, true, true, true, false, false, false, false, false, false, false, false, false, false, false, false, false, false, false, false, false, false, false, false, false] rfl rfl (by kernel_rfl) (fun _ _ _ h => h) (Or.inl ⟨by rfl, ?_⟩) ?_ ?_
                    rotate_left
                    · intro w'
                      go_simp
                      with_reducible rfl
                    rotate_left
                    · simp only [Act.put, List.setIfInBounds_toArray, List.set_cons_zero, List.set_cons_succ]
                      rfl
                    first
                      | (refine take_ (i := 7) (N := some 143) (a' := ?_) #[true, true, true, true, true, true, true, true, false, false, false, false, false, false, false, false, false, false, false, false, false, false, false, false, false, false, false, false] rfl rfl (by kernel_rfl) (fun _ _ _ h => h) (yOne hS ?_ 27 _ rfl 0 _ _ rfl _ _ rfl ?_ ?_ _ Tryd.underlying27 rfl) hS ?_ ?_; (focus rfl); rotate_left; (focus (first | (with_reducible exact hcell_) | (simp only [List.getElem?_toArray, List.getElem?_cons_zero, List.getElem?_cons_succ]; rfl))); rotate_left; (focus (simp only [Act.put, List.setIfInBounds_toArray, List.set_cons_zero, List.set_cons_succ]; rfl)))
                      | (refine take_ (i := 7) (N := some 143) (a' := ?_) #[true, true, true, true, true, true, true, true, false, false, false, false, false, false, false, false, false, false, false, false, false, false, false, false, false, false, false, false] rfl rfl (by kernel_rfl) (fun _ _ _ h => h) (yOne hS ?_ 27 _ rfl 1 _ _ rfl _ _ rfl ?_ ?_ _ Tryd.underlying27 rfl) hS ?_ ?_; (focus rfl); rotate_left; (focus (first | (with_reducible exact hcell_) | (simp only [List.getElem?_toArray, List.getElem?_cons_zero, List.getElem?_cons_succ]; rfl))); rotate_left; (focus (simp only [Act.put, List.setIfInBounds_toArray, List.set_cons_zero, List.set_cons_succ]; rfl)))
                      | (refine take_ (i := 7) (N := some 143) (a' := ?_) #[true, true, true, true, true, true, true, true, false, false, false, false, false, false, false, false, false, false, false, false, false, false, false, false, false, false, false, false] rfl rfl (by kernel_rfl) (fun _ _ _ h => h) (yOne hS ?_ 27 _ rfl 2 _ _ rfl _ _ rfl ?_ ?_ _ Tryd.underlying27 rfl) hS ?_ ?_; (focus rfl); rotate_left; (focus (first | (with_reducible exact hcell_) | (simp only [List.getElem?_toArray, List.getElem?_cons_zero, List.getElem?_cons_succ]; rfl))); rotate_left; (focus (simp only [Act.put, List.setIfInBounds_toArray, List.set_cons_zero, List.set_cons_succ]; rfl)))
                      | (refine take_ (i := 7) (N := some 143) (a' := ?_) #[true, true, true, true, true, true, true, true, false, false, false, false, false, false, false, false, false, false, false, false, false, false, false, false, false, false, false, false] rfl rfl (by kernel_rfl) (fun _ _ _ h => h) (yOne hS ?_ 27 _ rfl 3 _ _ rfl _ _ rfl ?_ ?_ _ Tryd.underlying27 rfl) hS ?_ ?_; (focus rfl); rotate_left; (focus (first | (with_reducible exact hcell_) | (simp only [List.getElem?_toArray, List.getElem?_cons_zero, List.getElem?_cons_succ]; rfl))); rotate_left; (focus (simp only [Act.put, List.setIfInBounds_toArray, List.set_cons_zero, List.set_cons_succ]; rfl)))
                      | (refine take_ (i := 7) (N := some 143) (a' := ?_) #[true, true, true, true, true, true, true, true, false, false, false, false, false, false, false, false, false, false, false, false, false, false, false, false, false, false, false, false] rfl rfl (by kernel_rfl) (fun _ _ _ h => h) (yOne hS ?_ 27 _ rfl 4 _ _ rfl _ _ rfl ?_ ?_ _ Tryd.underlying27 rfl) hS ?_ ?_; (focus rfl); rotate_left; (focus (first | (with_reducible exact hcell_) | (simp only [List.getElem?_toArray, List.getElem?_cons_zero, List.getElem?_cons_succ]; rfl))); rotate_left; (focus (simp only [Act.put, List.setIfInBounds_toArray, List.set_cons_zero, List.set_cons_succ]; rfl)))
                      | (refine take_ (i := 7) (N := some 143) (a' := ?_) #[true, true, true, true, true, true, true, true, false, false, false, false, false, false, false, false, false, false, false, false, false, false, false, false, false, false, false, false] rfl rfl (by kernel_rfl) (fun _ _ _ h => h) (yOne hS ?_ 27 _ rfl 5 _ _ rfl _ _ rfl ?_ ?_ _ Tryd.underlying27 rfl) hS ?_ ?_; (focus rfl); rotate_left; (focus (first | (with_reducible exact hcell_) | (simp only [List.getElem?_toArray, List.getElem?_cons_zero, List.getElem?_cons_succ]; rfl))); rotate_left; (focus (simp only [Act.put, List.setIfInBounds_toArray, List.set_cons_zero, List.set_cons_succ]; rfl)))
                      | (refine take_ (i := 7) (N := some 143) (a' := ?_) #[true, true, true, true, true, true, true, true, false, false, false, false, false, false, false, false, false, false, false, false, false, false, false, false, false, false, false, false] rfl rfl (by kernel_rfl) (fun _ _ _ h => h) (yOne hS ?_ 27 _ rfl 6 _ _ rfl _ _ rfl ?_ ?_ _ Tryd.underlying27 rfl) hS ?_ ?_; (focus rfl); rotate_left; (focus (first | (with_reducible exact hcell_) | (simp only [List.getElem?_toArray, List.getElem?_cons_zero, List.getElem?_cons_succ]; rfl))); rotate_left; (focus (simp only [Act.put, List.setIfInBounds_toArray, List.set_cons_zero, List.set_cons_succ]; rfl)))
                      | (refine take_ (i := 7) (N := some 143) (a' := ?_) #[true, true, true, true, true, true, true, true, false, false, false, false, false, false, false, false, false, false, false, false, false, false, false, false, false, false, false, false] rfl rfl (by kernel_rfl) (fun _ _ _ h => h) (yOne hS ?_ 27 _ rfl 7 _ _ rfl _ _ rfl ?_ ?_ _ Tryd.underlying27 rfl) hS ?_ ?_; (focus rfl); rotate_left; (focus (first | (with_reducible exact hcell_) | (simp only [List.getElem?_toArray, List.getElem?_cons_zero, List.getElem?_cons_succ]; rfl))); rotate_left; (focus (simp only [Act.put, List.setIfInBounds_toArray, List.set_cons_zero, List.set_cons_succ]; rfl)))
                      | (refine take_ (i := 7) (N := some 143) (a' := ?_) #[true, true, true, true, true, true, true, true, false, false, false, false, false, false, false, false, false, false, false, false, false, false, false, false, false, false, false, false] rfl rfl (by kernel_rfl) (fun _ _ _ h => h) (yOne hS ?_ 27 _ rfl 8 _ _ rfl _ _ rfl ?_ ?_ _ Tryd.underlying27 rfl) hS ?_ ?_; (focus rfl); rotate_left; (focus (first | (with_reducible exact hcell_) | (simp only [List.getElem?_toArray, List.getElem?_cons_zero, List.getElem?_cons_succ]; rfl))); rotate_left; (focus (simp only [Act.put, List.setIfInBounds_toArray, List.set_cons_zero, List.set_cons_succ]; rfl)))
                    refine pure_ (i := 8) (N := some 144) (v := ?_) (a' := ?_) #[true, true, true, true, true, true, true, true, true, false, false, false, false, false, false, false, false, false, false, false, false, false, false, false, false, false, false, false] rfl rfl (by kernel_rfl) (fun _ _ _ h => h) (Or.inl ⟨by rfl, ?_⟩) ?_ ?_
                    rotate_left
                    · intro w'
                      go_simp
                      with_reducible rfl
                    rotate_left
                    · simp only [Act.put, List.setIfInBounds_toArray, List.set_cons_zero, List.set_cons_succ]
                      rfl
                    refine pure_ (i := 9) (N := some 145) (v := ?_) (a' := ?_) #[true, true, true, true, true, true, true, true, true, true, false, false, false, false, false, false, false, false, false, false, false, false, false, false, false, false, false, false] rfl rfl (by kernel_rfl) (fun _ _ _ h => h) (Or.inl ⟨by rfl, ?_⟩) ?_ ?_
                    rotate_left
                    · intro w'
                      go_simp
                      with_reducible rfl
                    rotate_left
                    · simp only [Act.put, List.setIfInBounds_toArray, List.set_cons_zero, List.set_cons_succ]
                      rfl
                    refine pure_ (i := 10) (N := some 146) (v := ?_) (a' := ?_) #[true, true, true, true, true, true, true, true, true, true, true, false, false, false, false, false, false, false, false, false, false, false, false, false, false, false, false, false] rfl rfl (by kernel_rfl) (fun _ _ _ h => h) (Or.inl ⟨by rfl, ?_⟩) ?_ ?_
                    rotate_left
                    · intro w'
                      go_simp
                      with_reducible rfl
                    rotate_left
                    · simp only [Act.put, List.setIfInBounds_toArray, List.set_cons_zero, List.set_cons_succ]
                      rfl
                    refine pure_ (i := 11) (N := some 147) (v := ?_) (a' := ?_) #[true, true, true, true, true, true, true, true, true, true, true, true, false, false, false, false, false, false, false, false, false, false, false, false, false, false, false, false] rfl rfl (by kernel_rfl) (fun _ _ _ h => h) (Or.inl ⟨by rfl, ?_⟩) ?_ ?_
                    rotate_left
                    · intro w'
                      go_simp
                      with_reducible rfl
                    rotate_left
                    · simp only [Act.put, List.setIfInBounds_toArray, List.set_cons_zero, List.set_cons_succ]
                      rfl
                    refine pure_ (i := 12) (N := some 148) (v := ?_) (a' := ?_) #[true, true, true, true, true, true, true, true, true, true, true, true, true, false, false, false, false, false, false, false, false, false, false, false, false, false, false, false] rfl rfl (by kernel_rfl) (fun _ _ _ h => h) (Or.inl ⟨by rfl, ?_⟩) ?_ ?_
                    rotate_left
                    · intro w'
                      go_simp
                      with_reducible rfl
                    rotate_left
                    · simp only [Act.put, List.setIfInBounds_toArray, List.set_cons_zero, List.set_cons_succ]
                      rfl
                    refine pure_ (i := 13) (N := some 149) (v := ?_) (a' := ?_) #[true, true, true, true, true, true, true, true, true, true, true, true, true, true, false, false, false, false, false, false, false, false, false, false, false, false, false, false] rfl rfl (by kernel_rfl) (fun _ _ _ h => h) (Or.inl ⟨by rfl, ?_⟩) ?_ ?_
                    rotate_left
                    · intro w'
                      go_simp
                      with_reducible rfl
                    rotate_left
                    · simp only [Act.put, List.setIfInBounds_toArray, List.set_cons_zero, List.set_cons_succ]
                      rfl
                    refine pure_ (i := 14) (N := some 150) (v := ?_) (a' := ?_) #[true, true, true, true, true, true, true, true, true, true, true, true, true, true, true, false, false, false, false, false, false, false, false, false, false, false, false, false] rfl rfl (by kernel_rfl) (fun _ _ _ h => h) (Or.inl ⟨by rfl, ?_⟩) ?_ ?_
                    rotate_left
                    · intro w'
                      go_simp
                      with_reducible rfl
                    rotate_left
                    · simp only [Act.put, List.setIfInBounds_toArray, List.set_cons_zero, List.set_cons_succ]
                      rfl
                    first
                      | (refine take_ (i := 15) (N := some 151) (a' := ?_) #[true, true, true, true, true, true, true, true, true, true, true, true, true, true, true, true, false, false, false, false, false, false, false, false, false, false, false, false] rfl rfl (by kernel_rfl) (fun _ _ _ h => h) (yRow hS ?_ 54 _ rfl 0 _ _ rfl _ _ rfl 4 ?_ ?_ ?_ _ Tryd.underlying54 rfl ?_) hS ?_ ?_; (focus rfl); rotate_left; (focus (first | (with_reducible exact hrow_) | (with_reducible exact hrow2_) | (simp only [Array.toList_extract, List.extract_toArray, List.extract_eq_take_drop, List.drop_zero, List.drop_succ_cons, List.take_succ_cons, List.take_zero, Nat.reduceAdd, Nat.reduceSub, Nat.zero_add, Nat.add_zero, Nat.add_sub_cancel_left, Nat.sub_zero, Nat.sub_self]; rfl))); (focus rfl); (focus kernel_rfl); rotate_left; (focus (simp only [Act.put, List.setIfInBounds_toArray, List.set_cons_zero, List.set_cons_succ]; rfl)))
                      | (refine take_ (i := 15) (N := some 151) (a' := ?_) #[true, true, true, true, true, true, true, true, true, true, true, true, true, true, true, true, false, false, false, false, false, false, false, false, false, false, false, false] rfl rfl (by kernel_rfl) (fun _ _ _ h => h) (yRow hS ?_ 54 _ rfl 1 _ _ rfl _ _ rfl 4 ?_ ?_ ?_ _ Tryd.underlying54 rfl ?_) hS ?_ ?_; (focus rfl); rotate_left; (focus (first | (with_reducible exact hrow_) | (with_reducible exact hrow2_) | (simp only [Array.toList_extract, List.extract_toArray, List.extract_eq_take_drop, List.drop_zero, List.drop_succ_cons, List.take_succ_cons, List.take_zero, Nat.reduceAdd, Nat.reduceSub, Nat.zero_add, Nat.add_zero, Nat.add_sub_cancel_left, Nat.sub_zero, Nat.sub_self]; rfl))); (focus rfl); (focus kernel_rfl); rotate_left; (focus (simp only [Act.put, List.setIfInBounds_toArray, List.set_cons_zero, List.set_cons_succ]; rfl)))
                      | (refine take_ (i := 15) (N := some 151) (a' := ?_) #[true, true, true, true, true, true, true, true, true, true, true, true, true, true, true, true, false, false, false, false, false, false, false, false, false, false, false, false] rfl rfl (by kernel_rfl) (fun _ _ _ h => h) (yRow hS ?_ 54 _ rfl 2 _ _ rfl _ _ rfl 4 ?_ ?_ ?_ _ Tryd.underlying54 rfl ?_) hS ?_ ?_; (focus rfl); rotate_left; (focus (first | (with_reducible exact hrow_) | (with_reducible exact hrow2_) | (simp only [Array.toList_extract, List.extract_toArray, List.extract_eq_take_drop, List.drop_zero, List.drop_succ_cons, List.take_succ_cons, List.take_zero, Nat.reduceAdd, Nat.reduceSub, Nat.zero_add, Nat.add_zero, Nat.add_sub_cancel_left, Nat.sub_zero, Nat.sub_self]; rfl))); (focus rfl); (focus kernel_rfl); rotate_left; (focus (simp only [Act.put, List.setIfInBounds_toArray, List.set_cons_zero, List.set_cons_succ]; rfl)))
                      | (refine take_ (i := 15) (N := some 151) (a' := ?_) #[true, true, true, true, true, true, true, true, true, true, true, true, true, true, true, true, false, false, false, false, false, false, false, false, false, false, false, false] rfl rfl (by kernel_rfl) (fun _ _ _ h => h) (yRow hS ?_ 54 _ rfl 3 _ _ rfl _ _ rfl 4 ?_ ?_ ?_ _ Tryd.underlying54 rfl ?_) hS ?_ ?_; (focus rfl); rotate_left; (focus (first | (with_reducible exact hrow_) | (with_reducible exact hrow2_) | (simp only [Array.toList_extract, List.extract_toArray, List.extract_eq_take_drop, List.drop_zero, List.drop_succ_cons, List.take_succ_cons, List.take_zero, Nat.reduceAdd, Nat.reduceSub, Nat.zero_add, Nat.add_zero, Nat.add_sub_cancel_left, Nat.sub_zero, Nat.sub_self]; rfl))); (focus rfl); (focus kernel_rfl); rotate_left; (focus (simp only [Act.put, List.setIfInBounds_toArray, List.set_cons_zero, List.set_cons_succ]; rfl)))
                      | (refine take_ (i := 15) (N := some 151) (a' := ?_) #[true, true, true, true, true, true, true, true, true, true, true, true, true, true, true, true, false, false, false, false, false, false, false, false, false, false, false, false] rfl rfl (by kernel_rfl) (fun _ _ _ h => h) (yRow hS ?_ 54 _ rfl 4 _ _ rfl _ _ rfl 4 ?_ ?_ ?_ _ Tryd.underlying54 rfl ?_) hS ?_ ?_; (focus rfl); rotate_left; (focus (first | (with_reducible exact hrow_) | (with_reducible exact hrow2_) | (simp only [Array.toList_extract, List.extract_toArray, List.extract_eq_take_drop, List.drop_zero, List.drop_succ_cons, List.take_succ_cons, List.take_zero, Nat.reduceAdd, Nat.reduceSub, Nat.zero_add, Nat.add_zero, Nat.add_sub_cancel_left, Nat.sub_zero, Nat.sub_self]; rfl))); (focus rfl); (focus kernel_rfl); rotate_left; (focus (simp only [Act.put, List.setIfInBounds_toArray, List.set_cons_zero, List.set_cons_succ]; rfl)))
                      | (refine take_ (i := 15) (N := some 151) (a' := ?_) #[true, true, true, true, true, true, true, true, true, true, true, true, true, true, true, true, false, false, false, false, false, false, false, false, false, false, false, false] rfl rfl (by kernel_rfl) (fun _ _ _ h => h) (yRow hS ?_ 54 _ rfl 5 _ _ rfl _ _ rfl 4 ?_ ?_ ?_ _ Tryd.underlying54 rfl ?_) hS ?_ ?_; (focus rfl); rotate_left; (focus (first | (with_reducible exact hrow_) | (with_reducible exact hrow2_) | (simp only [Array.toList_extract, List.extract_toArray, List.extract_eq_take_drop, List.drop_zero, List.drop_succ_cons, List.take_succ_cons, List.take_zero, Nat.reduceAdd, Nat.reduceSub, Nat.zero_add, Nat.add_zero, Nat.add_sub_cancel_left, Nat.sub_zero, Nat.sub_self]; rfl))); (focus rfl); (focus kernel_rfl); rotate_left; (focus (simp only [Act.put, List.setIfInBounds_toArray, List.set_cons_zero, List.set_cons_succ]; rfl)))
                      | (refine take_ (i := 15) (N := some 151) (a' := ?_) #[true, true, true, true, true, true, true, true, true, true, true, true, true, true, true, true, false, false, false, false, false, false, false, false, false, false, false, false] rfl rfl (by kernel_rfl) (fun _ _ _ h => h) (yRow hS ?_ 54 _ rfl 6 _ _ rfl _ _ rfl 4 ?_ ?_ ?_ _ Tryd.underlying54 rfl ?_) hS ?_ ?_; (focus rfl); rotate_left; (focus (first | (with_reducible exact hrow_) | (with_reducible exact hrow2_) | (simp only [Array.toList_extract, List.extract_toArray, List.extract_eq_take_drop, List.drop_zero, List.drop_succ_cons, List.take_succ_cons, List.take_zero, Nat.reduceAdd, Nat.reduceSub, Nat.zero_add, Nat.add_zero, Nat.add_sub_cancel_left, Nat.sub_zero, Nat.sub_self]; rfl))); (focus rfl); (focus kernel_rfl); rotate_left; (focus (simp only [Act.put, List.setIfInBounds_toArray, List.set_cons_zero, List.set_cons_succ]; rfl)))
                      | (refine take_ (i := 15) (N := some 151) (a' := ?_) #[true, true, true, true, true, true, true, true, true, true, true, true, true, true, true, true, false, false, false, false, false, false, false, false, false, false, false, false] rfl rfl (by kernel_rfl) (fun _ _ _ h => h) (yRow hS ?_ 54 _ rfl 7 _ _ rfl _ _ rfl 4 ?_ ?_ ?_ _ Tryd.underlying54 rfl ?_) hS ?_ ?_; (focus rfl); rotate_left; (focus (first | (with_reducible exact hrow_) | (with_reducible exact hrow2_) | (simp only [Array.toList_extract, List.extract_toArray, List.extract_eq_take_drop, List.drop_zero, List.drop_succ_cons, List.take_succ_cons, List.take_zero, Nat.reduceAdd, Nat.reduceSub, Nat.zero_add, Nat.add_zero, Nat.add_sub_cancel_left, Nat.sub_zero, Nat.sub_self]; rfl))); (focus rfl); (focus kernel_rfl); rotate_left; (focus (simp only [Act.put, List.setIfInBounds_toArray, List.set_cons_zero, List.set_cons_succ]; rfl)))
                      | (refine take_ (i := 15) (N := some 151) (a' := ?_) #[true, true, true, true, true, true, true, true, true, true, true, true, true, true, true, true, false, false, false, false, false, false, false, false, false, false, false, false] rfl rfl (by kernel_rfl) (fun _ _ _ h => h) (yRow hS ?_ 54 _ rfl 8 _ _ rfl _ _ rfl 4 ?_ ?_ ?_ _ Tryd.underlying54 rfl ?_) hS ?_ ?_; (focus rfl); rotate_left; (focus (first | (with_reducible exact hrow_) | (with_reducible exact hrow2_) | (simp only [Array.toList_extract, List.extract_toArray, List.extract_eq_take_drop, List.drop_zero, List.drop_succ_cons, List.take_succ_cons, List.take_zero, Nat.reduceAdd, Nat.reduceSub, Nat.zero_add, Nat.add_zero, Nat.add_sub_cancel_left, Nat.sub_zero, Nat.sub_self]; rfl))); (focus rfl); (focus kernel_rfl); rotate_left; (focus (simp only [Act.put, List.setIfInBounds_toArray, List.set_cons_zero, List.set_cons_succ]; rfl)))
                    refine pure_ (i := 16) (N := some 152) (v := ?_) (a' := ?_) #[true, true, true, true, true, true, true, true, true, true, true, true, true, true, true, true, true, false, false, false, false, false, false, false, false, false, false, false] rfl rfl (by kernel_rfl) (fun _ _ _ h => h) (Or.inl ⟨by rfl, ?_⟩) ?_ ?_
                    rotate_left
                    · intro w'
                      go_simp
                      with_reducible rfl
                    rotate_left
                    · simp only [Act.put, List.setIfInBounds_toArray, List.set_cons_zero, List.set_cons_succ]
                      rfl
                    refine pure_ (i := 17) (N := some 153) (v := ?_) (a' := ?_) #[true, true, true, true, true, true, true, true, true, true, true, true, true, true, true, true, true, true, false, false, false, false, false, false, false, false, false, false] rfl rfl (by kernel_rfl) (fun _ _ _ h => h) (Or.inl ⟨by rfl, ?_⟩) ?_ ?_
                    rotate_left
                    · intro w'
                      go_simp
                      with_reducible rfl
                    rotate_left
                    · simp only [Act.put, List.setIfInBounds_toArray, List.set_cons_zero, List.set_cons_succ]
                      rfl
                    first
                      | (refine take_ (i := 18) (N := some 154) (a' := ?_) #[true, true, true, true, true, true, true, true, true, true, true, true, true, true, true, true, true, true, true, false, false, false, false, false, false, false, false, false] rfl rfl (by kernel_rfl) (fun _ _ _ h => h) (yRow hS ?_ 54 _ rfl 0 _ _ rfl _ _ rfl 4 ?_ ?_ ?_ _ Tryd.underlying54 rfl ?_) hS ?_ ?_; (focus rfl); rotate_left; (focus (first | (with_reducible exact hrow_) | (with_reducible exact hrow2_) | (simp only [Array.toList_extract, List.extract_toArray, List.extract_eq_take_drop, List.drop_zero, List.drop_succ_cons, List.take_succ_cons, List.take_zero, Nat.reduceAdd, Nat.reduceSub, Nat.zero_add, Nat.add_zero, Nat.add_sub_cancel_left, Nat.sub_zero, Nat.sub_self]; rfl))); (focus rfl); (focus kernel_rfl); rotate_left; (focus (simp only [Act.put, List.setIfInBounds_toArray, List.set_cons_zero, List.set_cons_succ]; rfl)))
                      | (refine take_ (i := 18) (N := some 154) (a' := ?_) #[true, true, true, true, true, true, true, true, true, true, true, true, true, true, true, true, true, true, true, false, false, false, false, false, false, false, false, false] rfl rfl (by kernel_rfl) (fun _ _ _ h => h) (yRow hS ?_ 54 _ rfl 1 _ _ rfl _ _ rfl 4 ?_ ?_ ?_ _ Tryd.underlying54 rfl ?_) hS ?_ ?_; (focus rfl); rotate_left; (focus (first | (with_reducible exact hrow_) | (with_reducible exact hrow2_) | (simp only [Array.toList_extract, List.extract_toArray, List.extract_eq_take_drop, List.drop_zero, List.drop_succ_cons, List.take_succ_cons, List.take_zero, Nat.reduceAdd, Nat.reduceSub, Nat.zero_add, Nat.add_zero, Nat.add_sub_cancel_left, Nat.sub_zero, Nat.sub_self]; rfl))); (focus rfl); (focus kernel_rfl); rotate_left; (focus (simp only [Act.put, List.setIfInBounds_toArray, List.set_cons_zero, List.set_cons_succ]; rfl)))
                      | (refine take_ (i := 18) (N := some 154) (a' := ?_) #[true, true, true, true, true, true, true, true, true, true, true, true, true, true, true, true, true, true, true, false, false, false, false, false, false, false, false, false] rfl rfl (by kernel_rfl) (fun _ _ _ h => h) (yRow hS ?_ 54 _ rfl 2 _ _ rfl _ _ rfl 4 ?_ ?_ ?_ _ Tryd.underlying54 rfl ?_) hS ?_ ?_; (focus rfl); rotate_left; (focus (first | (with_reducible exact hrow_) | (with_reducible exact hrow2_) | (simp only [Array.toList_extract, List.extract_toArray, List.extract_eq_take_drop, List.drop_zero, List.drop_succ_cons, List.take_succ_cons, List.take_zero, Nat.reduceAdd, Nat.reduceSub, Nat.zero_add, Nat.add_zero, Nat.add_sub_cancel_left, Nat.sub_zero, Nat.sub_self]; rfl))); (focus rfl); (focus kernel_rfl); rotate_left; (focus (simp only [Act.put, List.setIfInBounds_toArray, List.set_cons_zero, List.set_cons_succ]; rfl)))
                      | (refine take_ (i := 18) (N := some 154) (a' := ?_) #[true, true, true, true, true, true, true, true, true, true, true, true, true, true, true, true, true, true, true, false, false, false, false, false, false, false, false, false] rfl rfl (by kernel_rfl) (fun _ _ _ h => h) (yRow hS ?_ 54 _ rfl 3 _ _ rfl _ _ rfl 4 ?_ ?_ ?_ _ Tryd.underlying54 rfl ?_) hS ?_ ?_; (focus rfl); rotate_left; (focus (first | (with_reducible exact hrow_) | (with_reducible exact hrow2_) | (simp only [Array.toList_extract, List.extract_toArray, List.extract_eq_take_drop, List.drop_zero, List.drop_succ_cons, List.take_succ_cons, List.take_zero, Nat.reduceAdd, Nat.reduceSub, Nat.zero_add, Nat.add_zero, Nat.add_sub_cancel_left, Nat.sub_zero, Nat.sub_self]; rfl))); (focus rfl); (focus kernel_rfl); rotate_left; (focus (simp only [Act.put, List.setIfInBounds_toArray, List.set_cons_zero, List.set_cons_succ]; rfl)))
                      | (refine take_ (i := 18) (N := some 154) (a' := ?_) #[true, true, true, true, true, true, true, true, true, true, true, true, true, true, true, true, true, true, true, false, false, false, false, false, false, false, false, false] rfl rfl (by kernel_rfl) (fun _ _ _ h => h) (yRow hS ?_ 54 _ rfl 4 _ _ rfl _ _ rfl 4 ?_ ?_ ?_ _ Tryd.underlying54 rfl ?_) hS ?_ ?_; (focus rfl); rotate_left; (focus (first | (with_reducible exact hrow_) | (with_reducible exact hrow2_) | (simp only [Array.toList_extract, List.extract_toArray, List.extract_eq_take_drop, List.drop_zero, List.drop_succ_cons, List.take_succ_cons, List.take_zero, Nat.reduceAdd, Nat.reduceSub, Nat.zero_add, Nat.add_zero, Nat.add_sub_cancel_left, Nat.sub_zero, Nat.sub_self]; rfl))); (focus rfl); (focus kernel_rfl); rotate_left; (focus (simp only [Act.put, List.setIfInBounds_toArray, List.set_cons_zero, List.set_cons_succ]; rfl)))
                      | (refine take_ (i := 18) (N := some 154) (a' := ?_) #[true, true, true, true, true, true, true, true, true, true, true, true, true, true, true, true, true, true, true, false, false, false, false, false, false, false, false, false] rfl rfl (by kernel_rfl) (fun _ _ _ h => h) (yRow hS ?_ 54 _ rfl 5 _ _ rfl _ _ rfl 4 ?_ ?_ ?_ _ Tryd.underlying54 rfl ?_) hS ?_ ?_; (focus rfl); rotate_left; (focus (first | (with_reducible exact hrow_) | (with_reducible exact hrow2_) | (simp only [Array.toList_extract, List.extract_toArray, List.extract_eq_take_drop, List.drop_zero, List.drop_succ_cons, List.take_succ_cons, List.take_zero, Nat.reduceAdd, Nat.reduceSub, Nat.zero_add, Nat.add_zero, Nat.add_sub_cancel_left, Nat.sub_zero, Nat.sub_self]; rfl))); (focus rfl); (focus kernel_rfl); rotate_left; (focus (simp only [Act.put, List.setIfInBounds_toArray, List.set_cons_zero, List.set_cons_succ]; rfl)))
                      | (refine take_ (i := 18) (N := some 154) (a' := ?_) #[true, true, true, true, true, true, true, true, true, true, true, true, true, true, true, true, true, true, true, false, false, false, false, false, false, false, false, false] rfl rfl (by kernel_rfl) (fun _ _ _ h => h) (yRow hS ?_ 54 _ rfl 6 _ _ rfl _ _ rfl 4 ?_ ?_ ?_ _ Tryd.underlying54 rfl ?_) hS ?_ ?_; (focus rfl); rotate_left; (focus (first | (with_reducible exact hrow_) | (with_reducible exact hrow2_) | (simp only [Array.toList_extract, List.extract_toArray, List.extract_eq_take_drop, List.drop_zero, List.drop_succ_cons, List.take_succ_cons, List.take_zero, Nat.reduceAdd, Nat.reduceSub, Nat.zero_add, Nat.add_zero, Nat.add_sub_cancel_left, Nat.sub_zero, Nat.sub_self]; rfl))); (focus rfl); (focus kernel_rfl); rotate_left; (focus (simp only [Act.put, List.setIfInBounds_toArray, List.set_cons_zero, List.set_cons_succ]; rfl)))
                      | (refine take_ (i := 18) (N := some 154) (a' := ?_) #[true, true, true, true, true, true, true, true, true, true, true, true, true, true, true, true, true, true, true, false, false, false, false, false, false, false, false, false] rfl rfl (by kernel_rfl) (fun _ _ _ h => h) (yRow hS ?_ 54 _ rfl 7 _ _ rfl _ _ rfl 4 ?_ ?_ ?_ _ Tryd.underlying54 rfl ?_) hS ?_ ?_; (focus rfl); rotate_left; (focus (first | (with_reducible exact hrow_) | (with_reducible exact hrow2_) | (simp only [Array.toList_extract, List.extract_toArray, List.extract_eq_take_drop, List.drop_zero, List.drop_succ_cons, List.take_succ_cons, List.take_zero, Nat.reduceAdd, Nat.reduceSub, Nat.zero_add, Nat.add_zero, Nat.add_sub_cancel_left, Nat.sub_zero, Nat.sub_self]; rfl))); (focus rfl); (focus kernel_rfl); rotate_left; (focus (simp only [Act.put, List.setIfInBounds_toArray, List.set_cons_zero, List.set_cons_succ]; rfl)))
                      | (refine take_ (i := 18) (N := some 154) (a' := ?_) #[true, true, true, true, true, true, true, true, true, true, true, true, true, true, true, true, true, true, true, false, false, false, false, false, false, false, false, false] rfl rfl (by kernel_rfl) (fun _ _ _ h => h) (yRow hS ?_ 54 _ rfl 8 _ _ rfl _ _ rfl 4 ?_ ?_ ?_ _ Tryd.underlying54 rfl ?_) hS ?_ ?_; (focus rfl); rotate_left; (focus (first | (with_reducible exact hrow_) | (with_reducible exact hrow2_) | (simp only [Array.toList_extract, List.extract_toArray, List.extract_eq_take_drop, List.drop_zero, List.drop_succ_cons, List.take_succ_cons, List.take_zero, Nat.reduceAdd, Nat.reduceSub, Nat.zero_add, Nat.add_zero, Nat.add_sub_cancel_left, Nat.sub_zero, Nat.sub_self]; rfl))); (focus rfl); (focus kernel_rfl); rotate_left; (focus (simp only [Act.put, List.setIfInBounds_toArray, List.set_cons_zero, List.set_cons_succ]; rfl)))
                    refine pure_ (i := 19) (N := some 155) (v := ?_) (a' := ?_) #[true, true, true, true, true, true, true, true, true, true, true, true, true, true, true, true, true, true, true, true, false, false, false, false, false, false, false, false] rfl rfl (by kernel_rfl) (fun _ _ _ h => h) (Or.inl ⟨by rfl, ?_⟩) ?_ ?_
                    rotate_left
                    · intro w'
                      go_simp
                      with_reducible rfl
                    rotate_left
                    · simp only [Act.put, List.setIfInBounds_toArray, List.set_cons_zero, List.set_cons_succ]
                      rfl
                    refine pure_ (i := 20) (N := some 156) (v := ?_) (a' := ?_) #[true, true, true, true, true, true, true, true, true, true, true, true, true, true, true, true, true, true, true, true, true, false, false, false, false, false, false, false] rfl rfl (by kernel_rfl) (fun _ _ _ h => h) (Or.inl ⟨by rfl, ?_⟩) ?_ ?_
                    rotate_left
                    · intro w'
                      go_simp
                      with_reducible rfl
                    rotate_left
                    · simp only [Act.put, List.setIfInBounds_toArray, List.set_cons_zero, List.set_cons_succ]
                      rfl
                    refine pure_ (i := 21) (N := some 157) (v := ?_) (a' := ?_) #[true, true, true, true, true, true, true, true, true, true, true, true, true, true, true, true, true, true, true, true, true, true, false, false, false, false, false, false] rfl rfl (by kernel_rfl) (fun _ _ _ h => h) (Or.inl ⟨by rfl, ?_⟩) ?_ ?_
                    rotate_left
                    · intro w'
                      go_simp
                      with_reducible rfl
                    rotate_left
                    · simp only [Act.put, List.setIfInBounds_toArray, List.set_cons_zero, List.set_cons_succ]
                      rfl
                    refine pure_ (i := 22) (N := some 158) (v := ?_) (a' := ?_) #[true, true, true, true, true, true, true, true, true, true, true, true, true, true, true, true, true, true, true, true, true, true, true, false, false, false, false, false] rfl rfl (by kernel_rfl) (fun _ _ _ h => h) (Or.inl ⟨by rfl, ?_⟩) ?_ ?_
                    rotate_left
                    · intro w'
                      go_simp
                      with_reducible rfl
                    rotate_left
                    · simp only [Act.put, List.setIfInBounds_toArray, List.set_cons_zero, List.set_cons_succ]
                      rfl
                    refine pure_ (i := 24) (N := some 160) (v := ?_) (a' := ?_) #[true, true, true, true, true, true, true, true, true, true, true, true, true, true, true, true, true, true, true, true, true, true, true, false, true, false, false, false] rfl rfl (by kernel_rfl) (fun _ _ _ h => h) (Or.inl ⟨by rfl, ?_⟩) ?_ ?_
                    rotate_left
                    · intro w'
                      go_simp
                      with_reducible rfl
                    rotate_left
                    · simp only [Act.put, List.setIfInBounds_toArray, List.set_cons_zero, List.set_cons_succ]
                      rfl
                    refine one_ (i := 23) (N := some 159) #[true, true, true, true, true, true, true, true, true, true, true, true, true, true, true, true, true, true, true, true, true, true, true, true, true, false, false, false] rfl rfl (by kernel_rfl) (by decide) (fun K hK => ?_)
                    refine goes_ Tryd.func15 (by kernel_rfl) rfl #[.pointer (some ⟨gk, 0, none⟩)] (by rfl) rfl rfl (by (try simp only [List.map_toArray, List.map_cons, List.map_nil]); first | done | rfl) ?_
                    with_reducible refine (climate_any gk gs gi' cs ci' st.length l.length pn n ramp a0 a1 a2 a3 a4 a5 a6 a7 a8 a9 a10 a11 t' d' stage' ins' ticks' 0 _ (Lib.hid (hO.at 2 rfl))).mono ?_
                    rintro e w_ ⟨rfl, hb_⟩
                    refine ⟨_, rfl, ?_⟩
                    replace hO := Own.call hO hb_
                    clear hb_
                    refine hK.out _ _ (hO) (fun hS => ?_)
                    clear hK K
                    refine norm_ (a' := ?_) ?_ ?_
                    rotate_left
                    · show Act.put _ (some 159) _ = _
                      simp only [Act.put, List.setIfInBounds_toArray, List.set_cons_zero, List.set_cons_succ]
                      rfl
                    refine one_ (i := 25) (N := some 161) #[true, true, true, true, true, true, true, true, true, true, true, true, true, true, true, true, true, true, true, true, true, true, true, true, true, true, false, false] rfl rfl (by kernel_rfl) (by decide) (fun K hK => ?_)
                    refine goes_ Tryd.func15 (by kernel_rfl) rfl #[.pointer (some ⟨gk1, 0, none⟩)] (by rfl) rfl rfl (by (try simp only [List.map_toArray, List.map_cons, List.map_nil]); first | done | rfl) ?_
                    with_reducible refine (climate_any gk1 gs1 gi1' cs1 ci1' st.length 1 pn n ramp a0 a1 a2 a3 a4 a5 a6 a7 a8 a9 a10 a11 t' d' stage1' ins1' ticks1' held1' _ (Lib.hid (hO.at 5 rfl))).mono ?_
                    rintro e w_ ⟨rfl, hb_⟩
                    refine ⟨_, rfl, ?_⟩
                    replace hO := Own.call hO hb_
                    clear hb_
                    refine hK.out _ _ (hO) (fun hS => ?_)
                    clear hK K
                    refine norm_ (a' := ?_) ?_ ?_
                    rotate_left
                    · show Act.put _ (some 161) _ = _
                      simp only [Act.put, List.setIfInBounds_toArray, List.set_cons_zero, List.set_cons_succ]
                      rfl
                    refine pure_ (i := 26) (N := some 162) (v := ?_) (a' := ?_) #[true, true, true, true, true, true, true, true, true, true, true, true, true, true, true, true, true, true, true, true, true, true, true, true, true, true, true, false] rfl rfl (by kernel_rfl) (fun _ _ _ h => h) (Or.inl ⟨by rfl, ?_⟩) ?_ ?_
                    rotate_left
                    · intro w'
                      go_simp
                      with_reducible rfl
                    rotate_left
                    · simp only [Act.put, List.setIfInBounds_toArray, List.set_cons_zero, List.set_cons_succ]
                      rfl
                    refine pure_ (i := 27) (N := some 163) (v := ?_) (a' := ?_) #[true, true, true, true, true, true, true, true, true, true, true, true, true, true, true, true, true, true, true, true, true, true, true, true, true, true, true, true] rfl rfl (by kernel_rfl) (fun _ _ _ h => h) (Or.inl ⟨by rfl, ?_⟩) ?_ ?_
                    rotate_left
                    · intro w'
                      go_simp
                      with_reducible rfl
                    rotate_left
                    · simp only [Act.put, List.setIfInBounds_toArray, List.set_cons_zero, List.set_cons_succ]
                      rfl
                    refine done_ (by kernel_rfl) ?_
                    go_wp2_with fail
                    go_roundw
                    (case rel => exact ⟨k + 1, ⟨l', t', d', stage', ins', ticks', 0⟩, ⟨[(th, ya, yb, ys)], t', d', stage1', ins1', ticks1', held1'⟩, gi', ci', pad', gi1', ci1', pad1', by omega, by go_num, ⟨HIV.out, HIV1.out, ⟨_, HY.out, rfl⟩, rfl, rfl, rfl⟩, hO.sub (List.Sublist.cons _ (List.Sublist.cons _ (List.Sublist.cons_cons _ (List.Sublist.cons_cons _ (List.Sublist.cons_cons _ (List.Sublist.cons_cons _ (List.Sublist.cons_cons _ (List.Sublist.cons_cons _ (List.Sublist.cons_cons _ (List.nil_sublist _))))))))))⟩)
                    (case measure => simp [intOf]; omega)
                · obtain ⟨m', rfl⟩ : ∃ k, m = k + 1 := ⟨m - 1, by omega⟩
                  obtain rfl : j = (m' : Int) := by omega
                  obtain ⟨xf, hxf⟩ : ∃ x, f[m']? = some x := ⟨_, List.getElem?_eq_getElem (by omega)⟩
                  obtain ⟨bu, ou, huA, hcn⟩ : ∃ b o, uA = some ⟨b, o, none⟩ ∧ w.cell? ⟨b, o + m', none⟩ = some (.int .i64 xf) := by
                    rcases HU.out with ⟨_, _, _, h0⟩ | ⟨b, o, c, hv, hc⟩
                    · rw [h0] at hxf
                      simp at hxf
                    · injection hv with hv _ _
                      exact ⟨b, o, hv, hc m' xf hxf⟩
                  subst huA
                  have HCN := Lib.hid hcn
                  have HBM := Lib.hid (back_map hxf)
                  obtain ⟨i0, hi0, hz0, hz1, hz2⟩ := info_parts int_info
                  have qj : decide ((0 : Int) ≤ (m' : Int)) = true := decide_eq_true (by omega)
                  have sj : IntKind.i64.wrap ((m' : Int) - 1) = (m' : Int) - 1 := IntWalk.i64_in _ (by omega)
                  have hmf : m' < f.length := by omega
                  clear hcn hxf hj hz
                  go_upto_region 18 with fail
                  (try simp only [Act.put, List.setIfInBounds_toArray, List.set_cons_zero, List.set_cons_succ])
                  refine start_ (n := 18) (S := fun w' => Acc w [(gk, 74, #[.string pn, .int .i64 ramp, .slice (some ⟨gs, 0, none⟩) st.length cs, .string n, .int .i64 a0, .int .i64 a1, .int .i64 a2, .int .i64 a3, .int .i64 a4, .int .i64 a5, .int .i64 a6, .int .i64 a7, .int .i64 a8, .int .i64 a9, .int .i64 a10, .int .i64 a11, .slice (some ⟨gi, 0, none⟩) l.length ci, .int .i64 t, .int .i64 d, .int .i64 stage, .int .i64 ins, .int .i64 ticks, .int .i64 0]), (gi, 53, (flat q4 ls ++ pad).toArray), (gs, 65, (flat q4 st ++ pads).toArray), (gk1, 74, #[.string pn, .int .i64 ramp, .slice (some ⟨gs1, 0, none⟩) st.length cs1, .string n, .int .i64 a0, .int .i64 a1, .int .i64 a2, .int .i64 a3, .int .i64 a4, .int .i64 a5, .int .i64 a6, .int .i64 a7, .int .i64 a8, .int .i64 a9, .int .i64 a10, .int .i64 a11, .slice (some ⟨gi1, 0, none⟩) 1 ci1, .int .i64 t1, .int .i64 d1, .int .i64 stage1, .int .i64 ins1, .int .i64 ticks1, .int .i64 held1]), (gi1, 53, (flat q4 [x] ++ pad1).toArray), (gs1, 65, (flat q4 st ++ pads1).toArray), (gx, 29, #[.string pn, .int .i64 ramp, .slice sA st.length sc, .string n, .int .i64 a0, .int .i64 a1, .int .i64 a2, .int .i64 a3, .int .i64 a4, .int .i64 a5, .int .i64 a6, .int .i64 a7, .int .i64 a8, .int .i64 a9, .int .i64 a10, .int .i64 a11, .slice (some ⟨bi, oi, none⟩) l.length ic])] 3 1 u13 N ((backK f (m' + 1)).map (Value.int .i64 ·)) w') (ds := [16]) #[false, false, false, false, false, false, false, false, false, false, false, false, false, false, false, false, false, false] (by kernel_rfl) rfl rfl (Acc.drew hA) (fun hS => ?_)
                  clear hA
                  have hA := hS
                  refine pure_ (i := 0) (N := some 99) (v := ?_) (a' := ?_) #[true, false, false, false, false, false, false, false, false, false, false, false, false, false, false, false, false, false] rfl rfl (by kernel_rfl) (fun _ _ _ h => h) (Or.inl ⟨by rfl, ?_⟩) ?_ ?_
                  rotate_left
                  · intro w'
                    go_simp
                    with_reducible rfl
                  rotate_left
                  · simp only [Act.put, List.setIfInBounds_toArray, List.set_cons_zero, List.set_cons_succ]
                    rfl
                  refine pure_ (i := 1) (N := some 100) (v := ?_) (a' := ?_) #[true, true, false, false, false, false, false, false, false, false, false, false, false, false, false, false, false, false] rfl rfl (by kernel_rfl) (fun _ _ _ h => h) (Or.inl ⟨by rfl, ?_⟩) ?_ ?_
                  rotate_left
                  · intro w'
                    go_simp
                    with_reducible rfl
                  rotate_left
                  · simp only [Act.put, List.setIfInBounds_toArray, List.set_cons_zero, List.set_cons_succ]
                    rfl
                  refine pure_ (i := 2) (N := some 101) (v := ?_) (a' := ?_) #[true, true, true, false, false, false, false, false, false, false, false, false, false, false, false, false, false, false] rfl rfl (by kernel_rfl) (fun _ _ _ h => h) (Or.inl ⟨by rfl, ?_⟩) ?_ ?_
                  rotate_left
                  · intro w'
                    go_simp
                    with_reducible rfl
                  rotate_left
                  · simp only [Act.put, List.setIfInBounds_toArray, List.set_cons_zero, List.set_cons_succ]
                    rfl
                  refine pure_ (i := 3) (N := some 102) (v := ?_) (a' := ?_) #[true, true, true, true, false, false, false, false, false, false, false, false, false, false, false, false, false, false] rfl rfl (by kernel_rfl) (fun _ _ _ h => h) (Or.inl ⟨by rfl, ?_⟩) ?_ ?_
                  rotate_left
                  · intro w'
                    go_simp
                    with_reducible rfl
                  rotate_left
                  · simp only [Act.put, List.setIfInBounds_toArray, List.set_cons_zero, List.set_cons_succ]
                    rfl
                  first
                    | (refine take_ (i := 4) (N := some 103) (a' := ?_) #[true, true, true, true, true, false, false, false, false, false, false, false, false, false, false, false, false, false] rfl rfl (by kernel_rfl) (fun _ _ _ h => h) (yaOne hS ?_ 46 _ rfl 0 _ _ rfl _ _ rfl ?_ ?_ _ Tryd.underlying46 rfl) hS ?_ ?_; (focus rfl); rotate_left; (focus (first | (with_reducible exact hcell_) | (simp only [List.getElem?_toArray, List.getElem?_cons_zero, List.getElem?_cons_succ]; rfl))); rotate_left; (focus (simp only [Act.put, List.setIfInBounds_toArray, List.set_cons_zero, List.set_cons_succ]; rfl)))
                    | (refine take_ (i := 4) (N := some 103) (a' := ?_) #[true, true, true, true, true, false, false, false, false, false, false, false, false, false, false, false, false, false] rfl rfl (by kernel_rfl) (fun _ _ _ h => h) (yaOne hS ?_ 46 _ rfl 1 _ _ rfl _ _ rfl ?_ ?_ _ Tryd.underlying46 rfl) hS ?_ ?_; (focus rfl); rotate_left; (focus (first | (with_reducible exact hcell_) | (simp only [List.getElem?_toArray, List.getElem?_cons_zero, List.getElem?_cons_succ]; rfl))); rotate_left; (focus (simp only [Act.put, List.setIfInBounds_toArray, List.set_cons_zero, List.set_cons_succ]; rfl)))
                    | (refine take_ (i := 4) (N := some 103) (a' := ?_) #[true, true, true, true, true, false, false, false, false, false, false, false, false, false, false, false, false, false] rfl rfl (by kernel_rfl) (fun _ _ _ h => h) (yaOne hS ?_ 46 _ rfl 2 _ _ rfl _ _ rfl ?_ ?_ _ Tryd.underlying46 rfl) hS ?_ ?_; (focus rfl); rotate_left; (focus (first | (with_reducible exact hcell_) | (simp only [List.getElem?_toArray, List.getElem?_cons_zero, List.getElem?_cons_succ]; rfl))); rotate_left; (focus (simp only [Act.put, List.setIfInBounds_toArray, List.set_cons_zero, List.set_cons_succ]; rfl)))
                    | (refine take_ (i := 4) (N := some 103) (a' := ?_) #[true, true, true, true, true, false, false, false, false, false, false, false, false, false, false, false, false, false] rfl rfl (by kernel_rfl) (fun _ _ _ h => h) (yaOne hS ?_ 46 _ rfl 3 _ _ rfl _ _ rfl ?_ ?_ _ Tryd.underlying46 rfl) hS ?_ ?_; (focus rfl); rotate_left; (focus (first | (with_reducible exact hcell_) | (simp only [List.getElem?_toArray, List.getElem?_cons_zero, List.getElem?_cons_succ]; rfl))); rotate_left; (focus (simp only [Act.put, List.setIfInBounds_toArray, List.set_cons_zero, List.set_cons_succ]; rfl)))
                    | (refine take_ (i := 4) (N := some 103) (a' := ?_) #[true, true, true, true, true, false, false, false, false, false, false, false, false, false, false, false, false, false] rfl rfl (by kernel_rfl) (fun _ _ _ h => h) (yaOne hS ?_ 46 _ rfl 4 _ _ rfl _ _ rfl ?_ ?_ _ Tryd.underlying46 rfl) hS ?_ ?_; (focus rfl); rotate_left; (focus (first | (with_reducible exact hcell_) | (simp only [List.getElem?_toArray, List.getElem?_cons_zero, List.getElem?_cons_succ]; rfl))); rotate_left; (focus (simp only [Act.put, List.setIfInBounds_toArray, List.set_cons_zero, List.set_cons_succ]; rfl)))
                    | (refine take_ (i := 4) (N := some 103) (a' := ?_) #[true, true, true, true, true, false, false, false, false, false, false, false, false, false, false, false, false, false] rfl rfl (by kernel_rfl) (fun _ _ _ h => h) (yaOne hS ?_ 46 _ rfl 5 _ _ rfl _ _ rfl ?_ ?_ _ Tryd.underlying46 rfl) hS ?_ ?_; (focus rfl); rotate_left; (focus (first | (with_reducible exact hcell_) | (simp only [List.getElem?_toArray, List.getElem?_cons_zero, List.getElem?_cons_succ]; rfl))); rotate_left; (focus (simp only [Act.put, List.setIfInBounds_toArray, List.set_cons_zero, List.set_cons_succ]; rfl)))
                    | (refine take_ (i := 4) (N := some 103) (a' := ?_) #[true, true, true, true, true, false, false, false, false, false, false, false, false, false, false, false, false, false] rfl rfl (by kernel_rfl) (fun _ _ _ h => h) (yaOne hS ?_ 46 _ rfl 6 _ _ rfl _ _ rfl ?_ ?_ _ Tryd.underlying46 rfl) hS ?_ ?_; (focus rfl); rotate_left; (focus (first | (with_reducible exact hcell_) | (simp only [List.getElem?_toArray, List.getElem?_cons_zero, List.getElem?_cons_succ]; rfl))); rotate_left; (focus (simp only [Act.put, List.setIfInBounds_toArray, List.set_cons_zero, List.set_cons_succ]; rfl)))
                    | (refine take_ (i := 4) (N := some 103) (a' := ?_) #[true, true, true, true, true, false, false, false, false, false, false, false, false, false, false, false, false, false] rfl rfl (by kernel_rfl) (fun _ _ _ h => h) (yrOne hS HCX.out ?_ 46 _ rfl rfl _ Tryd.underlying46 rfl) hS ?_ ?_; (focus rfl); rotate_left; (focus (simp only [Act.put, List.setIfInBounds_toArray, List.set_cons_zero, List.set_cons_succ]; rfl)))
                    | (refine take_ (i := 4) (N := some 103) (a' := ?_) #[true, true, true, true, true, false, false, false, false, false, false, false, false, false, false, false, false, false] rfl rfl (by kernel_rfl) (fun _ _ _ h => h) (yrOne hS HCN.out ?_ 46 _ rfl rfl _ Tryd.underlying46 rfl) hS ?_ ?_; (focus rfl); rotate_left; (focus (simp only [Act.put, List.setIfInBounds_toArray, List.set_cons_zero, List.set_cons_succ]; rfl)))
                  refine pure_ (i := 5) (N := some 104) (v := ?_) (a' := ?_) #[true, true, true, true, true, true, false, false, false, false, false, false, false, false, false, false, false, false] rfl rfl (by kernel_rfl) (fun _ _ _ h => h) (Or.inl ⟨by rfl, ?_⟩) ?_ ?_
                  rotate_left
                  · intro w'
                    go_simp
                    with_reducible rfl
                  rotate_left
                  · simp only [Act.put, List.setIfInBounds_toArray, List.set_cons_zero, List.set_cons_succ]
                    rfl
                  refine pure_ (i := 6) (N := some 105) (v := ?_) (a' := ?_) #[true, true, true, true, true, true, true, false, false, false, false, false, false, false, false, false, false, false] rfl rfl (by kernel_rfl) (fun _ _ _ h => h) (Or.inl ⟨by rfl, ?_⟩) ?_ ?_
                  rotate_left
                  · intro w'
                    go_simp
                    with_reducible rfl
                  rotate_left
                  · simp only [Act.put, List.setIfInBounds_toArray, List.set_cons_zero, List.set_cons_succ]
                    rfl
                  first
                    | (refine take_ (i := 7) (N := some 106) (a' := ?_) #[true, true, true, true, true, true, true, true, false, false, false, false, false, false, false, false, false, false] rfl rfl (by kernel_rfl) (fun _ _ _ h => h) (yaOne hS ?_ 3 _ rfl 0 _ _ rfl _ _ rfl ?_ ?_ _ Tryd.underlying3 rfl) hS ?_ ?_; (focus rfl); rotate_left; (focus (first | (with_reducible exact hcell_) | (simp only [List.getElem?_toArray, List.getElem?_cons_zero, List.getElem?_cons_succ]; rfl))); rotate_left; (focus (simp only [Act.put, List.setIfInBounds_toArray, List.set_cons_zero, List.set_cons_succ]; rfl)))
                    | (refine take_ (i := 7) (N := some 106) (a' := ?_) #[true, true, true, true, true, true, true, true, false, false, false, false, false, false, false, false, false, false] rfl rfl (by kernel_rfl) (fun _ _ _ h => h) (yaOne hS ?_ 3 _ rfl 1 _ _ rfl _ _ rfl ?_ ?_ _ Tryd.underlying3 rfl) hS ?_ ?_; (focus rfl); rotate_left; (focus (first | (with_reducible exact hcell_) | (simp only [List.getElem?_toArray, List.getElem?_cons_zero, List.getElem?_cons_succ]; rfl))); rotate_left; (focus (simp only [Act.put, List.setIfInBounds_toArray, List.set_cons_zero, List.set_cons_succ]; rfl)))
                    | (refine take_ (i := 7) (N := some 106) (a' := ?_) #[true, true, true, true, true, true, true, true, false, false, false, false, false, false, false, false, false, false] rfl rfl (by kernel_rfl) (fun _ _ _ h => h) (yaOne hS ?_ 3 _ rfl 2 _ _ rfl _ _ rfl ?_ ?_ _ Tryd.underlying3 rfl) hS ?_ ?_; (focus rfl); rotate_left; (focus (first | (with_reducible exact hcell_) | (simp only [List.getElem?_toArray, List.getElem?_cons_zero, List.getElem?_cons_succ]; rfl))); rotate_left; (focus (simp only [Act.put, List.setIfInBounds_toArray, List.set_cons_zero, List.set_cons_succ]; rfl)))
                    | (refine take_ (i := 7) (N := some 106) (a' := ?_) #[true, true, true, true, true, true, true, true, false, false, false, false, false, false, false, false, false, false] rfl rfl (by kernel_rfl) (fun _ _ _ h => h) (yaOne hS ?_ 3 _ rfl 3 _ _ rfl _ _ rfl ?_ ?_ _ Tryd.underlying3 rfl) hS ?_ ?_; (focus rfl); rotate_left; (focus (first | (with_reducible exact hcell_) | (simp only [List.getElem?_toArray, List.getElem?_cons_zero, List.getElem?_cons_succ]; rfl))); rotate_left; (focus (simp only [Act.put, List.setIfInBounds_toArray, List.set_cons_zero, List.set_cons_succ]; rfl)))
                    | (refine take_ (i := 7) (N := some 106) (a' := ?_) #[true, true, true, true, true, true, true, true, false, false, false, false, false, false, false, false, false, false] rfl rfl (by kernel_rfl) (fun _ _ _ h => h) (yaOne hS ?_ 3 _ rfl 4 _ _ rfl _ _ rfl ?_ ?_ _ Tryd.underlying3 rfl) hS ?_ ?_; (focus rfl); rotate_left; (focus (first | (with_reducible exact hcell_) | (simp only [List.getElem?_toArray, List.getElem?_cons_zero, List.getElem?_cons_succ]; rfl))); rotate_left; (focus (simp only [Act.put, List.setIfInBounds_toArray, List.set_cons_zero, List.set_cons_succ]; rfl)))
                    | (refine take_ (i := 7) (N := some 106) (a' := ?_) #[true, true, true, true, true, true, true, true, false, false, false, false, false, false, false, false, false, false] rfl rfl (by kernel_rfl) (fun _ _ _ h => h) (yaOne hS ?_ 3 _ rfl 5 _ _ rfl _ _ rfl ?_ ?_ _ Tryd.underlying3 rfl) hS ?_ ?_; (focus rfl); rotate_left; (focus (first | (with_reducible exact hcell_) | (simp only [List.getElem?_toArray, List.getElem?_cons_zero, List.getElem?_cons_succ]; rfl))); rotate_left; (focus (simp only [Act.put, List.setIfInBounds_toArray, List.set_cons_zero, List.set_cons_succ]; rfl)))
                    | (refine take_ (i := 7) (N := some 106) (a' := ?_) #[true, true, true, true, true, true, true, true, false, false, false, false, false, false, false, false, false, false] rfl rfl (by kernel_rfl) (fun _ _ _ h => h) (yaOne hS ?_ 3 _ rfl 6 _ _ rfl _ _ rfl ?_ ?_ _ Tryd.underlying3 rfl) hS ?_ ?_; (focus rfl); rotate_left; (focus (first | (with_reducible exact hcell_) | (simp only [List.getElem?_toArray, List.getElem?_cons_zero, List.getElem?_cons_succ]; rfl))); rotate_left; (focus (simp only [Act.put, List.setIfInBounds_toArray, List.set_cons_zero, List.set_cons_succ]; rfl)))
                    | (refine take_ (i := 7) (N := some 106) (a' := ?_) #[true, true, true, true, true, true, true, true, false, false, false, false, false, false, false, false, false, false] rfl rfl (by kernel_rfl) (fun _ _ _ h => h) (yrOne hS HCX.out ?_ 3 _ rfl rfl _ Tryd.underlying3 rfl) hS ?_ ?_; (focus rfl); rotate_left; (focus (simp only [Act.put, List.setIfInBounds_toArray, List.set_cons_zero, List.set_cons_succ]; rfl)))
                    | (refine take_ (i := 7) (N := some 106) (a' := ?_) #[true, true, true, true, true, true, true, true, false, false, false, false, false, false, false, false, false, false] rfl rfl (by kernel_rfl) (fun _ _ _ h => h) (yrOne hS HCN.out ?_ 3 _ rfl rfl _ Tryd.underlying3 rfl) hS ?_ ?_; (focus rfl); rotate_left; (focus (simp only [Act.put, List.setIfInBounds_toArray, List.set_cons_zero, List.set_cons_succ]; rfl)))
                  refine pure_ (i := 8) (N := some 107) (v := ?_) (a' := ?_) #[true, true, true, true, true, true, true, true, true, false, false, false, false, false, false, false, false, false] rfl rfl (by kernel_rfl) (fun _ _ _ h => h) (Or.inl ⟨by rfl, ?_⟩) ?_ ?_
                  rotate_left
                  · intro w'
                    go_simp
                    with_reducible rfl
                  rotate_left
                  · simp only [Act.put, List.setIfInBounds_toArray, List.set_cons_zero, List.set_cons_succ]
                    rfl
                  refine pure_ (i := 9) (N := some 108) (v := ?_) (a' := ?_) #[true, true, true, true, true, true, true, true, true, true, false, false, false, false, false, false, false, false] rfl rfl (by kernel_rfl) (fun _ _ _ h => h) (Or.inl ⟨by rfl, ?_⟩) ?_ ?_
                  rotate_left
                  · intro w'
                    go_simp
                    with_reducible rfl
                  rotate_left
                  · simp only [Act.put, List.setIfInBounds_toArray, List.set_cons_zero, List.set_cons_succ]
                    rfl
                  refine pure_ (i := 10) (N := some 109) (v := ?_) (a' := ?_) #[true, true, true, true, true, true, true, true, true, true, true, false, false, false, false, false, false, false] rfl rfl (by kernel_rfl) (fun _ _ _ h => h) (Or.inl ⟨by rfl, ?_⟩) ?_ ?_
                  rotate_left
                  · intro w'
                    go_simp
                    with_reducible rfl
                  rotate_left
                  · simp only [Act.put, List.setIfInBounds_toArray, List.set_cons_zero, List.set_cons_succ]
                    rfl
                  first
                    | (refine take_ (i := 11) (N := some 110) (a' := ?_) #[true, true, true, true, true, true, true, true, true, true, true, true, false, false, false, false, false, false] rfl rfl (by kernel_rfl) (fun _ _ _ h => h) (yaOne hS ?_ 46 _ rfl 0 _ _ rfl _ _ rfl ?_ ?_ _ Tryd.underlying46 rfl) hS ?_ ?_; (focus rfl); rotate_left; (focus (first | (with_reducible exact hcell_) | (simp only [List.getElem?_toArray, List.getElem?_cons_zero, List.getElem?_cons_succ]; rfl))); rotate_left; (focus (simp only [Act.put, List.setIfInBounds_toArray, List.set_cons_zero, List.set_cons_succ]; rfl)))
                    | (refine take_ (i := 11) (N := some 110) (a' := ?_) #[true, true, true, true, true, true, true, true, true, true, true, true, false, false, false, false, false, false] rfl rfl (by kernel_rfl) (fun _ _ _ h => h) (yaOne hS ?_ 46 _ rfl 1 _ _ rfl _ _ rfl ?_ ?_ _ Tryd.underlying46 rfl) hS ?_ ?_; (focus rfl); rotate_left; (focus (first | (with_reducible exact hcell_) | (simp only [List.getElem?_toArray, List.getElem?_cons_zero, List.getElem?_cons_succ]; rfl))); rotate_left; (focus (simp only [Act.put, List.setIfInBounds_toArray, List.set_cons_zero, List.set_cons_succ]; rfl)))
                    | (refine take_ (i := 11) (N := some 110) (a' := ?_) #[true, true, true, true, true, true, true, true, true, true, true, true, false, false, false, false, false, false] rfl rfl (by kernel_rfl) (fun _ _ _ h => h) (yaOne hS ?_ 46 _ rfl 2 _ _ rfl _ _ rfl ?_ ?_ _ Tryd.underlying46 rfl) hS ?_ ?_; (focus rfl); rotate_left; (focus (first | (with_reducible exact hcell_) | (simp only [List.getElem?_toArray, List.getElem?_cons_zero, List.getElem?_cons_succ]; rfl))); rotate_left; (focus (simp only [Act.put, List.setIfInBounds_toArray, List.set_cons_zero, List.set_cons_succ]; rfl)))
                    | (refine take_ (i := 11) (N := some 110) (a' := ?_) #[true, true, true, true, true, true, true, true, true, true, true, true, false, false, false, false, false, false] rfl rfl (by kernel_rfl) (fun _ _ _ h => h) (yaOne hS ?_ 46 _ rfl 3 _ _ rfl _ _ rfl ?_ ?_ _ Tryd.underlying46 rfl) hS ?_ ?_; (focus rfl); rotate_left; (focus (first | (with_reducible exact hcell_) | (simp only [List.getElem?_toArray, List.getElem?_cons_zero, List.getElem?_cons_succ]; rfl))); rotate_left; (focus (simp only [Act.put, List.setIfInBounds_toArray, List.set_cons_zero, List.set_cons_succ]; rfl)))
                    | (refine take_ (i := 11) (N := some 110) (a' := ?_) #[true, true, true, true, true, true, true, true, true, true, true, true, false, false, false, false, false, false] rfl rfl (by kernel_rfl) (fun _ _ _ h => h) (yaOne hS ?_ 46 _ rfl 4 _ _ rfl _ _ rfl ?_ ?_ _ Tryd.underlying46 rfl) hS ?_ ?_; (focus rfl); rotate_left; (focus (first | (with_reducible exact hcell_) | (simp only [List.getElem?_toArray, List.getElem?_cons_zero, List.getElem?_cons_succ]; rfl))); rotate_left; (focus (simp only [Act.put, List.setIfInBounds_toArray, List.set_cons_zero, List.set_cons_succ]; rfl)))
                    | (refine take_ (i := 11) (N := some 110) (a' := ?_) #[true, true, true, true, true, true, true, true, true, true, true, true, false, false, false, false, false, false] rfl rfl (by kernel_rfl) (fun _ _ _ h => h) (yaOne hS ?_ 46 _ rfl 5 _ _ rfl _ _ rfl ?_ ?_ _ Tryd.underlying46 rfl) hS ?_ ?_; (focus rfl); rotate_left; (focus (first | (with_reducible exact hcell_) | (simp only [List.getElem?_toArray, List.getElem?_cons_zero, List.getElem?_cons_succ]; rfl))); rotate_left; (focus (simp only [Act.put, List.setIfInBounds_toArray, List.set_cons_zero, List.set_cons_succ]; rfl)))
                    | (refine take_ (i := 11) (N := some 110) (a' := ?_) #[true, true, true, true, true, true, true, true, true, true, true, true, false, false, false, false, false, false] rfl rfl (by kernel_rfl) (fun _ _ _ h => h) (yaOne hS ?_ 46 _ rfl 6 _ _ rfl _ _ rfl ?_ ?_ _ Tryd.underlying46 rfl) hS ?_ ?_; (focus rfl); rotate_left; (focus (first | (with_reducible exact hcell_) | (simp only [List.getElem?_toArray, List.getElem?_cons_zero, List.getElem?_cons_succ]; rfl))); rotate_left; (focus (simp only [Act.put, List.setIfInBounds_toArray, List.set_cons_zero, List.set_cons_succ]; rfl)))
                    | (refine take_ (i := 11) (N := some 110) (a' := ?_) #[true, true, true, true, true, true, true, true, true, true, true, true, false, false, false, false, false, false] rfl rfl (by kernel_rfl) (fun _ _ _ h => h) (yrOne hS HCX.out ?_ 46 _ rfl rfl _ Tryd.underlying46 rfl) hS ?_ ?_; (focus rfl); rotate_left; (focus (simp only [Act.put, List.setIfInBounds_toArray, List.set_cons_zero, List.set_cons_succ]; rfl)))
                    | (refine take_ (i := 11) (N := some 110) (a' := ?_) #[true, true, true, true, true, true, true, true, true, true, true, true, false, false, false, false, false, false] rfl rfl (by kernel_rfl) (fun _ _ _ h => h) (yrOne hS HCN.out ?_ 46 _ rfl rfl _ Tryd.underlying46 rfl) hS ?_ ?_; (focus rfl); rotate_left; (focus (simp only [Act.put, List.setIfInBounds_toArray, List.set_cons_zero, List.set_cons_succ]; rfl)))
                  refine pure_ (i := 12) (N := some 111) (v := ?_) (a' := ?_) #[true, true, true, true, true, true, true, true, true, true, true, true, true, false, false, false, false, false] rfl rfl (by kernel_rfl) (fun _ _ _ h => h) (Or.inl ⟨by rfl, ?_⟩) ?_ ?_
                  rotate_left
                  · intro w'
                    go_simp
                    with_reducible rfl
                  rotate_left
                  · simp only [Act.put, List.setIfInBounds_toArray, List.set_cons_zero, List.set_cons_succ]
                    rfl
                  refine pure_ (i := 13) (N := some 112) (v := ?_) (a' := ?_) #[true, true, true, true, true, true, true, true, true, true, true, true, true, true, false, false, false, false] rfl rfl (by kernel_rfl) (fun _ _ _ h => h) (Or.inl ⟨by rfl, ?_⟩) ?_ ?_
                  rotate_left
                  · intro w'
                    go_simp
                    with_reducible rfl
                  rotate_left
                  · simp only [Act.put, List.setIfInBounds_toArray, List.set_cons_zero, List.set_cons_succ]
                    rfl
                  first
                    | (refine take_ (i := 14) (N := some 113) (a' := ?_) #[true, true, true, true, true, true, true, true, true, true, true, true, true, true, true, false, false, false] rfl rfl (by kernel_rfl) (fun _ _ _ h => h) (yaOne hS ?_ 3 _ rfl 0 _ _ rfl _ _ rfl ?_ ?_ _ Tryd.underlying3 rfl) hS ?_ ?_; (focus rfl); rotate_left; (focus (first | (with_reducible exact hcell_) | (simp only [List.getElem?_toArray, List.getElem?_cons_zero, List.getElem?_cons_succ]; rfl))); rotate_left; (focus (simp only [Act.put, List.setIfInBounds_toArray, List.set_cons_zero, List.set_cons_succ]; rfl)))
                    | (refine take_ (i := 14) (N := some 113) (a' := ?_) #[true, true, true, true, true, true, true, true, true, true, true, true, true, true, true, false, false, false] rfl rfl (by kernel_rfl) (fun _ _ _ h => h) (yaOne hS ?_ 3 _ rfl 1 _ _ rfl _ _ rfl ?_ ?_ _ Tryd.underlying3 rfl) hS ?_ ?_; (focus rfl); rotate_left; (focus (first | (with_reducible exact hcell_) | (simp only [List.getElem?_toArray, List.getElem?_cons_zero, List.getElem?_cons_succ]; rfl))); rotate_left; (focus (simp only [Act.put, List.setIfInBounds_toArray, List.set_cons_zero, List.set_cons_succ]; rfl)))
                    | (refine take_ (i := 14) (N := some 113) (a' := ?_) #[true, true, true, true, true, true, true, true, true, true, true, true, true, true, true, false, false, false] rfl rfl (by kernel_rfl) (fun _ _ _ h => h) (yaOne hS ?_ 3 _ rfl 2 _ _ rfl _ _ rfl ?_ ?_ _ Tryd.underlying3 rfl) hS ?_ ?_; (focus rfl); rotate_left; (focus (first | (with_reducible exact hcell_) | (simp only [List.getElem?_toArray, List.getElem?_cons_zero, List.getElem?_cons_succ]; rfl))); rotate_left; (focus (simp only [Act.put, List.setIfInBounds_toArray, List.set_cons_zero, List.set_cons_succ]; rfl)))
                    | (refine take_ (i := 14) (N := some 113) (a' := ?_) #[true, true, true, true, true, true, true, true, true, true, true, true, true, true, true, false, false, false] rfl rfl (by kernel_rfl) (fun _ _ _ h => h) (yaOne hS ?_ 3 _ rfl 3 _ _ rfl _ _ rfl ?_ ?_ _ Tryd.underlying3 rfl) hS ?_ ?_; (focus rfl); rotate_left; (focus (first | (with_reducible exact hcell_) | (simp only [List.getElem?_toArray, List.getElem?_cons_zero, List.getElem?_cons_succ]; rfl))); rotate_left; (focus (simp only [Act.put, List.setIfInBounds_toArray, List.set_cons_zero, List.set_cons_succ]; rfl)))
                    | (refine take_ (i := 14) (N := some 113) (a' := ?_) #[true, true, true, true, true, true, true, true, true, true, true, true, true, true, true, false, false, false] rfl rfl (by kernel_rfl) (fun _ _ _ h => h) (yaOne hS ?_ 3 _ rfl 4 _ _ rfl _ _ rfl ?_ ?_ _ Tryd.underlying3 rfl) hS ?_ ?_; (focus rfl); rotate_left; (focus (first | (with_reducible exact hcell_) | (simp only [List.getElem?_toArray, List.getElem?_cons_zero, List.getElem?_cons_succ]; rfl))); rotate_left; (focus (simp only [Act.put, List.setIfInBounds_toArray, List.set_cons_zero, List.set_cons_succ]; rfl)))
                    | (refine take_ (i := 14) (N := some 113) (a' := ?_) #[true, true, true, true, true, true, true, true, true, true, true, true, true, true, true, false, false, false] rfl rfl (by kernel_rfl) (fun _ _ _ h => h) (yaOne hS ?_ 3 _ rfl 5 _ _ rfl _ _ rfl ?_ ?_ _ Tryd.underlying3 rfl) hS ?_ ?_; (focus rfl); rotate_left; (focus (first | (with_reducible exact hcell_) | (simp only [List.getElem?_toArray, List.getElem?_cons_zero, List.getElem?_cons_succ]; rfl))); rotate_left; (focus (simp only [Act.put, List.setIfInBounds_toArray, List.set_cons_zero, List.set_cons_succ]; rfl)))
                    | (refine take_ (i := 14) (N := some 113) (a' := ?_) #[true, true, true, true, true, true, true, true, true, true, true, true, true, true, true, false, false, false] rfl rfl (by kernel_rfl) (fun _ _ _ h => h) (yaOne hS ?_ 3 _ rfl 6 _ _ rfl _ _ rfl ?_ ?_ _ Tryd.underlying3 rfl) hS ?_ ?_; (focus rfl); rotate_left; (focus (first | (with_reducible exact hcell_) | (simp only [List.getElem?_toArray, List.getElem?_cons_zero, List.getElem?_cons_succ]; rfl))); rotate_left; (focus (simp only [Act.put, List.setIfInBounds_toArray, List.set_cons_zero, List.set_cons_succ]; rfl)))
                    | (refine take_ (i := 14) (N := some 113) (a' := ?_) #[true, true, true, true, true, true, true, true, true, true, true, true, true, true, true, false, false, false] rfl rfl (by kernel_rfl) (fun _ _ _ h => h) (yrOne hS HCX.out ?_ 3 _ rfl rfl _ Tryd.underlying3 rfl) hS ?_ ?_; (focus rfl); rotate_left; (focus (simp only [Act.put, List.setIfInBounds_toArray, List.set_cons_zero, List.set_cons_succ]; rfl)))
                    | (refine take_ (i := 14) (N := some 113) (a' := ?_) #[true, true, true, true, true, true, true, true, true, true, true, true, true, true, true, false, false, false] rfl rfl (by kernel_rfl) (fun _ _ _ h => h) (yrOne hS HCN.out ?_ 3 _ rfl rfl _ Tryd.underlying3 rfl) hS ?_ ?_; (focus rfl); rotate_left; (focus (simp only [Act.put, List.setIfInBounds_toArray, List.set_cons_zero, List.set_cons_succ]; rfl)))
                  refine one_ (i := 15) (N := some 114) #[true, true, true, true, true, true, true, true, true, true, true, true, true, true, true, true, false, false] rfl rfl (by kernel_rfl) (by decide) (fun K hK => ?_)
                  refine rMk (by rfl) rfl 46 3 2 _ rfl hA #[.int .i64 xf, .int .i64 xf] i0 (.int .i64 0) 1 Tryd.underlying46 hi0 hz0 hz1 rfl rfl (by kernel_rfl) ?_
                  clear hA
                  intro gb w_ hA
                  refine hK.out _ _ (hA.sub (List.Sublist.cons _ (List.Sublist.refl _))) (fun hS => ?_)
                  clear hK K
                  refine norm_ (a' := ?_) ?_ ?_
                  rotate_left
                  · show Act.put _ (some 114) _ = _
                    simp only [Act.put, List.setIfInBounds_toArray, List.set_cons_zero, List.set_cons_succ]
                    rfl
                  refine last_ (i := 16) (N := some 115) #[true, true, true, true, true, true, true, true, true, true, true, true, true, true, true, true, true, false] rfl rfl (by kernel_rfl) (by decide) (fun K hK => ?_)
                  refine rApp (by rfl) rfl _ _ 46 rfl hA 2 2 rfl rfl i0 (.int .i64 0) 8 Tryd.underlying46 hi0 hz0 hz1 hz2 rfl (by decide) rfl (by simp [Value.oneCell']) (by simp only [maxLen]; omega) (by omega) ?_
                  clear hA
                  intro v_ w_ hA
                  refine hK.out _ _ ?_
                  clear hK K
                  refine norm_ (a' := ?_) ?_ ?_
                  rotate_left
                  · show Act.put _ (some 115) _ = _
                    simp only [Act.put, List.setIfInBounds_toArray, List.set_cons_zero, List.set_cons_succ]
                    rfl
                  refine pure_ (i := 17) (N := some 13) (v := ?_) (a' := ?_) #[true, true, true, true, true, true, true, true, true, true, true, true, true, true, true, true, true, true] rfl rfl (by kernel_rfl) (fun _ _ _ h => h) (Or.inl ⟨by rfl, ?_⟩) ?_ ?_
                  rotate_left
                  · intro w'
                    go_simp
                    with_reducible rfl
                  rotate_left
                  · simp only [Act.put, List.setIfInBounds_toArray, List.set_cons_zero, List.set_cons_succ]
                    rfl
                  refine done_ (by kernel_rfl) ?_
                  go_wp2_with fail
                  go_roundw
                  case rel => exact ⟨m', N + 2, _, by omega, by omega, rfl, rfl, by rw [HBM.out]; exact hA.sub (List.Sublist.cons _ (List.Sublist.refl _))⟩
                  case measure => first | (simp [intOf]; done) | (simp [intOf]; omega)
            · have qs : ((stage : Int) != (stage1 : Int)) = true := by
                rw [bne_iff_ne]
                omega
              clear hse
              go_wp2_with (first
        | (go_at_call 20; clear tokA; (refine (stage_any gk gs gi cs ci st.length l.length pn n ramp a0 a1 a2 a3 a4 a5 a6 a7 a8 a9 a10 a11 t d stage ins ticks 0 _ (Lib.hid (hO.at 0 rfl))).mono ?_); rintro e w_ ⟨rfl, hb_⟩; replace hO := Own.call hO hb_; clear hb_)
        | (go_at_call 20; (refine (stage_any gk1 gs1 gi1 cs1 ci1 st.length 1 pn n ramp a0 a1 a2 a3 a4 a5 a6 a7 a8 a9 a10 a11 t1 d1 stage1 ins1 ticks1 held1 _ (Lib.hid (hO.at 3 rfl))).mono ?_); rintro e w_ ⟨rfl, hb_⟩; replace hO := Own.call hO hb_; clear hb_)
        | (go_at_call 9; (with_reducible refine (awake38_any _ (Lib.hid (hG.out.below hO.bel)) (Lib.hid (h2.out.below hO.bel))).mono ?_); rintro e w_ ⟨rfl, hb_⟩; replace hO := Own.call hO hb_; clear hb_)
              )
              go_ret
              exact ⟨rfl, hO.bel⟩
          · obtain rfl : k = F.length := by omega
            go_wp2_with (first
        | (go_at_call 9; (with_reducible refine (awake38_any _ (Lib.hid (hG.out.below hO.bel)) (Lib.hid (h2.out.below hO.bel))).mono ?_); rintro e w_ ⟨rfl, hb_⟩; replace hO := Own.call hO hb_; clear hb_)
            )
            go_ret
            exact ⟨rfl, hO.bel⟩
end Go.Proofs.YtkedpokbbogkmaaDoor

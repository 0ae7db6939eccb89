/-
  KilnAlone: for every case, every number and every lists of faults the law returns true and leaves the case and the faults as they were, whatever lies in memory, if the tables of the packages air, kiln and schedule lie as the program's text lays them.
-/
import Derived.Test.YtkedpokbbogkmaaDoorRow38
import Derived.Test.YtkedpokbbogkmaaDoorArgs38
import Derived.Test.YtkedpokbbogkmaaDoorAlone38
namespace Go.Proofs.YtkedpokbbogkmaaDoor
set_option linter.unusedVariables false
set_option linter.unusedSimpArgs false
open Go.Deep Go.ChangeShapes Go.WideShapes Go.ChangeAt Go.WideElems Go.RowKit
set_option maxRecDepth 100000 in
theorem laidOut : laidOutB Tryd.prog = true := by kernel_rfl
set_option maxRecDepth 100000 in
theorem one_u8 {H : Type} {enc : TypeId × Value → H} {w : World} {base : Nat} {spare : Nat → Bool} {held : Bool} {fuel : Nat} {x : DataW H × List MemPlace} {n : Int} (h : DataW.trod enc Tryd.prog w base spare held fuel 5 [.int .u8 n] = some x) : 0 ≤ n ∧ n ≤ 255 := by
  obtain ⟨m, e, _, hw⟩ := DataW.trod_int Tryd.underlying5 h
  have he : Value.int .u8 n = .int .u8 m := by simpa using e
  injection he with _ he
  subst he
  have : (Lit.int .u8 n).wf = (decide (0 ≤ n) && decide (n ≤ 255)) := rfl
  rw [this] at hw
  simpa using hw
set_option maxRecDepth 100000 in
theorem lifted (os : Os) (started : os.Started) (H : Type) (enc : TypeId × Value → H) :
    ReturnsInHanded {} Tryd.checked os 6 .any (fun w args => (Rows.kilnAloneSpec.pre enc Tryd.prog Tryd.f6 [] false w args ∧ laidMetH Tryd.prog laid5 w) ∧ sizedMet enc Tryd.prog Tryd.f6 (OpenSpec.ofChange Rows.kilnAloneSpec) false w args)
      (Rows.kilnAloneSpec.post enc Tryd.prog Tryd.f6 false true false false) := by
  refine returnsInHanded_of_change_and (C := Tryd.checked) (X := fun w _ => laidMetH Tryd.prog laid5 w) (fun _ _ _ hh h => h.of_heap hh) own started (by kernel_rfl) Tryd.func6
    (ChangeSpec.witness_shaped (enc := enc) (C := Tryd.checked) (os := os) (X := fun w _ => laidMetH Tryd.prog laid5 w) false (World.doorLaid Tryd.prog 400 os) #[.agg #[.string ⟨#[]⟩, .int .i64 0, .slice none 0 0, .string ⟨#[]⟩, .int .i64 0, .int .i64 0, .int .i64 0, .int .i64 0, .int .i64 0, .int .i64 0, .int .i64 0, .int .i64 0, .int .i64 0, .int .i64 0, .int .i64 0, .int .i64 0, .slice none 0 0], .int .u8 0, .slice none 0 0] 8 rfl (World.shaped_of_RefB (by kernel_rfl) (by kernel_rfl)) (by kernel_rfl) (by kernel_rfl) (by kernel_rfl) (door_met os _)) ?_
  intro W base args ds gs before hval0 hW _ _ hL _
  have hval : ∀ (j : Nat) t v, Tryd.f6.params[j]? = some t → args[j]? = some v → Value.okWide Tryd.prog W .any base t v := hval0
  have hW' := hW
  obtain ⟨p, q, hA0, hV, rfl, hfz, hnd⟩ := hW
  have hA : DataW.TrodAll enc Tryd.prog W 0 (fun _ => true) true Tryd.f6.params.toList args.toList ds p := hA0
  rw [Tryd.params6] at hA hval
  obtain ⟨v0, v1, v2, d0, d1, d2, p0, p1, p2, rfl, rfl, rfl, h0, h1, h2⟩ := trodAll_three hA
  obtain ⟨rfl, rfl⟩ := trodVars_none hV
  obtain ⟨hg, hg2⟩ := globs_of_laid hL
  have hG := Lib.hid hg
  have hG2 := Lib.hid hg2
  clear hA0 hval0 hg hg2
  have hlt : ∀ x ∈ (p0 ++ p1) ++ p2, x.block < W.heap.size := fun x hx => hW'.lt x (by simpa using hx)
  obtain ⟨pn, n, ramp, a0, a1, a2, a3, a4, a5, a6, a7, a8, a9, a10, a11, vS, vI, st, l, rfl, hst, hl, hcap⟩ := open_case (hval 0 _ v0 rfl rfl) h0
  obtain ⟨wh, rfl⟩ := okWide_int Tryd.underlying5 (hval 1 5 v1 rfl rfl)
  obtain ⟨hw0, hw1⟩ : 0 ≤ wh ∧ wh ≤ 255 := by
    obtain ⟨fu, hfu⟩ := h1
    exact one_u8 hfu
  obtain ⟨o2, len2, cap2, rfl⟩ := okWide_slice Tryd.underlying43 (hval 2 _ v2 rfl rfl)
  obtain ⟨F, hF, hFl, hFf⟩ : ∃ F, RepF W (.slice o2 len2 cap2) F ∧ F.length ≤ maxLen ∧ ∀ f ∈ F, f.length ≤ maxLen := by
    obtain ⟨fu, hfu⟩ := h2
    exact repf_of (v := .slice o2 len2 cap2) hfu
  refine (alone_any pn n ramp a0 a1 a2 a3 a4 a5 a6 a7 a8 a9 a10 a11 wh vS vI _ st l F W hG hG2 (Lib.hid hst) (Lib.hid hl) (Lib.hid hcap) ⟨hw0, hw1⟩ (Lib.hid hF) hFl (Lib.hid hFf)).mono fun e W' ⟨he, hb⟩ => ?_
  subst he
  exact ⟨_, rfl, post_of_below (pa := (p0 ++ p1) ++ p2) (pv := []) hW' (fun _ _ _ => trodAll_mk1 (shut_bool Tryd.underlying4 _)) (fun sp hsp => (show DataW.TrodAll enc Tryd.prog _ _ _ _ [_, _, _] [_, _, _] [_, _, _] ((p0 ++ p1) ++ p2) from List.append_assoc p0 p1 p2 ▸ trodAll_mk3 (WideElems.Trod_stays laidOut (by kernel_rfl) (by decide +kernel) h0 (fun x hx => hb.same (hlt x (by simp only [List.mem_append, List.append_nil]; exact Or.inl (Or.inl hx)))) (fun x hx => hsp x (by simp only [List.mem_append, List.append_nil]; exact Or.inl (Or.inl hx)))) (WideElems.Trod_stays laidOut (by kernel_rfl) (by decide +kernel) h1 (fun x hx => hb.same (hlt x (by simp only [List.mem_append, List.append_nil]; exact Or.inl (Or.inr hx)))) (fun x hx => hsp x (by simp only [List.mem_append, List.append_nil]; exact Or.inl (Or.inr hx)))) (WideElems.Trod_stays laidOut (by kernel_rfl) (by decide +kernel) h2 (fun x hx => hb.same (hlt x (by simp only [List.mem_append, List.append_nil]; exact Or.inr hx))) (fun x hx => hsp x (by simp only [List.mem_append, List.append_nil]; exact Or.inr hx))))) (fun _ _ => rfl) rfl hb (ok_one (by kernel_rfl) rfl (okWide_bool_mk Tryd.underlying4 _))⟩

set_option maxRecDepth 100000 in
theorem kilnAlone_holds : Rows.KilnAloneSaid :=
  OpenClaim.holds_of_wide 6 Tryd.f6 rfl rfl rfl rfl rfl rfl rfl ⟨rfl, rfl, rfl, rfl, rfl⟩ rfl rfl rfl rfl rfl (by kernel_rfl) Tryd.func6 (by kernel_rfl)
    (of_decide_eq_true (by kernel_rfl)) (by unfold Func.isWrapper; first | (rw [if_pos (by decide +kernel)]; kernel_rfl) | (rw [if_neg (by decide +kernel)]; exact ⟨rfl, rfl⟩))
    (fun os started H enc _ => lifted os started H enc)
end Go.Proofs.YtkedpokbbogkmaaDoor

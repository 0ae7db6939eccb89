/-
  The library's Clone of the boards of a kiln and of the stages of a schedule.
-/
import Derived.Test.YtkedpokbbogkmaaDoorFlat
import Derived.Test.YtkedpokbbogkmaaDoorTable
namespace Go.Proofs.YtkedpokbbogkmaaDoor
open Go.RowKit

abbrev Q4 := Int × Int × Int × Int
def q4 (x : Q4) : List Value := [.int .i64 x.1, .int .i64 x.2.1, .int .i64 x.2.2.1, .int .i64 x.2.2.2]
theorem q4_len (x : Q4) : (q4 x).length = 4 := rfl
theorem q4_one (l : List Q4) : ∀ u ∈ flat q4 l, u.oneCell' = true := by
  intro u hu
  obtain ⟨x, _, hx⟩ := List.mem_flatMap.1 hu
  simp only [q4, List.mem_cons, List.not_mem_nil, or_false] at hx
  rcases hx with rfl | rfl | rfl | rfl <;> rfl
theorem item_info : (Tryd.prog.info? 53).map (fun i => (i.zero, i.size, i.bytes)) = some (some (.agg #[.int .i64 0, .int .i64 0, .int .i64 0, .int .i64 0]), 4, 32) := by kernel_rfl
theorem stage_info : (Tryd.prog.info? 65).map (fun i => (i.zero, i.size, i.bytes)) = some (some (.agg #[.int .i64 0, .int .i64 0, .int .i64 0, .int .i64 0]), 4, 32) := by kernel_rfl

set_option maxHeartbeats 2000000 in
set_option maxRecDepth 100000 in
theorem clone_items (ad : Addr) (c : Nat) (l : List Q4) (w : World) (h1 : 1 ≤ l.length) (hb : l.length ≤ 100000) (hc : Hid (∀ j u, (flat q4 l)[j]? = some u → w.cell? (ad.add j) = some u)) :
    Calls Tryd.prog 39 #[.slice (some ad) l.length c] w fun e w' => ∃ g c' pad, e = .returned (.slice (some ⟨g, 0, none⟩) l.length c') ∧ Own w [(g, 53, (flat q4 l ++ pad).toArray)] w' := by
  obtain ⟨i0, hi0, hz0, hz1, hz2⟩ := info_parts item_info
  have hlen := flat_len q4 4 q4_len l
  have HL := Lib.hid hlen
  have H1 := Lib.hid (q4_one l)
  clear hlen
  have q1 : ∀ w : World, (binOp .eql 48 (.slice (some ad) l.length c) (.slice none 0 0)).run Tryd.prog w = .ok (.bool false) w := fun w => by rfl
  go_enter Tryd.func39, Tryd.ntmps39
  have HO := Lib.hid (World.ownsRow_made (base := w.heap.size) (size := 4) (e := 53) w #[] 0 (Nat.le_refl _) (by decide) rfl)
  have HC : Hid (∀ j u, (flat q4 l)[j]? = some u → (w.alloc (.cells #[] 53)).cell? (ad.add j) = some u) := Lib.hid (fun j u h => ((below_new w _).cell (World.block_lt_of_cell? w _ (hc.out j u h))).trans (hc.out j u h))
  have HBW := Lib.hid (below_new w (.cells #[] 53))
  go_wp2_with (at_builtin; go_loud (refine wpList_append_own_at _ rfl _ _ 48 rfl w.heap.size 53 i0 (.agg #[.int .i64 0, .int .i64 0, .int .i64 0, .int .i64 0]) 4 32 Tryd.underlying48 hi0 hz0 hz1 hz2 rfl (by decide) _ 0 [] rfl HO.out ad l.length c (flat q4 l) rfl HL.out HC.out H1.out (by simp only [maxLen]; omega) (by omega) (by simp) ?_); intro v' w1 hown' hgrow _ _; obtain ⟨g, c', pad, rfl, hc1, hc2, hg, hblk⟩ := row_blk hown' (by omega); have HF := Lib.hid (Own.one hblk hg (HBW.out.grown hgrow (by simp) (fun k hk => by cases hk; exact Nat.le_refl _))); clear hown' hgrow hblk; (try simp only [Nat.zero_add]); (try simp only [List.nil_append] at HF))
  go_ret
  exact ⟨g, c', pad, rfl, HF.out⟩
set_option maxHeartbeats 2000000 in
set_option maxRecDepth 100000 in
theorem clone_stages (ad : Addr) (c : Nat) (l : List Q4) (w : World) (h1 : 1 ≤ l.length) (hb : l.length ≤ 100000) (hc : Hid (∀ j u, (flat q4 l)[j]? = some u → w.cell? (ad.add j) = some u)) :
    Calls Tryd.prog 42 #[.slice (some ad) l.length c] w fun e w' => ∃ g c' pad, e = .returned (.slice (some ⟨g, 0, none⟩) l.length c') ∧ Own w [(g, 65, (flat q4 l ++ pad).toArray)] w' := by
  obtain ⟨i0, hi0, hz0, hz1, hz2⟩ := info_parts stage_info
  have hlen := flat_len q4 4 q4_len l
  have HL := Lib.hid hlen
  have H1 := Lib.hid (q4_one l)
  clear hlen
  have q1 : ∀ w : World, (binOp .eql 22 (.slice (some ad) l.length c) (.slice none 0 0)).run Tryd.prog w = .ok (.bool false) w := fun w => by rfl
  go_enter Tryd.func42, Tryd.ntmps42
  have HO := Lib.hid (World.ownsRow_made (base := w.heap.size) (size := 4) (e := 65) w #[] 0 (Nat.le_refl _) (by decide) rfl)
  have HC : Hid (∀ j u, (flat q4 l)[j]? = some u → (w.alloc (.cells #[] 65)).cell? (ad.add j) = some u) := Lib.hid (fun j u h => ((below_new w _).cell (World.block_lt_of_cell? w _ (hc.out j u h))).trans (hc.out j u h))
  have HBW := Lib.hid (below_new w (.cells #[] 65))
  go_wp2_with (at_builtin; go_loud (refine wpList_append_own_at _ rfl _ _ 22 rfl w.heap.size 65 i0 (.agg #[.int .i64 0, .int .i64 0, .int .i64 0, .int .i64 0]) 4 32 Tryd.underlying22 hi0 hz0 hz1 hz2 rfl (by decide) _ 0 [] rfl HO.out ad l.length c (flat q4 l) rfl HL.out HC.out H1.out (by simp only [maxLen]; omega) (by omega) (by simp) ?_); intro v' w1 hown' hgrow _ _; obtain ⟨g, c', pad, rfl, hc1, hc2, hg, hblk⟩ := row_blk hown' (by omega); have HF := Lib.hid (Own.one hblk hg (HBW.out.grown hgrow (by simp) (fun k hk => by cases hk; exact Nat.le_refl _))); clear hown' hgrow hblk; (try simp only [Nat.zero_add]); (try simp only [List.nil_append] at HF))
  go_ret
  exact ⟨g, c', pad, rfl, HF.out⟩
end Go.Proofs.YtkedpokbbogkmaaDoor

/- The statement JournalBytes: Valid, Encode and Sum are those of 25.1, and P25.2. No condition. -/
import Derived.Lib.Builder
import Derived.Shelf.RegionOpenPlain
import Derived.Laws.AppendOwn
import Derived.Deep.SlicePairs
import Derived.Test.YteblpjnkinghoaaRows
import Derived.WalkKit
import Derived.ProofKit
import Derived.OpenShut
import Derived.ShutString
import Derived.ChangeOld
import Derived.Below
import Derived.SizedLaws
import Derived.Test.YteblpjnkinghoaaBytM1
import Derived.Test.YteblpjnkinghoaaBytM3
set_option linter.unusedVariables false
set_option linter.unusedSimpArgs false
/- The reference's written and the program's body: a note's bytes up to its sum. -/
set_option linter.unusedVariables false
set_option linter.unusedSimpArgs false
namespace Go.Proofs.Yteblpjnkinghoaa.J
open Go.RowKit Go.Proofs.YteblpjnkinghoaaW.PrintWords Go.Proofs.YteblpjnkinghoaaW.PrintLast Go.Proofs.YteblpjnkinghoaaW.PrintMore
def wrL (a b : Int) (c : ByteArray) (d : Bool) (e : ByteArray) : ByteArray := strOfNums ((([74, a, b / 256, b % 256, (c.size : Int)] ++ bytesOf c) ++ [if d = true then 1 else 0, (e.size : Int) / 256, (e.size : Int) % 256]) ++ bytesOf e)
theorem strOfNums_append (x : List Int) (e : ByteArray) : strOfNums (x ++ bytesOf e) = strOfNums x ++ e := by
  apply ByteArray.ext
  apply Array.toList_inj.1
  rw [strOfNums_data, List.map_append, ByteArray.data_append, Array.toList_append, strOfNums_data]
  congr 1
  unfold bytesOf
  rw [List.map_map]
  conv => rhs; rw [← List.map_id e.data.toList]
  apply List.map_congr_left
  intro b _
  simp
set_option maxHeartbeats 8000000 in
set_option maxRecDepth 100000 in
theorem rwritten_calls (a b : Int) (c : ByteArray) (d : Bool) (e : ByteArray) (w : World) (ha : 1 ≤ a ∧ a ≤ 7) (hb0 : 0 ≤ b ∧ b ≤ 1000) (hc : (c.size : Int) ≤ 40) (he : (e.size : Int) ≤ 4000) :
    Calls Try.prog 74 #[.agg #[.int .i64 a, .int .i64 b, .string c, .bool d, .string e]] w fun e' w' => e' = .returned (.string (wrL a b c d e)) ∧ Below w.heap.size w w' := by
  have hu39 := Try.underlying39
  cases d
  · obtain ⟨y1, hy1⟩ : ∃ y : List Int, y = [74, a, b / 256, b % 256, (c.size : Int)] := ⟨_, rfl⟩
    obtain ⟨y2, hy2⟩ : ∃ y : List Int, y = y1 ++ bytesOf c := ⟨_, rfl⟩
    obtain ⟨y3, hy3⟩ : ∃ y : List Int, y = [0, (e.size : Int) / 256, (e.size : Int) % 256] := ⟨_, rfl⟩
    obtain ⟨y4, hy4⟩ : ∃ y : List Int, y = y2 ++ y3 := ⟨_, rfl⟩
    obtain ⟨y5, hy5⟩ : ∃ y : List Int, y = y4 ++ bytesOf e := ⟨_, rfl⟩
    have hbc := bytesOf_length c
    have hbe := bytesOf_length e
    have l1 : y1.length = 5 := by rw [hy1]; rfl
    have l2 : y2.length = 5 + c.size := by rw [hy2, List.length_append, l1, hbc]
    have l3 : y3.length = 3 := by rw [hy3]; rfl
    have l4 : y4.length = 8 + c.size := by rw [hy4, List.length_append, l2, l3]; omega
    have hres : strOfNums y5 = wrL a b c false e := by
      rw [hy5, hy4, hy3, hy2, hy1]; rfl
    have hres2 : strOfNums y4 ++ e = wrL a b c false e := by
      rw [← hres, hy5, strOfNums_append]
    have L2 := Aside0.mk (show y1.length + c.size < 140737488355328 by omega)
    have L4 := Aside0.mk (show y2.length + y3.length < 140737488355328 by omega)
    have L5 := Aside0.mk (show y4.length + e.size < 140737488355328 by omega)
    have hno : (9223372036854775807 < (strOfNums y4).size + e.size) = False := eq_false (by rw [strOfNums_size]; omega)
    have N1 := Aside0.mk hy1
    have N2 := Aside0.mk hy2
    have N3 := Aside0.mk hy3
    have N4 := Aside0.mk hy4
    have N5 := Aside0.mk hy5
    have HR := Aside0.mk hres
    have HR2 := Aside0.mk hres2
    clear hy1 hy2 hy3 hy4 hy5 l1 l2 l3 l4 hbc hbe hres hres2
    go_enter Try.func74, Try.ntmps74
    go_wp2_with (first | ((with_reducible refine gate_dst (N := 1) rfl ?_); refine box_event ?hg (N := 1) ?hd (cs := #[.int .i64 a, .int .i64 b, .string c, .bool false, .string e]) (t := 39) ?hr ?_; (case hd => rfl); (case hg => rfl); (case hr => first | (go_simp; done) | (go_simp; rfl)); intro g hg w6 hbox hb; have GE := Aside0.mk (Nat.le_of_eq hg.symm); have HB := Aside0.mk hb; have BK := Aside0.mk hbox; clear hg hbox hb; have hc0_0 : w6.cell? ⟨g, 0, none⟩ = some (.int .i64 a) := (blk_cell BK.out 0).trans rfl; have hc0_1 : w6.cell? ⟨g, 1, none⟩ = some (.int .i64 b) := (blk_cell BK.out 1).trans rfl; have hc0_2 : w6.cell? ⟨g, 2, none⟩ = some (.string c) := (blk_cell BK.out 2).trans rfl; have hc0_3 : w6.cell? ⟨g, 3, none⟩ = some (.bool false) := (blk_cell BK.out 3).trans rfl; have hc0_4 : w6.cell? ⟨g, 4, none⟩ = some (.string e) := (blk_cell BK.out 4).trans rfl; have hf0_0 := blk_frozen BK.out 0; have hf0_1 := blk_frozen BK.out 1; have hf0_2 := blk_frozen BK.out 2; have hf0_3 := blk_frozen BK.out 3; have hf0_4 := blk_frozen BK.out 4) | ((with_reducible refine gate_dst (N := 22) rfl ?_); (refine Kd.R_lit (Kd.int .u8) _ 5 ?hg (N := 22) ?hd (xs := ([74, a, b / 256, b % 256, (c.size : Int)] : List Int)) (inner := [.int .u8 (74), .int .u8 (a), .int .u8 (b / 256), .int .u8 (b % 256), .int .u8 ((c.size : Int))]) (ok := fun _ => True) (okp := fun _ => True) ?hr ?hp (fun _ hk => hk) trivial (Below.refl _ _) (Nat.le_refl _) (by simp) ?_; (case hd => rfl); (case hg => rfl); (case hr => first | (go_simp; done) | (go_simp; rfl)); (case hp => exact (Reps.one (show Kd.M (Kd.int .u8) _ _ _ (74) [.int .u8 (74)] from rfl) (Reps.one (show Kd.M (Kd.int .u8) _ _ _ (a) [.int .u8 (a)] from rfl) (Reps.one (show Kd.M (Kd.int .u8) _ _ _ (b / 256) [.int .u8 (b / 256)] from rfl) (Reps.one (show Kd.M (Kd.int .u8) _ _ _ (b % 256) [.int .u8 (b % 256)] from rfl) (Reps.one (show Kd.M (Kd.int .u8) _ _ _ ((c.size : Int)) [.int .u8 ((c.size : Int))] from rfl) (Reps.none _ _))))))); intro v1 w8 ho hb hg_ hnew_; clear hg_ hnew_; (first | rw [← N1.out] at ho | (simp only [Int.reduceToNat] at ho; rw [← N1.out] at ho)); have n0_ := Aside0.mk (Kd.R_lower ho (below_size (by repeat (first | (with_reducible first | exact HB.out | apply below_alloc | apply pw_below_drewN | apply below_drew1 | refine below_set ?_ GE.out) | exact HB.out)))); have n1_ := Aside0.mk (blk_below (g := g) (o := .cells #[.int .i64 a, .int .i64 b, .string c, .bool false, .string e] 39 (0, 0)) (by (with_reducible repeat (first | refine blk_drewN ?_ _ | refine blk_drew ?_ | refine blk_alloc ?_ _)); exact BK.out) hb); have n2_ := Aside0.mk (below_step (by repeat (first | (with_reducible first | exact HB.out | apply below_alloc | apply pw_below_drewN | apply below_drew1 | refine below_set ?_ GE.out) | exact HB.out)) hb); clear BK; clear HB; have HO1 := n0_; have BK := n1_; have HB := n2_; clear n0_ n1_ n2_; clear hb ho; have hc1_0 : w8.cell? ⟨g, 0, none⟩ = some (.int .i64 a) := (blk_cell BK.out 0).trans rfl; have hc1_1 : w8.cell? ⟨g, 1, none⟩ = some (.int .i64 b) := (blk_cell BK.out 1).trans rfl; have hc1_2 : w8.cell? ⟨g, 2, none⟩ = some (.string c) := (blk_cell BK.out 2).trans rfl; have hc1_3 : w8.cell? ⟨g, 3, none⟩ = some (.bool false) := (blk_cell BK.out 3).trans rfl; have hc1_4 : w8.cell? ⟨g, 4, none⟩ = some (.string e) := (blk_cell BK.out 4).trans rfl; have hf1_0 := blk_frozen BK.out 0; have hf1_1 := blk_frozen BK.out 1; have hf1_2 := blk_frozen BK.out 2; have hf1_3 := blk_frozen BK.out 3; have hf1_4 := blk_frozen BK.out 4)) | (at_builtin; refine print_append_str (w0 := w) w.heap.size rfl (.tmp 23) _ 53 9 5 rfl Try.underlying53 Try.underlying9 info5 v1 y1 c rfl rfl ?aO ?aB ?aS ?aL ?_; (case aB => exact (by repeat (first | (with_reducible first | exact HB.out | apply below_alloc | apply pw_below_drewN | apply below_drew1 | refine below_set ?_ GE.out) | exact HB.out))); (case aO => exact (Kd.own_of_R (by (with_reducible repeat (first | apply Kd.R_alloc | apply Kd.R_drewN | apply Kd.R_drew)); exact HO1.out))); (case aS => exact (below_size (by repeat (first | (with_reducible first | exact HB.out | apply below_alloc | apply pw_below_drewN | apply below_drew1 | refine below_set ?_ GE.out) | exact HB.out)))); (case aL => have := L2.out; omega); intro v2 w10 ho0 hb hg; have ho := Kd.R_of_own (h1 := fun _ => rfl) (ok := fun _ => True) ho0 (fun _ _ => trivial); clear ho0; rw [← N2.out] at ho; have n0_ := Aside0.mk (blk_grown (g := g) (o := .cells #[.int .i64 a, .int .i64 b, .string c, .bool false, .string e] 39 (0, 0)) (by (with_reducible repeat (first | refine blk_drewN ?_ _ | refine blk_drew ?_ | refine blk_alloc ?_ _)); exact BK.out) hg (Kd.R_ne HO1.out BK.out (by decide))); have n1_ := Aside0.mk (hb); have n2_ := Aside0.mk (ho); clear BK; clear HB; clear HO1; have BK := n0_; have HB := n1_; have HO2 := n2_; clear n0_ n1_ n2_; clear ho hb hg; have hc2_0 : w10.cell? ⟨g, 0, none⟩ = some (.int .i64 a) := (blk_cell BK.out 0).trans rfl; have hc2_1 : w10.cell? ⟨g, 1, none⟩ = some (.int .i64 b) := (blk_cell BK.out 1).trans rfl; have hc2_2 : w10.cell? ⟨g, 2, none⟩ = some (.string c) := (blk_cell BK.out 2).trans rfl; have hc2_3 : w10.cell? ⟨g, 3, none⟩ = some (.bool false) := (blk_cell BK.out 3).trans rfl; have hc2_4 : w10.cell? ⟨g, 4, none⟩ = some (.string e) := (blk_cell BK.out 4).trans rfl; have hf2_0 := blk_frozen BK.out 0; have hf2_1 := blk_frozen BK.out 1; have hf2_2 := blk_frozen BK.out 2; have hf2_3 := blk_frozen BK.out 3; have hf2_4 := blk_frozen BK.out 4) | ((with_reducible refine gate_dst (N := 39) rfl ?_); (refine Kd.R_lit (Kd.int .u8) _ 5 ?hg (N := 39) ?hd (xs := ([0, (e.size : Int) / 256, (e.size : Int) % 256] : List Int)) (inner := [.int .u8 (0), .int .u8 ((e.size : Int) / 256), .int .u8 ((e.size : Int) % 256)]) (ok := fun _ => True) (okp := fun _ => True) ?hr ?hp (fun _ hk => hk) trivial (Below.refl _ _) (Nat.le_refl _) (by simp) ?_; (case hd => rfl); (case hg => rfl); (case hr => first | (go_simp; done) | (go_simp; rfl)); (case hp => exact (Reps.one (show Kd.M (Kd.int .u8) _ _ _ (0) [.int .u8 (0)] from rfl) (Reps.one (show Kd.M (Kd.int .u8) _ _ _ ((e.size : Int) / 256) [.int .u8 ((e.size : Int) / 256)] from rfl) (Reps.one (show Kd.M (Kd.int .u8) _ _ _ ((e.size : Int) % 256) [.int .u8 ((e.size : Int) % 256)] from rfl) (Reps.none _ _))))); intro v3 w12 ho hb hg_ hnew_; clear hg_ hnew_; (first | rw [← N3.out] at ho | (simp only [Int.reduceToNat] at ho; rw [← N3.out] at ho)); have n0_ := Aside0.mk (Kd.R_elder' (by (with_reducible repeat (first | apply Kd.R_alloc | apply Kd.R_drewN | apply Kd.R_drew)); exact HO2.out) (Kd.R_base ho) hb); have n1_ := Aside0.mk (Kd.R_lower (Kd.R_new' ho (Kd.R_lt (by (with_reducible repeat (first | apply Kd.R_alloc | apply Kd.R_drewN | apply Kd.R_drew)); exact HO2.out))) (below_size (by repeat (first | (with_reducible first | exact HB.out | apply below_alloc | apply pw_below_drewN | apply below_drew1 | refine below_set ?_ GE.out) | exact HB.out)))); have n2_ := Aside0.mk (blk_below (g := g) (o := .cells #[.int .i64 a, .int .i64 b, .string c, .bool false, .string e] 39 (0, 0)) (by (with_reducible repeat (first | refine blk_drewN ?_ _ | refine blk_drew ?_ | refine blk_alloc ?_ _)); exact BK.out) hb); have n3_ := Aside0.mk (below_step (by repeat (first | (with_reducible first | exact HB.out | apply below_alloc | apply pw_below_drewN | apply below_drew1 | refine below_set ?_ GE.out) | exact HB.out)) hb); clear HO2; clear BK; clear HB; have HO2 := n0_; have HO3 := n1_; have BK := n2_; have HB := n3_; clear n0_ n1_ n2_ n3_; clear hb ho; obtain ⟨Ao, co, eo⟩ := Kd.R_slice HO3.out; subst eo; have hc3_0 : w12.cell? ⟨g, 0, none⟩ = some (.int .i64 a) := (blk_cell BK.out 0).trans rfl; have hc3_1 : w12.cell? ⟨g, 1, none⟩ = some (.int .i64 b) := (blk_cell BK.out 1).trans rfl; have hc3_2 : w12.cell? ⟨g, 2, none⟩ = some (.string c) := (blk_cell BK.out 2).trans rfl; have hc3_3 : w12.cell? ⟨g, 3, none⟩ = some (.bool false) := (blk_cell BK.out 3).trans rfl; have hc3_4 : w12.cell? ⟨g, 4, none⟩ = some (.string e) := (blk_cell BK.out 4).trans rfl; have hf3_0 := blk_frozen BK.out 0; have hf3_1 := blk_frozen BK.out 1; have hf3_2 := blk_frozen BK.out 2; have hf3_3 := blk_frozen BK.out 3; have hf3_4 := blk_frozen BK.out 4)) | ((with_reducible refine gate_builtin (b := .append) (xs := #[.tmp 27, .tmp 39]) rfl ?_); at_builtin; refine Kd.R_append_rows (Kd.int .u8) (w0 := w) w.heap.size rfl (.tmp 27) (.tmp 39) 53 5 (.int .u8 0) 1 rfl Try.underlying53 info5 rfl (by decide) (by omega) v2 y2 y3 _ _ _ (fun k_ => some k_ ≠ (.slice Ao y3.length co : Value).ownBlock) (fun _ => False) rfl rfl ?aO ?aR (fun _ _ h => h) (fun _ h => h.elim) ?aF ?aB ?aS ?aL ?_; (case aR => repeat (first | exact (Kd.R_reads' HO3.out).2.2 | (with_reducible refine Kd.C_alloc ?_ _) | (with_reducible refine Kd.C_drewN ?_ _) | (with_reducible refine Kd.C_drew ?_))); (case aB => exact (by repeat (first | (with_reducible first | exact HB.out | apply below_alloc | apply pw_below_drewN | apply below_drew1 | refine below_set ?_ GE.out) | exact HB.out))); (case aF => exact (fun k_ hk => Kd.fresh' (Kd.R_lt (by (with_reducible repeat (first | apply Kd.R_alloc | apply Kd.R_drewN | apply Kd.R_drew)); exact HO3.out)) k_ hk)); (case aO => exact (by (with_reducible repeat (first | apply Kd.R_alloc | apply Kd.R_drewN | apply Kd.R_drew)); exact Kd.R_mono HO2.out (fun _ hk => hk.2))); (case aS => exact (below_size (by repeat (first | (with_reducible first | exact HB.out | apply below_alloc | apply pw_below_drewN | apply below_drew1 | refine below_set ?_ GE.out) | exact HB.out)))); (case aL => have := L4.out; omega); intro v4 w14 ho hb hg hat; rw [← N4.out] at ho; have n0_ := Aside0.mk (blk_grown (g := g) (o := .cells #[.int .i64 a, .int .i64 b, .string c, .bool false, .string e] 39 (0, 0)) (by (with_reducible repeat (first | refine blk_drewN ?_ _ | refine blk_drew ?_ | refine blk_alloc ?_ _)); exact BK.out) hg (Kd.R_ne HO2.out BK.out (by decide))); have n1_ := Aside0.mk (Kd.R_after (ok := (fun _ => True)) (by (with_reducible repeat (first | apply Kd.R_alloc | apply Kd.R_drewN | apply Kd.R_drew)); exact HO3.out) hg hat); have n2_ := Aside0.mk (hb); have n3_ := Aside0.mk (Kd.R_mono (ok' := fun _ => True) ho (fun _ _ => trivial)); clear BK; clear HO3; clear HB; clear HO2; have BK := n0_; have HB := n2_; have HO4 := n3_; clear n0_ n1_ n2_ n3_; clear ho hb hg hat; have hcv := own_string (P := Try.prog) Try.underlying53 Try.underlying5 Try.underlying9 (Kd.own_of_R HO4.out); have hc4_0 : w14.cell? ⟨g, 0, none⟩ = some (.int .i64 a) := (blk_cell BK.out 0).trans rfl; have hc4_1 : w14.cell? ⟨g, 1, none⟩ = some (.int .i64 b) := (blk_cell BK.out 1).trans rfl; have hc4_2 : w14.cell? ⟨g, 2, none⟩ = some (.string c) := (blk_cell BK.out 2).trans rfl; have hc4_3 : w14.cell? ⟨g, 3, none⟩ = some (.bool false) := (blk_cell BK.out 3).trans rfl; have hc4_4 : w14.cell? ⟨g, 4, none⟩ = some (.string e) := (blk_cell BK.out 4).trans rfl; have hf4_0 := blk_frozen BK.out 0; have hf4_1 := blk_frozen BK.out 1; have hf4_2 := blk_frozen BK.out 2; have hf4_3 := blk_frozen BK.out 3; have hf4_4 := blk_frozen BK.out 4))
    go_ret
    exact ⟨congrArg (fun x => Ending.returned (Value.string x)) (HR2.out), (by repeat (first | (with_reducible first | exact HB.out | apply below_alloc | apply pw_below_drewN | apply below_drew1 | refine below_set ?_ GE.out) | exact HB.out))⟩
  · obtain ⟨y1, hy1⟩ : ∃ y : List Int, y = [74, a, b / 256, b % 256, (c.size : Int)] := ⟨_, rfl⟩
    obtain ⟨y2, hy2⟩ : ∃ y : List Int, y = y1 ++ bytesOf c := ⟨_, rfl⟩
    obtain ⟨y3, hy3⟩ : ∃ y : List Int, y = [1, (e.size : Int) / 256, (e.size : Int) % 256] := ⟨_, rfl⟩
    obtain ⟨y4, hy4⟩ : ∃ y : List Int, y = y2 ++ y3 := ⟨_, rfl⟩
    obtain ⟨y5, hy5⟩ : ∃ y : List Int, y = y4 ++ bytesOf e := ⟨_, rfl⟩
    have hbc := bytesOf_length c
    have hbe := bytesOf_length e
    have l1 : y1.length = 5 := by rw [hy1]; rfl
    have l2 : y2.length = 5 + c.size := by rw [hy2, List.length_append, l1, hbc]
    have l3 : y3.length = 3 := by rw [hy3]; rfl
    have l4 : y4.length = 8 + c.size := by rw [hy4, List.length_append, l2, l3]; omega
    have hres : strOfNums y5 = wrL a b c true e := by
      rw [hy5, hy4, hy3, hy2, hy1]; rfl
    have hres2 : strOfNums y4 ++ e = wrL a b c true e := by
      rw [← hres, hy5, strOfNums_append]
    have L2 := Aside0.mk (show y1.length + c.size < 140737488355328 by omega)
    have L4 := Aside0.mk (show y2.length + y3.length < 140737488355328 by omega)
    have L5 := Aside0.mk (show y4.length + e.size < 140737488355328 by omega)
    have hno : (9223372036854775807 < (strOfNums y4).size + e.size) = False := eq_false (by rw [strOfNums_size]; omega)
    have N1 := Aside0.mk hy1
    have N2 := Aside0.mk hy2
    have N3 := Aside0.mk hy3
    have N4 := Aside0.mk hy4
    have N5 := Aside0.mk hy5
    have HR := Aside0.mk hres
    have HR2 := Aside0.mk hres2
    clear hy1 hy2 hy3 hy4 hy5 l1 l2 l3 l4 hbc hbe hres hres2
    go_enter Try.func74, Try.ntmps74
    go_wp2_with (first | ((with_reducible refine gate_dst (N := 1) rfl ?_); refine box_event ?hg (N := 1) ?hd (cs := #[.int .i64 a, .int .i64 b, .string c, .bool true, .string e]) (t := 39) ?hr ?_; (case hd => rfl); (case hg => rfl); (case hr => first | (go_simp; done) | (go_simp; rfl)); intro g hg w6 hbox hb; have GE := Aside0.mk (Nat.le_of_eq hg.symm); have HB := Aside0.mk hb; have BK := Aside0.mk hbox; clear hg hbox hb; have hc0_0 : w6.cell? ⟨g, 0, none⟩ = some (.int .i64 a) := (blk_cell BK.out 0).trans rfl; have hc0_1 : w6.cell? ⟨g, 1, none⟩ = some (.int .i64 b) := (blk_cell BK.out 1).trans rfl; have hc0_2 : w6.cell? ⟨g, 2, none⟩ = some (.string c) := (blk_cell BK.out 2).trans rfl; have hc0_3 : w6.cell? ⟨g, 3, none⟩ = some (.bool true) := (blk_cell BK.out 3).trans rfl; have hc0_4 : w6.cell? ⟨g, 4, none⟩ = some (.string e) := (blk_cell BK.out 4).trans rfl; have hf0_0 := blk_frozen BK.out 0; have hf0_1 := blk_frozen BK.out 1; have hf0_2 := blk_frozen BK.out 2; have hf0_3 := blk_frozen BK.out 3; have hf0_4 := blk_frozen BK.out 4) | ((with_reducible refine gate_dst (N := 22) rfl ?_); (refine Kd.R_lit (Kd.int .u8) _ 5 ?hg (N := 22) ?hd (xs := ([74, a, b / 256, b % 256, (c.size : Int)] : List Int)) (inner := [.int .u8 (74), .int .u8 (a), .int .u8 (b / 256), .int .u8 (b % 256), .int .u8 ((c.size : Int))]) (ok := fun _ => True) (okp := fun _ => True) ?hr ?hp (fun _ hk => hk) trivial (Below.refl _ _) (Nat.le_refl _) (by simp) ?_; (case hd => rfl); (case hg => rfl); (case hr => first | (go_simp; done) | (go_simp; rfl)); (case hp => exact (Reps.one (show Kd.M (Kd.int .u8) _ _ _ (74) [.int .u8 (74)] from rfl) (Reps.one (show Kd.M (Kd.int .u8) _ _ _ (a) [.int .u8 (a)] from rfl) (Reps.one (show Kd.M (Kd.int .u8) _ _ _ (b / 256) [.int .u8 (b / 256)] from rfl) (Reps.one (show Kd.M (Kd.int .u8) _ _ _ (b % 256) [.int .u8 (b % 256)] from rfl) (Reps.one (show Kd.M (Kd.int .u8) _ _ _ ((c.size : Int)) [.int .u8 ((c.size : Int))] from rfl) (Reps.none _ _))))))); intro v1 w8 ho hb hg_ hnew_; clear hg_ hnew_; (first | rw [← N1.out] at ho | (simp only [Int.reduceToNat] at ho; rw [← N1.out] at ho)); have n0_ := Aside0.mk (Kd.R_lower ho (below_size (by repeat (first | (with_reducible first | exact HB.out | apply below_alloc | apply pw_below_drewN | apply below_drew1 | refine below_set ?_ GE.out) | exact HB.out)))); have n1_ := Aside0.mk (blk_below (g := g) (o := .cells #[.int .i64 a, .int .i64 b, .string c, .bool true, .string e] 39 (0, 0)) (by (with_reducible repeat (first | refine blk_drewN ?_ _ | refine blk_drew ?_ | refine blk_alloc ?_ _)); exact BK.out) hb); have n2_ := Aside0.mk (below_step (by repeat (first | (with_reducible first | exact HB.out | apply below_alloc | apply pw_below_drewN | apply below_drew1 | refine below_set ?_ GE.out) | exact HB.out)) hb); clear BK; clear HB; have HO1 := n0_; have BK := n1_; have HB := n2_; clear n0_ n1_ n2_; clear hb ho; have hc1_0 : w8.cell? ⟨g, 0, none⟩ = some (.int .i64 a) := (blk_cell BK.out 0).trans rfl; have hc1_1 : w8.cell? ⟨g, 1, none⟩ = some (.int .i64 b) := (blk_cell BK.out 1).trans rfl; have hc1_2 : w8.cell? ⟨g, 2, none⟩ = some (.string c) := (blk_cell BK.out 2).trans rfl; have hc1_3 : w8.cell? ⟨g, 3, none⟩ = some (.bool true) := (blk_cell BK.out 3).trans rfl; have hc1_4 : w8.cell? ⟨g, 4, none⟩ = some (.string e) := (blk_cell BK.out 4).trans rfl; have hf1_0 := blk_frozen BK.out 0; have hf1_1 := blk_frozen BK.out 1; have hf1_2 := blk_frozen BK.out 2; have hf1_3 := blk_frozen BK.out 3; have hf1_4 := blk_frozen BK.out 4)) | (at_builtin; refine print_append_str (w0 := w) w.heap.size rfl (.tmp 23) _ 53 9 5 rfl Try.underlying53 Try.underlying9 info5 v1 y1 c rfl rfl ?aO ?aB ?aS ?aL ?_; (case aB => exact (by repeat (first | (with_reducible first | exact HB.out | apply below_alloc | apply pw_below_drewN | apply below_drew1 | refine below_set ?_ GE.out) | exact HB.out))); (case aO => exact (Kd.own_of_R (by (with_reducible repeat (first | apply Kd.R_alloc | apply Kd.R_drewN | apply Kd.R_drew)); exact HO1.out))); (case aS => exact (below_size (by repeat (first | (with_reducible first | exact HB.out | apply below_alloc | apply pw_below_drewN | apply below_drew1 | refine below_set ?_ GE.out) | exact HB.out)))); (case aL => have := L2.out; omega); intro v2 w10 ho0 hb hg; have ho := Kd.R_of_own (h1 := fun _ => rfl) (ok := fun _ => True) ho0 (fun _ _ => trivial); clear ho0; rw [← N2.out] at ho; have n0_ := Aside0.mk (blk_grown (g := g) (o := .cells #[.int .i64 a, .int .i64 b, .string c, .bool true, .string e] 39 (0, 0)) (by (with_reducible repeat (first | refine blk_drewN ?_ _ | refine blk_drew ?_ | refine blk_alloc ?_ _)); exact BK.out) hg (Kd.R_ne HO1.out BK.out (by decide))); have n1_ := Aside0.mk (hb); have n2_ := Aside0.mk (ho); clear BK; clear HB; clear HO1; have BK := n0_; have HB := n1_; have HO2 := n2_; clear n0_ n1_ n2_; clear ho hb hg; have hc2_0 : w10.cell? ⟨g, 0, none⟩ = some (.int .i64 a) := (blk_cell BK.out 0).trans rfl; have hc2_1 : w10.cell? ⟨g, 1, none⟩ = some (.int .i64 b) := (blk_cell BK.out 1).trans rfl; have hc2_2 : w10.cell? ⟨g, 2, none⟩ = some (.string c) := (blk_cell BK.out 2).trans rfl; have hc2_3 : w10.cell? ⟨g, 3, none⟩ = some (.bool true) := (blk_cell BK.out 3).trans rfl; have hc2_4 : w10.cell? ⟨g, 4, none⟩ = some (.string e) := (blk_cell BK.out 4).trans rfl; have hf2_0 := blk_frozen BK.out 0; have hf2_1 := blk_frozen BK.out 1; have hf2_2 := blk_frozen BK.out 2; have hf2_3 := blk_frozen BK.out 3; have hf2_4 := blk_frozen BK.out 4) | ((with_reducible refine gate_dst (N := 39) rfl ?_); (refine Kd.R_lit (Kd.int .u8) _ 5 ?hg (N := 39) ?hd (xs := ([1, (e.size : Int) / 256, (e.size : Int) % 256] : List Int)) (inner := [.int .u8 (1), .int .u8 ((e.size : Int) / 256), .int .u8 ((e.size : Int) % 256)]) (ok := fun _ => True) (okp := fun _ => True) ?hr ?hp (fun _ hk => hk) trivial (Below.refl _ _) (Nat.le_refl _) (by simp) ?_; (case hd => rfl); (case hg => rfl); (case hr => first | (go_simp; done) | (go_simp; rfl)); (case hp => exact (Reps.one (show Kd.M (Kd.int .u8) _ _ _ (1) [.int .u8 (1)] from rfl) (Reps.one (show Kd.M (Kd.int .u8) _ _ _ ((e.size : Int) / 256) [.int .u8 ((e.size : Int) / 256)] from rfl) (Reps.one (show Kd.M (Kd.int .u8) _ _ _ ((e.size : Int) % 256) [.int .u8 ((e.size : Int) % 256)] from rfl) (Reps.none _ _))))); intro v3 w12 ho hb hg_ hnew_; clear hg_ hnew_; (first | rw [← N3.out] at ho | (simp only [Int.reduceToNat] at ho; rw [← N3.out] at ho)); have n0_ := Aside0.mk (Kd.R_elder' (by (with_reducible repeat (first | apply Kd.R_alloc | apply Kd.R_drewN | apply Kd.R_drew)); exact HO2.out) (Kd.R_base ho) hb); have n1_ := Aside0.mk (Kd.R_lower (Kd.R_new' ho (Kd.R_lt (by (with_reducible repeat (first | apply Kd.R_alloc | apply Kd.R_drewN | apply Kd.R_drew)); exact HO2.out))) (below_size (by repeat (first | (with_reducible first | exact HB.out | apply below_alloc | apply pw_below_drewN | apply below_drew1 | refine below_set ?_ GE.out) | exact HB.out)))); have n2_ := Aside0.mk (blk_below (g := g) (o := .cells #[.int .i64 a, .int .i64 b, .string c, .bool true, .string e] 39 (0, 0)) (by (with_reducible repeat (first | refine blk_drewN ?_ _ | refine blk_drew ?_ | refine blk_alloc ?_ _)); exact BK.out) hb); have n3_ := Aside0.mk (below_step (by repeat (first | (with_reducible first | exact HB.out | apply below_alloc | apply pw_below_drewN | apply below_drew1 | refine below_set ?_ GE.out) | exact HB.out)) hb); clear HO2; clear BK; clear HB; have HO2 := n0_; have HO3 := n1_; have BK := n2_; have HB := n3_; clear n0_ n1_ n2_ n3_; clear hb ho; obtain ⟨Ao, co, eo⟩ := Kd.R_slice HO3.out; subst eo; have hc3_0 : w12.cell? ⟨g, 0, none⟩ = some (.int .i64 a) := (blk_cell BK.out 0).trans rfl; have hc3_1 : w12.cell? ⟨g, 1, none⟩ = some (.int .i64 b) := (blk_cell BK.out 1).trans rfl; have hc3_2 : w12.cell? ⟨g, 2, none⟩ = some (.string c) := (blk_cell BK.out 2).trans rfl; have hc3_3 : w12.cell? ⟨g, 3, none⟩ = some (.bool true) := (blk_cell BK.out 3).trans rfl; have hc3_4 : w12.cell? ⟨g, 4, none⟩ = some (.string e) := (blk_cell BK.out 4).trans rfl; have hf3_0 := blk_frozen BK.out 0; have hf3_1 := blk_frozen BK.out 1; have hf3_2 := blk_frozen BK.out 2; have hf3_3 := blk_frozen BK.out 3; have hf3_4 := blk_frozen BK.out 4)) | ((with_reducible refine gate_builtin (b := .append) (xs := #[.tmp 27, .tmp 39]) rfl ?_); at_builtin; refine Kd.R_append_rows (Kd.int .u8) (w0 := w) w.heap.size rfl (.tmp 27) (.tmp 39) 53 5 (.int .u8 0) 1 rfl Try.underlying53 info5 rfl (by decide) (by omega) v2 y2 y3 _ _ _ (fun k_ => some k_ ≠ (.slice Ao y3.length co : Value).ownBlock) (fun _ => False) rfl rfl ?aO ?aR (fun _ _ h => h) (fun _ h => h.elim) ?aF ?aB ?aS ?aL ?_; (case aR => repeat (first | exact (Kd.R_reads' HO3.out).2.2 | (with_reducible refine Kd.C_alloc ?_ _) | (with_reducible refine Kd.C_drewN ?_ _) | (with_reducible refine Kd.C_drew ?_))); (case aB => exact (by repeat (first | (with_reducible first | exact HB.out | apply below_alloc | apply pw_below_drewN | apply below_drew1 | refine below_set ?_ GE.out) | exact HB.out))); (case aF => exact (fun k_ hk => Kd.fresh' (Kd.R_lt (by (with_reducible repeat (first | apply Kd.R_alloc | apply Kd.R_drewN | apply Kd.R_drew)); exact HO3.out)) k_ hk)); (case aO => exact (by (with_reducible repeat (first | apply Kd.R_alloc | apply Kd.R_drewN | apply Kd.R_drew)); exact Kd.R_mono HO2.out (fun _ hk => hk.2))); (case aS => exact (below_size (by repeat (first | (with_reducible first | exact HB.out | apply below_alloc | apply pw_below_drewN | apply below_drew1 | refine below_set ?_ GE.out) | exact HB.out)))); (case aL => have := L4.out; omega); intro v4 w14 ho hb hg hat; rw [← N4.out] at ho; have n0_ := Aside0.mk (blk_grown (g := g) (o := .cells #[.int .i64 a, .int .i64 b, .string c, .bool true, .string e] 39 (0, 0)) (by (with_reducible repeat (first | refine blk_drewN ?_ _ | refine blk_drew ?_ | refine blk_alloc ?_ _)); exact BK.out) hg (Kd.R_ne HO2.out BK.out (by decide))); have n1_ := Aside0.mk (Kd.R_after (ok := (fun _ => True)) (by (with_reducible repeat (first | apply Kd.R_alloc | apply Kd.R_drewN | apply Kd.R_drew)); exact HO3.out) hg hat); have n2_ := Aside0.mk (hb); have n3_ := Aside0.mk (Kd.R_mono (ok' := fun _ => True) ho (fun _ _ => trivial)); clear BK; clear HO3; clear HB; clear HO2; have BK := n0_; have HB := n2_; have HO4 := n3_; clear n0_ n1_ n2_ n3_; clear ho hb hg hat; have hcv := own_string (P := Try.prog) Try.underlying53 Try.underlying5 Try.underlying9 (Kd.own_of_R HO4.out); have hc4_0 : w14.cell? ⟨g, 0, none⟩ = some (.int .i64 a) := (blk_cell BK.out 0).trans rfl; have hc4_1 : w14.cell? ⟨g, 1, none⟩ = some (.int .i64 b) := (blk_cell BK.out 1).trans rfl; have hc4_2 : w14.cell? ⟨g, 2, none⟩ = some (.string c) := (blk_cell BK.out 2).trans rfl; have hc4_3 : w14.cell? ⟨g, 3, none⟩ = some (.bool true) := (blk_cell BK.out 3).trans rfl; have hc4_4 : w14.cell? ⟨g, 4, none⟩ = some (.string e) := (blk_cell BK.out 4).trans rfl; have hf4_0 := blk_frozen BK.out 0; have hf4_1 := blk_frozen BK.out 1; have hf4_2 := blk_frozen BK.out 2; have hf4_3 := blk_frozen BK.out 3; have hf4_4 := blk_frozen BK.out 4))
    go_ret
    exact ⟨congrArg (fun x => Ending.returned (Value.string x)) (HR2.out), (by repeat (first | (with_reducible first | exact HB.out | apply below_alloc | apply pw_below_drewN | apply below_drew1 | refine below_set ?_ GE.out) | exact HB.out))⟩
set_option maxHeartbeats 8000000 in
set_option maxRecDepth 100000 in
theorem body_calls (a b : Int) (c : ByteArray) (d : Bool) (e : ByteArray) (w : World) (ha : 1 ≤ a ∧ a ≤ 7) (hb0 : 0 ≤ b ∧ b ≤ 1000) (hc : (c.size : Int) ≤ 40) (he : (e.size : Int) ≤ 4000) :
    Calls Try.prog 80 #[.agg #[.int .i64 a, .int .i64 b, .string c, .bool d, .string e]] w fun e' w' => e' = .returned (.string (wrL a b c d e)) ∧ Below w.heap.size w w' := by
  have hu39 := Try.underlying39
  cases d
  · obtain ⟨y1, hy1⟩ : ∃ y : List Int, y = [74, a, b / 256, b % 256, (c.size : Int)] := ⟨_, rfl⟩
    obtain ⟨y2, hy2⟩ : ∃ y : List Int, y = y1 ++ bytesOf c := ⟨_, rfl⟩
    obtain ⟨y3, hy3⟩ : ∃ y : List Int, y = [0, (e.size : Int) / 256, (e.size : Int) % 256] := ⟨_, rfl⟩
    obtain ⟨y4, hy4⟩ : ∃ y : List Int, y = y2 ++ y3 := ⟨_, rfl⟩
    obtain ⟨y5, hy5⟩ : ∃ y : List Int, y = y4 ++ bytesOf e := ⟨_, rfl⟩
    have hbc := bytesOf_length c
    have hbe := bytesOf_length e
    have l1 : y1.length = 5 := by rw [hy1]; rfl
    have l2 : y2.length = 5 + c.size := by rw [hy2, List.length_append, l1, hbc]
    have l3 : y3.length = 3 := by rw [hy3]; rfl
    have l4 : y4.length = 8 + c.size := by rw [hy4, List.length_append, l2, l3]; omega
    have hres : strOfNums y5 = wrL a b c false e := by
      rw [hy5, hy4, hy3, hy2, hy1]; rfl
    have hres2 : strOfNums y4 ++ e = wrL a b c false e := by
      rw [← hres, hy5, strOfNums_append]
    have L2 := Aside0.mk (show y1.length + c.size < 140737488355328 by omega)
    have L4 := Aside0.mk (show y2.length + y3.length < 140737488355328 by omega)
    have L5 := Aside0.mk (show y4.length + e.size < 140737488355328 by omega)
    have hno : (9223372036854775807 < (strOfNums y4).size + e.size) = False := eq_false (by rw [strOfNums_size]; omega)
    have N1 := Aside0.mk hy1
    have N2 := Aside0.mk hy2
    have N3 := Aside0.mk hy3
    have N4 := Aside0.mk hy4
    have N5 := Aside0.mk hy5
    have HR := Aside0.mk hres
    have HR2 := Aside0.mk hres2
    clear hy1 hy2 hy3 hy4 hy5 l1 l2 l3 l4 hbc hbe hres hres2
    go_enter Try.func80, Try.ntmps80
    go_wp2_with (first | ((with_reducible refine gate_dst (N := 1) rfl ?_); refine box_event ?hg (N := 1) ?hd (cs := #[.int .i64 a, .int .i64 b, .string c, .bool false, .string e]) (t := 39) ?hr ?_; (case hd => rfl); (case hg => rfl); (case hr => first | (go_simp; done) | (go_simp; rfl)); intro g hg w6 hbox hb; have GE := Aside0.mk (Nat.le_of_eq hg.symm); have HB := Aside0.mk hb; have BK := Aside0.mk hbox; clear hg hbox hb; have hc0_0 : w6.cell? ⟨g, 0, none⟩ = some (.int .i64 a) := (blk_cell BK.out 0).trans rfl; have hc0_1 : w6.cell? ⟨g, 1, none⟩ = some (.int .i64 b) := (blk_cell BK.out 1).trans rfl; have hc0_2 : w6.cell? ⟨g, 2, none⟩ = some (.string c) := (blk_cell BK.out 2).trans rfl; have hc0_3 : w6.cell? ⟨g, 3, none⟩ = some (.bool false) := (blk_cell BK.out 3).trans rfl; have hc0_4 : w6.cell? ⟨g, 4, none⟩ = some (.string e) := (blk_cell BK.out 4).trans rfl; have hf0_0 := blk_frozen BK.out 0; have hf0_1 := blk_frozen BK.out 1; have hf0_2 := blk_frozen BK.out 2; have hf0_3 := blk_frozen BK.out 3; have hf0_4 := blk_frozen BK.out 4) | ((with_reducible refine gate_dst (N := 21) rfl ?_); (refine Kd.R_lit (Kd.int .u8) _ 5 ?hg (N := 21) ?hd (xs := ([74, a, b / 256, b % 256, (c.size : Int)] : List Int)) (inner := [.int .u8 (74), .int .u8 (a), .int .u8 (b / 256), .int .u8 (b % 256), .int .u8 ((c.size : Int))]) (ok := fun _ => True) (okp := fun _ => True) ?hr ?hp (fun _ hk => hk) trivial (Below.refl _ _) (Nat.le_refl _) (by simp) ?_; (case hd => rfl); (case hg => rfl); (case hr => first | (go_simp; done) | (go_simp; rfl)); (case hp => exact (Reps.one (show Kd.M (Kd.int .u8) _ _ _ (74) [.int .u8 (74)] from rfl) (Reps.one (show Kd.M (Kd.int .u8) _ _ _ (a) [.int .u8 (a)] from rfl) (Reps.one (show Kd.M (Kd.int .u8) _ _ _ (b / 256) [.int .u8 (b / 256)] from rfl) (Reps.one (show Kd.M (Kd.int .u8) _ _ _ (b % 256) [.int .u8 (b % 256)] from rfl) (Reps.one (show Kd.M (Kd.int .u8) _ _ _ ((c.size : Int)) [.int .u8 ((c.size : Int))] from rfl) (Reps.none _ _))))))); intro v1 w8 ho hb hg_ hnew_; clear hg_ hnew_; (first | rw [← N1.out] at ho | (simp only [Int.reduceToNat] at ho; rw [← N1.out] at ho)); have n0_ := Aside0.mk (Kd.R_lower ho (below_size (by repeat (first | (with_reducible first | exact HB.out | apply below_alloc | apply pw_below_drewN | apply below_drew1 | refine below_set ?_ GE.out) | exact HB.out)))); have n1_ := Aside0.mk (blk_below (g := g) (o := .cells #[.int .i64 a, .int .i64 b, .string c, .bool false, .string e] 39 (0, 0)) (by (with_reducible repeat (first | refine blk_drewN ?_ _ | refine blk_drew ?_ | refine blk_alloc ?_ _)); exact BK.out) hb); have n2_ := Aside0.mk (below_step (by repeat (first | (with_reducible first | exact HB.out | apply below_alloc | apply pw_below_drewN | apply below_drew1 | refine below_set ?_ GE.out) | exact HB.out)) hb); clear BK; clear HB; have HO1 := n0_; have BK := n1_; have HB := n2_; clear n0_ n1_ n2_; clear hb ho; have hc1_0 : w8.cell? ⟨g, 0, none⟩ = some (.int .i64 a) := (blk_cell BK.out 0).trans rfl; have hc1_1 : w8.cell? ⟨g, 1, none⟩ = some (.int .i64 b) := (blk_cell BK.out 1).trans rfl; have hc1_2 : w8.cell? ⟨g, 2, none⟩ = some (.string c) := (blk_cell BK.out 2).trans rfl; have hc1_3 : w8.cell? ⟨g, 3, none⟩ = some (.bool false) := (blk_cell BK.out 3).trans rfl; have hc1_4 : w8.cell? ⟨g, 4, none⟩ = some (.string e) := (blk_cell BK.out 4).trans rfl; have hf1_0 := blk_frozen BK.out 0; have hf1_1 := blk_frozen BK.out 1; have hf1_2 := blk_frozen BK.out 2; have hf1_3 := blk_frozen BK.out 3; have hf1_4 := blk_frozen BK.out 4)) | (at_builtin; refine print_append_str (w0 := w) w.heap.size rfl (.tmp 22) _ 53 9 5 rfl Try.underlying53 Try.underlying9 info5 v1 y1 c rfl rfl ?aO ?aB ?aS ?aL ?_; (case aB => exact (by repeat (first | (with_reducible first | exact HB.out | apply below_alloc | apply pw_below_drewN | apply below_drew1 | refine below_set ?_ GE.out) | exact HB.out))); (case aO => exact (Kd.own_of_R (by (with_reducible repeat (first | apply Kd.R_alloc | apply Kd.R_drewN | apply Kd.R_drew)); exact HO1.out))); (case aS => exact (below_size (by repeat (first | (with_reducible first | exact HB.out | apply below_alloc | apply pw_below_drewN | apply below_drew1 | refine below_set ?_ GE.out) | exact HB.out)))); (case aL => have := L2.out; omega); intro v2 w10 ho0 hb hg; have ho := Kd.R_of_own (h1 := fun _ => rfl) (ok := fun _ => True) ho0 (fun _ _ => trivial); clear ho0; rw [← N2.out] at ho; have n0_ := Aside0.mk (blk_grown (g := g) (o := .cells #[.int .i64 a, .int .i64 b, .string c, .bool false, .string e] 39 (0, 0)) (by (with_reducible repeat (first | refine blk_drewN ?_ _ | refine blk_drew ?_ | refine blk_alloc ?_ _)); exact BK.out) hg (Kd.R_ne HO1.out BK.out (by decide))); have n1_ := Aside0.mk (hb); have n2_ := Aside0.mk (ho); clear BK; clear HB; clear HO1; have BK := n0_; have HB := n1_; have HO2 := n2_; clear n0_ n1_ n2_; clear ho hb hg; have hc2_0 : w10.cell? ⟨g, 0, none⟩ = some (.int .i64 a) := (blk_cell BK.out 0).trans rfl; have hc2_1 : w10.cell? ⟨g, 1, none⟩ = some (.int .i64 b) := (blk_cell BK.out 1).trans rfl; have hc2_2 : w10.cell? ⟨g, 2, none⟩ = some (.string c) := (blk_cell BK.out 2).trans rfl; have hc2_3 : w10.cell? ⟨g, 3, none⟩ = some (.bool false) := (blk_cell BK.out 3).trans rfl; have hc2_4 : w10.cell? ⟨g, 4, none⟩ = some (.string e) := (blk_cell BK.out 4).trans rfl; have hf2_0 := blk_frozen BK.out 0; have hf2_1 := blk_frozen BK.out 1; have hf2_2 := blk_frozen BK.out 2; have hf2_3 := blk_frozen BK.out 3; have hf2_4 := blk_frozen BK.out 4) | ((with_reducible refine gate_dst (N := 37) rfl ?_); (refine Kd.R_lit (Kd.int .u8) _ 5 ?hg (N := 37) ?hd (xs := ([0, (e.size : Int) / 256, (e.size : Int) % 256] : List Int)) (inner := [.int .u8 (0), .int .u8 ((e.size : Int) / 256), .int .u8 ((e.size : Int) % 256)]) (ok := fun _ => True) (okp := fun _ => True) ?hr ?hp (fun _ hk => hk) trivial (Below.refl _ _) (Nat.le_refl _) (by simp) ?_; (case hd => rfl); (case hg => rfl); (case hr => first | (go_simp; done) | (go_simp; rfl)); (case hp => exact (Reps.one (show Kd.M (Kd.int .u8) _ _ _ (0) [.int .u8 (0)] from rfl) (Reps.one (show Kd.M (Kd.int .u8) _ _ _ ((e.size : Int) / 256) [.int .u8 ((e.size : Int) / 256)] from rfl) (Reps.one (show Kd.M (Kd.int .u8) _ _ _ ((e.size : Int) % 256) [.int .u8 ((e.size : Int) % 256)] from rfl) (Reps.none _ _))))); intro v3 w12 ho hb hg_ hnew_; clear hg_ hnew_; (first | rw [← N3.out] at ho | (simp only [Int.reduceToNat] at ho; rw [← N3.out] at ho)); have n0_ := Aside0.mk (Kd.R_elder' (by (with_reducible repeat (first | apply Kd.R_alloc | apply Kd.R_drewN | apply Kd.R_drew)); exact HO2.out) (Kd.R_base ho) hb); have n1_ := Aside0.mk (Kd.R_lower (Kd.R_new' ho (Kd.R_lt (by (with_reducible repeat (first | apply Kd.R_alloc | apply Kd.R_drewN | apply Kd.R_drew)); exact HO2.out))) (below_size (by repeat (first | (with_reducible first | exact HB.out | apply below_alloc | apply pw_below_drewN | apply below_drew1 | refine below_set ?_ GE.out) | exact HB.out)))); have n2_ := Aside0.mk (blk_below (g := g) (o := .cells #[.int .i64 a, .int .i64 b, .string c, .bool false, .string e] 39 (0, 0)) (by (with_reducible repeat (first | refine blk_drewN ?_ _ | refine blk_drew ?_ | refine blk_alloc ?_ _)); exact BK.out) hb); have n3_ := Aside0.mk (below_step (by repeat (first | (with_reducible first | exact HB.out | apply below_alloc | apply pw_below_drewN | apply below_drew1 | refine below_set ?_ GE.out) | exact HB.out)) hb); clear HO2; clear BK; clear HB; have HO2 := n0_; have HO3 := n1_; have BK := n2_; have HB := n3_; clear n0_ n1_ n2_ n3_; clear hb ho; obtain ⟨Ao, co, eo⟩ := Kd.R_slice HO3.out; subst eo; have hc3_0 : w12.cell? ⟨g, 0, none⟩ = some (.int .i64 a) := (blk_cell BK.out 0).trans rfl; have hc3_1 : w12.cell? ⟨g, 1, none⟩ = some (.int .i64 b) := (blk_cell BK.out 1).trans rfl; have hc3_2 : w12.cell? ⟨g, 2, none⟩ = some (.string c) := (blk_cell BK.out 2).trans rfl; have hc3_3 : w12.cell? ⟨g, 3, none⟩ = some (.bool false) := (blk_cell BK.out 3).trans rfl; have hc3_4 : w12.cell? ⟨g, 4, none⟩ = some (.string e) := (blk_cell BK.out 4).trans rfl; have hf3_0 := blk_frozen BK.out 0; have hf3_1 := blk_frozen BK.out 1; have hf3_2 := blk_frozen BK.out 2; have hf3_3 := blk_frozen BK.out 3; have hf3_4 := blk_frozen BK.out 4)) | ((with_reducible refine gate_builtin (b := .append) (xs := #[.tmp 26, .tmp 37]) rfl ?_); at_builtin; refine Kd.R_append_rows (Kd.int .u8) (w0 := w) w.heap.size rfl (.tmp 26) (.tmp 37) 53 5 (.int .u8 0) 1 rfl Try.underlying53 info5 rfl (by decide) (by omega) v2 y2 y3 _ _ _ (fun k_ => some k_ ≠ (.slice Ao y3.length co : Value).ownBlock) (fun _ => False) rfl rfl ?aO ?aR (fun _ _ h => h) (fun _ h => h.elim) ?aF ?aB ?aS ?aL ?_; (case aR => repeat (first | exact (Kd.R_reads' HO3.out).2.2 | (with_reducible refine Kd.C_alloc ?_ _) | (with_reducible refine Kd.C_drewN ?_ _) | (with_reducible refine Kd.C_drew ?_))); (case aB => exact (by repeat (first | (with_reducible first | exact HB.out | apply below_alloc | apply pw_below_drewN | apply below_drew1 | refine below_set ?_ GE.out) | exact HB.out))); (case aF => exact (fun k_ hk => Kd.fresh' (Kd.R_lt (by (with_reducible repeat (first | apply Kd.R_alloc | apply Kd.R_drewN | apply Kd.R_drew)); exact HO3.out)) k_ hk)); (case aO => exact (by (with_reducible repeat (first | apply Kd.R_alloc | apply Kd.R_drewN | apply Kd.R_drew)); exact Kd.R_mono HO2.out (fun _ hk => hk.2))); (case aS => exact (below_size (by repeat (first | (with_reducible first | exact HB.out | apply below_alloc | apply pw_below_drewN | apply below_drew1 | refine below_set ?_ GE.out) | exact HB.out)))); (case aL => have := L4.out; omega); intro v4 w14 ho hb hg hat; rw [← N4.out] at ho; have n0_ := Aside0.mk (blk_grown (g := g) (o := .cells #[.int .i64 a, .int .i64 b, .string c, .bool false, .string e] 39 (0, 0)) (by (with_reducible repeat (first | refine blk_drewN ?_ _ | refine blk_drew ?_ | refine blk_alloc ?_ _)); exact BK.out) hg (Kd.R_ne HO2.out BK.out (by decide))); have n1_ := Aside0.mk (Kd.R_after (ok := (fun _ => True)) (by (with_reducible repeat (first | apply Kd.R_alloc | apply Kd.R_drewN | apply Kd.R_drew)); exact HO3.out) hg hat); have n2_ := Aside0.mk (hb); have n3_ := Aside0.mk (Kd.R_mono (ok' := fun _ => True) ho (fun _ _ => trivial)); clear BK; clear HO3; clear HB; clear HO2; have BK := n0_; have HB := n2_; have HO4 := n3_; clear n0_ n1_ n2_ n3_; clear ho hb hg hat; have hc4_0 : w14.cell? ⟨g, 0, none⟩ = some (.int .i64 a) := (blk_cell BK.out 0).trans rfl; have hc4_1 : w14.cell? ⟨g, 1, none⟩ = some (.int .i64 b) := (blk_cell BK.out 1).trans rfl; have hc4_2 : w14.cell? ⟨g, 2, none⟩ = some (.string c) := (blk_cell BK.out 2).trans rfl; have hc4_3 : w14.cell? ⟨g, 3, none⟩ = some (.bool false) := (blk_cell BK.out 3).trans rfl; have hc4_4 : w14.cell? ⟨g, 4, none⟩ = some (.string e) := (blk_cell BK.out 4).trans rfl; have hf4_0 := blk_frozen BK.out 0; have hf4_1 := blk_frozen BK.out 1; have hf4_2 := blk_frozen BK.out 2; have hf4_3 := blk_frozen BK.out 3; have hf4_4 := blk_frozen BK.out 4) | (at_builtin; refine print_append_str (w0 := w) w.heap.size rfl (.tmp 39) _ 53 9 5 rfl Try.underlying53 Try.underlying9 info5 v4 y4 e rfl rfl ?aO ?aB ?aS ?aL ?_; (case aB => exact (by repeat (first | (with_reducible first | exact HB.out | apply below_alloc | apply pw_below_drewN | apply below_drew1 | refine below_set ?_ GE.out) | exact HB.out))); (case aO => exact (Kd.own_of_R (by (with_reducible repeat (first | apply Kd.R_alloc | apply Kd.R_drewN | apply Kd.R_drew)); exact HO4.out))); (case aS => exact (below_size (by repeat (first | (with_reducible first | exact HB.out | apply below_alloc | apply pw_below_drewN | apply below_drew1 | refine below_set ?_ GE.out) | exact HB.out)))); (case aL => have := L5.out; omega); intro v5 w16 ho0 hb hg; have ho := Kd.R_of_own (h1 := fun _ => rfl) (ok := fun _ => True) ho0 (fun _ _ => trivial); clear ho0; rw [← N5.out] at ho; have n0_ := Aside0.mk (blk_grown (g := g) (o := .cells #[.int .i64 a, .int .i64 b, .string c, .bool false, .string e] 39 (0, 0)) (by (with_reducible repeat (first | refine blk_drewN ?_ _ | refine blk_drew ?_ | refine blk_alloc ?_ _)); exact BK.out) hg (Kd.R_ne HO4.out BK.out (by decide))); have n1_ := Aside0.mk (hb); have n2_ := Aside0.mk (ho); clear BK; clear HB; clear HO4; have BK := n0_; have HB := n1_; have HO5 := n2_; clear n0_ n1_ n2_; clear ho hb hg; have hcv := own_string (P := Try.prog) Try.underlying53 Try.underlying5 Try.underlying9 (Kd.own_of_R HO5.out)))
    go_ret
    exact ⟨congrArg (fun x => Ending.returned (Value.string x)) (HR.out), (by repeat (first | (with_reducible first | exact HB.out | apply below_alloc | apply pw_below_drewN | apply below_drew1 | refine below_set ?_ GE.out) | exact HB.out))⟩
  · obtain ⟨y1, hy1⟩ : ∃ y : List Int, y = [74, a, b / 256, b % 256, (c.size : Int)] := ⟨_, rfl⟩
    obtain ⟨y2, hy2⟩ : ∃ y : List Int, y = y1 ++ bytesOf c := ⟨_, rfl⟩
    obtain ⟨y3, hy3⟩ : ∃ y : List Int, y = [1, (e.size : Int) / 256, (e.size : Int) % 256] := ⟨_, rfl⟩
    obtain ⟨y4, hy4⟩ : ∃ y : List Int, y = y2 ++ y3 := ⟨_, rfl⟩
    obtain ⟨y5, hy5⟩ : ∃ y : List Int, y = y4 ++ bytesOf e := ⟨_, rfl⟩
    have hbc := bytesOf_length c
    have hbe := bytesOf_length e
    have l1 : y1.length = 5 := by rw [hy1]; rfl
    have l2 : y2.length = 5 + c.size := by rw [hy2, List.length_append, l1, hbc]
    have l3 : y3.length = 3 := by rw [hy3]; rfl
    have l4 : y4.length = 8 + c.size := by rw [hy4, List.length_append, l2, l3]; omega
    have hres : strOfNums y5 = wrL a b c true e := by
      rw [hy5, hy4, hy3, hy2, hy1]; rfl
    have hres2 : strOfNums y4 ++ e = wrL a b c true e := by
      rw [← hres, hy5, strOfNums_append]
    have L2 := Aside0.mk (show y1.length + c.size < 140737488355328 by omega)
    have L4 := Aside0.mk (show y2.length + y3.length < 140737488355328 by omega)
    have L5 := Aside0.mk (show y4.length + e.size < 140737488355328 by omega)
    have hno : (9223372036854775807 < (strOfNums y4).size + e.size) = False := eq_false (by rw [strOfNums_size]; omega)
    have N1 := Aside0.mk hy1
    have N2 := Aside0.mk hy2
    have N3 := Aside0.mk hy3
    have N4 := Aside0.mk hy4
    have N5 := Aside0.mk hy5
    have HR := Aside0.mk hres
    have HR2 := Aside0.mk hres2
    clear hy1 hy2 hy3 hy4 hy5 l1 l2 l3 l4 hbc hbe hres hres2
    go_enter Try.func80, Try.ntmps80
    go_wp2_with (first | ((with_reducible refine gate_dst (N := 1) rfl ?_); refine box_event ?hg (N := 1) ?hd (cs := #[.int .i64 a, .int .i64 b, .string c, .bool true, .string e]) (t := 39) ?hr ?_; (case hd => rfl); (case hg => rfl); (case hr => first | (go_simp; done) | (go_simp; rfl)); intro g hg w6 hbox hb; have GE := Aside0.mk (Nat.le_of_eq hg.symm); have HB := Aside0.mk hb; have BK := Aside0.mk hbox; clear hg hbox hb; have hc0_0 : w6.cell? ⟨g, 0, none⟩ = some (.int .i64 a) := (blk_cell BK.out 0).trans rfl; have hc0_1 : w6.cell? ⟨g, 1, none⟩ = some (.int .i64 b) := (blk_cell BK.out 1).trans rfl; have hc0_2 : w6.cell? ⟨g, 2, none⟩ = some (.string c) := (blk_cell BK.out 2).trans rfl; have hc0_3 : w6.cell? ⟨g, 3, none⟩ = some (.bool true) := (blk_cell BK.out 3).trans rfl; have hc0_4 : w6.cell? ⟨g, 4, none⟩ = some (.string e) := (blk_cell BK.out 4).trans rfl; have hf0_0 := blk_frozen BK.out 0; have hf0_1 := blk_frozen BK.out 1; have hf0_2 := blk_frozen BK.out 2; have hf0_3 := blk_frozen BK.out 3; have hf0_4 := blk_frozen BK.out 4) | ((with_reducible refine gate_dst (N := 21) rfl ?_); (refine Kd.R_lit (Kd.int .u8) _ 5 ?hg (N := 21) ?hd (xs := ([74, a, b / 256, b % 256, (c.size : Int)] : List Int)) (inner := [.int .u8 (74), .int .u8 (a), .int .u8 (b / 256), .int .u8 (b % 256), .int .u8 ((c.size : Int))]) (ok := fun _ => True) (okp := fun _ => True) ?hr ?hp (fun _ hk => hk) trivial (Below.refl _ _) (Nat.le_refl _) (by simp) ?_; (case hd => rfl); (case hg => rfl); (case hr => first | (go_simp; done) | (go_simp; rfl)); (case hp => exact (Reps.one (show Kd.M (Kd.int .u8) _ _ _ (74) [.int .u8 (74)] from rfl) (Reps.one (show Kd.M (Kd.int .u8) _ _ _ (a) [.int .u8 (a)] from rfl) (Reps.one (show Kd.M (Kd.int .u8) _ _ _ (b / 256) [.int .u8 (b / 256)] from rfl) (Reps.one (show Kd.M (Kd.int .u8) _ _ _ (b % 256) [.int .u8 (b % 256)] from rfl) (Reps.one (show Kd.M (Kd.int .u8) _ _ _ ((c.size : Int)) [.int .u8 ((c.size : Int))] from rfl) (Reps.none _ _))))))); intro v1 w8 ho hb hg_ hnew_; clear hg_ hnew_; (first | rw [← N1.out] at ho | (simp only [Int.reduceToNat] at ho; rw [← N1.out] at ho)); have n0_ := Aside0.mk (Kd.R_lower ho (below_size (by repeat (first | (with_reducible first | exact HB.out | apply below_alloc | apply pw_below_drewN | apply below_drew1 | refine below_set ?_ GE.out) | exact HB.out)))); have n1_ := Aside0.mk (blk_below (g := g) (o := .cells #[.int .i64 a, .int .i64 b, .string c, .bool true, .string e] 39 (0, 0)) (by (with_reducible repeat (first | refine blk_drewN ?_ _ | refine blk_drew ?_ | refine blk_alloc ?_ _)); exact BK.out) hb); have n2_ := Aside0.mk (below_step (by repeat (first | (with_reducible first | exact HB.out | apply below_alloc | apply pw_below_drewN | apply below_drew1 | refine below_set ?_ GE.out) | exact HB.out)) hb); clear BK; clear HB; have HO1 := n0_; have BK := n1_; have HB := n2_; clear n0_ n1_ n2_; clear hb ho; have hc1_0 : w8.cell? ⟨g, 0, none⟩ = some (.int .i64 a) := (blk_cell BK.out 0).trans rfl; have hc1_1 : w8.cell? ⟨g, 1, none⟩ = some (.int .i64 b) := (blk_cell BK.out 1).trans rfl; have hc1_2 : w8.cell? ⟨g, 2, none⟩ = some (.string c) := (blk_cell BK.out 2).trans rfl; have hc1_3 : w8.cell? ⟨g, 3, none⟩ = some (.bool true) := (blk_cell BK.out 3).trans rfl; have hc1_4 : w8.cell? ⟨g, 4, none⟩ = some (.string e) := (blk_cell BK.out 4).trans rfl; have hf1_0 := blk_frozen BK.out 0; have hf1_1 := blk_frozen BK.out 1; have hf1_2 := blk_frozen BK.out 2; have hf1_3 := blk_frozen BK.out 3; have hf1_4 := blk_frozen BK.out 4)) | (at_builtin; refine print_append_str (w0 := w) w.heap.size rfl (.tmp 22) _ 53 9 5 rfl Try.underlying53 Try.underlying9 info5 v1 y1 c rfl rfl ?aO ?aB ?aS ?aL ?_; (case aB => exact (by repeat (first | (with_reducible first | exact HB.out | apply below_alloc | apply pw_below_drewN | apply below_drew1 | refine below_set ?_ GE.out) | exact HB.out))); (case aO => exact (Kd.own_of_R (by (with_reducible repeat (first | apply Kd.R_alloc | apply Kd.R_drewN | apply Kd.R_drew)); exact HO1.out))); (case aS => exact (below_size (by repeat (first | (with_reducible first | exact HB.out | apply below_alloc | apply pw_below_drewN | apply below_drew1 | refine below_set ?_ GE.out) | exact HB.out)))); (case aL => have := L2.out; omega); intro v2 w10 ho0 hb hg; have ho := Kd.R_of_own (h1 := fun _ => rfl) (ok := fun _ => True) ho0 (fun _ _ => trivial); clear ho0; rw [← N2.out] at ho; have n0_ := Aside0.mk (blk_grown (g := g) (o := .cells #[.int .i64 a, .int .i64 b, .string c, .bool true, .string e] 39 (0, 0)) (by (with_reducible repeat (first | refine blk_drewN ?_ _ | refine blk_drew ?_ | refine blk_alloc ?_ _)); exact BK.out) hg (Kd.R_ne HO1.out BK.out (by decide))); have n1_ := Aside0.mk (hb); have n2_ := Aside0.mk (ho); clear BK; clear HB; clear HO1; have BK := n0_; have HB := n1_; have HO2 := n2_; clear n0_ n1_ n2_; clear ho hb hg; have hc2_0 : w10.cell? ⟨g, 0, none⟩ = some (.int .i64 a) := (blk_cell BK.out 0).trans rfl; have hc2_1 : w10.cell? ⟨g, 1, none⟩ = some (.int .i64 b) := (blk_cell BK.out 1).trans rfl; have hc2_2 : w10.cell? ⟨g, 2, none⟩ = some (.string c) := (blk_cell BK.out 2).trans rfl; have hc2_3 : w10.cell? ⟨g, 3, none⟩ = some (.bool true) := (blk_cell BK.out 3).trans rfl; have hc2_4 : w10.cell? ⟨g, 4, none⟩ = some (.string e) := (blk_cell BK.out 4).trans rfl; have hf2_0 := blk_frozen BK.out 0; have hf2_1 := blk_frozen BK.out 1; have hf2_2 := blk_frozen BK.out 2; have hf2_3 := blk_frozen BK.out 3; have hf2_4 := blk_frozen BK.out 4) | ((with_reducible refine gate_dst (N := 37) rfl ?_); (refine Kd.R_lit (Kd.int .u8) _ 5 ?hg (N := 37) ?hd (xs := ([1, (e.size : Int) / 256, (e.size : Int) % 256] : List Int)) (inner := [.int .u8 (1), .int .u8 ((e.size : Int) / 256), .int .u8 ((e.size : Int) % 256)]) (ok := fun _ => True) (okp := fun _ => True) ?hr ?hp (fun _ hk => hk) trivial (Below.refl _ _) (Nat.le_refl _) (by simp) ?_; (case hd => rfl); (case hg => rfl); (case hr => first | (go_simp; done) | (go_simp; rfl)); (case hp => exact (Reps.one (show Kd.M (Kd.int .u8) _ _ _ (1) [.int .u8 (1)] from rfl) (Reps.one (show Kd.M (Kd.int .u8) _ _ _ ((e.size : Int) / 256) [.int .u8 ((e.size : Int) / 256)] from rfl) (Reps.one (show Kd.M (Kd.int .u8) _ _ _ ((e.size : Int) % 256) [.int .u8 ((e.size : Int) % 256)] from rfl) (Reps.none _ _))))); intro v3 w12 ho hb hg_ hnew_; clear hg_ hnew_; (first | rw [← N3.out] at ho | (simp only [Int.reduceToNat] at ho; rw [← N3.out] at ho)); have n0_ := Aside0.mk (Kd.R_elder' (by (with_reducible repeat (first | apply Kd.R_alloc | apply Kd.R_drewN | apply Kd.R_drew)); exact HO2.out) (Kd.R_base ho) hb); have n1_ := Aside0.mk (Kd.R_lower (Kd.R_new' ho (Kd.R_lt (by (with_reducible repeat (first | apply Kd.R_alloc | apply Kd.R_drewN | apply Kd.R_drew)); exact HO2.out))) (below_size (by repeat (first | (with_reducible first | exact HB.out | apply below_alloc | apply pw_below_drewN | apply below_drew1 | refine below_set ?_ GE.out) | exact HB.out)))); have n2_ := Aside0.mk (blk_below (g := g) (o := .cells #[.int .i64 a, .int .i64 b, .string c, .bool true, .string e] 39 (0, 0)) (by (with_reducible repeat (first | refine blk_drewN ?_ _ | refine blk_drew ?_ | refine blk_alloc ?_ _)); exact BK.out) hb); have n3_ := Aside0.mk (below_step (by repeat (first | (with_reducible first | exact HB.out | apply below_alloc | apply pw_below_drewN | apply below_drew1 | refine below_set ?_ GE.out) | exact HB.out)) hb); clear HO2; clear BK; clear HB; have HO2 := n0_; have HO3 := n1_; have BK := n2_; have HB := n3_; clear n0_ n1_ n2_ n3_; clear hb ho; obtain ⟨Ao, co, eo⟩ := Kd.R_slice HO3.out; subst eo; have hc3_0 : w12.cell? ⟨g, 0, none⟩ = some (.int .i64 a) := (blk_cell BK.out 0).trans rfl; have hc3_1 : w12.cell? ⟨g, 1, none⟩ = some (.int .i64 b) := (blk_cell BK.out 1).trans rfl; have hc3_2 : w12.cell? ⟨g, 2, none⟩ = some (.string c) := (blk_cell BK.out 2).trans rfl; have hc3_3 : w12.cell? ⟨g, 3, none⟩ = some (.bool true) := (blk_cell BK.out 3).trans rfl; have hc3_4 : w12.cell? ⟨g, 4, none⟩ = some (.string e) := (blk_cell BK.out 4).trans rfl; have hf3_0 := blk_frozen BK.out 0; have hf3_1 := blk_frozen BK.out 1; have hf3_2 := blk_frozen BK.out 2; have hf3_3 := blk_frozen BK.out 3; have hf3_4 := blk_frozen BK.out 4)) | ((with_reducible refine gate_builtin (b := .append) (xs := #[.tmp 26, .tmp 37]) rfl ?_); at_builtin; refine Kd.R_append_rows (Kd.int .u8) (w0 := w) w.heap.size rfl (.tmp 26) (.tmp 37) 53 5 (.int .u8 0) 1 rfl Try.underlying53 info5 rfl (by decide) (by omega) v2 y2 y3 _ _ _ (fun k_ => some k_ ≠ (.slice Ao y3.length co : Value).ownBlock) (fun _ => False) rfl rfl ?aO ?aR (fun _ _ h => h) (fun _ h => h.elim) ?aF ?aB ?aS ?aL ?_; (case aR => repeat (first | exact (Kd.R_reads' HO3.out).2.2 | (with_reducible refine Kd.C_alloc ?_ _) | (with_reducible refine Kd.C_drewN ?_ _) | (with_reducible refine Kd.C_drew ?_))); (case aB => exact (by repeat (first | (with_reducible first | exact HB.out | apply below_alloc | apply pw_below_drewN | apply below_drew1 | refine below_set ?_ GE.out) | exact HB.out))); (case aF => exact (fun k_ hk => Kd.fresh' (Kd.R_lt (by (with_reducible repeat (first | apply Kd.R_alloc | apply Kd.R_drewN | apply Kd.R_drew)); exact HO3.out)) k_ hk)); (case aO => exact (by (with_reducible repeat (first | apply Kd.R_alloc | apply Kd.R_drewN | apply Kd.R_drew)); exact Kd.R_mono HO2.out (fun _ hk => hk.2))); (case aS => exact (below_size (by repeat (first | (with_reducible first | exact HB.out | apply below_alloc | apply pw_below_drewN | apply below_drew1 | refine below_set ?_ GE.out) | exact HB.out)))); (case aL => have := L4.out; omega); intro v4 w14 ho hb hg hat; rw [← N4.out] at ho; have n0_ := Aside0.mk (blk_grown (g := g) (o := .cells #[.int .i64 a, .int .i64 b, .string c, .bool true, .string e] 39 (0, 0)) (by (with_reducible repeat (first | refine blk_drewN ?_ _ | refine blk_drew ?_ | refine blk_alloc ?_ _)); exact BK.out) hg (Kd.R_ne HO2.out BK.out (by decide))); have n1_ := Aside0.mk (Kd.R_after (ok := (fun _ => True)) (by (with_reducible repeat (first | apply Kd.R_alloc | apply Kd.R_drewN | apply Kd.R_drew)); exact HO3.out) hg hat); have n2_ := Aside0.mk (hb); have n3_ := Aside0.mk (Kd.R_mono (ok' := fun _ => True) ho (fun _ _ => trivial)); clear BK; clear HO3; clear HB; clear HO2; have BK := n0_; have HB := n2_; have HO4 := n3_; clear n0_ n1_ n2_ n3_; clear ho hb hg hat; have hc4_0 : w14.cell? ⟨g, 0, none⟩ = some (.int .i64 a) := (blk_cell BK.out 0).trans rfl; have hc4_1 : w14.cell? ⟨g, 1, none⟩ = some (.int .i64 b) := (blk_cell BK.out 1).trans rfl; have hc4_2 : w14.cell? ⟨g, 2, none⟩ = some (.string c) := (blk_cell BK.out 2).trans rfl; have hc4_3 : w14.cell? ⟨g, 3, none⟩ = some (.bool true) := (blk_cell BK.out 3).trans rfl; have hc4_4 : w14.cell? ⟨g, 4, none⟩ = some (.string e) := (blk_cell BK.out 4).trans rfl; have hf4_0 := blk_frozen BK.out 0; have hf4_1 := blk_frozen BK.out 1; have hf4_2 := blk_frozen BK.out 2; have hf4_3 := blk_frozen BK.out 3; have hf4_4 := blk_frozen BK.out 4) | (at_builtin; refine print_append_str (w0 := w) w.heap.size rfl (.tmp 39) _ 53 9 5 rfl Try.underlying53 Try.underlying9 info5 v4 y4 e rfl rfl ?aO ?aB ?aS ?aL ?_; (case aB => exact (by repeat (first | (with_reducible first | exact HB.out | apply below_alloc | apply pw_below_drewN | apply below_drew1 | refine below_set ?_ GE.out) | exact HB.out))); (case aO => exact (Kd.own_of_R (by (with_reducible repeat (first | apply Kd.R_alloc | apply Kd.R_drewN | apply Kd.R_drew)); exact HO4.out))); (case aS => exact (below_size (by repeat (first | (with_reducible first | exact HB.out | apply below_alloc | apply pw_below_drewN | apply below_drew1 | refine below_set ?_ GE.out) | exact HB.out)))); (case aL => have := L5.out; omega); intro v5 w16 ho0 hb hg; have ho := Kd.R_of_own (h1 := fun _ => rfl) (ok := fun _ => True) ho0 (fun _ _ => trivial); clear ho0; rw [← N5.out] at ho; have n0_ := Aside0.mk (blk_grown (g := g) (o := .cells #[.int .i64 a, .int .i64 b, .string c, .bool true, .string e] 39 (0, 0)) (by (with_reducible repeat (first | refine blk_drewN ?_ _ | refine blk_drew ?_ | refine blk_alloc ?_ _)); exact BK.out) hg (Kd.R_ne HO4.out BK.out (by decide))); have n1_ := Aside0.mk (hb); have n2_ := Aside0.mk (ho); clear BK; clear HB; clear HO4; have BK := n0_; have HB := n1_; have HO5 := n2_; clear n0_ n1_ n2_; clear ho hb hg; have hcv := own_string (P := Try.prog) Try.underlying53 Try.underlying5 Try.underlying9 (Kd.own_of_R HO5.out)))
    go_ret
    exact ⟨congrArg (fun x => Ending.returned (Value.string x)) (HR.out), (by repeat (first | (with_reducible first | exact HB.out | apply below_alloc | apply pw_below_drewN | apply below_drew1 | refine below_set ?_ GE.out) | exact HB.out))⟩
def ringworkref25_written.f (a0_0 : Int) (a0_1 : Int) (a0_2 : ByteArray) (a0_3 : Bool) (a0_4 : ByteArray) : Option ByteArray :=
  if (1 ≤ a0_0 ∧ a0_0 ≤ 7) ∧ (0 ≤ a0_1 ∧ a0_1 ≤ 1000) ∧ (a0_2.size : Int) ≤ 40 ∧ (a0_4.size : Int) ≤ 4000 then some (wrL a0_0 a0_1 a0_2 a0_3 a0_4) else none
theorem ringworkref25_written.calls (a0_0 : Int) (a0_1 : Int) (a0_2 : ByteArray) (a0_3 : Bool) (a0_4 : ByteArray) (r : ByteArray) (w : World) (h : ringworkref25_written.f a0_0 a0_1 a0_2 a0_3 a0_4 = some r) :
    Calls Try.prog 74 #[.agg #[.int .i64 a0_0, .int .i64 a0_1, .string a0_2, .bool a0_3, .string a0_4]] w fun e w' => e = .returned (.string r) ∧ Below w.heap.size w w' := by
  unfold ringworkref25_written.f at h
  split at h
  · rename_i hc
    obtain rfl := Option.some.inj h
    exact rwritten_calls a0_0 a0_1 a0_2 a0_3 a0_4 w hc.1 hc.2.1 hc.2.2.1 hc.2.2.2
  · cases h
end Go.Proofs.Yteblpjnkinghoaa.J
namespace Go.Proofs.Yteblpjnkinghoaa.J
open Go.RowKit Go.Proofs.YteblpjnkinghoaaW.PrintWords Go.Proofs.YteblpjnkinghoaaW.PrintLast Go.Proofs.YteblpjnkinghoaaW.PrintMore
attribute [local go_sem] max2_int min2_int max_two min_two max_three min_three max_four min_four   -- for this text's walks alone
set_option linter.unusedVariables false
set_option linter.unusedSimpArgs false
/-! ### ringworkref25_all: function 57 -/
def ringworkref25_all.l0 : Nat → Int → List (S39) → ByteArray → Int → Option (ByteArray)
  | 0, _, _, _, _ => none
  | k + 1, x0, x1, x5, x6 => if x6 < (x1.length : Int) then (if 0 ≤ x6 then ((ringworkref25_written.f ((rd_T39 x1 x6).f0) ((rd_T39 x1 x6).f1) ((rd_T39 x1 x6).f2) ((rd_T39 x1 x6).f3) ((rd_T39 x1 x6).f4)).bind fun t173 => ((ringworkref25_Sum.f x0 t173).bind fun t174 => (if x5.size + t173.size ≤ 9223372036854775807 then ((ringworkref25_eight.f t174).bind fun t175 => (if (x5 ++ t173).size + t175.size ≤ 9223372036854775807 then (ringworkref25_all.l0 k t174 x1 ((x5 ++ t173) ++ t175) (wrap64 (x6 + 1))) else (none))) else (none)))) else (none)) else (some x5)
def ringworkref25_all.f (k : Nat) (a0 : Int) (l1 : List (S39)) : Option (ByteArray) := ringworkref25_all.l0 k a0 l1 (⟨#[]⟩ : ByteArray) 0
set_option maxHeartbeats 8000000 in
set_option maxRecDepth 100000 in
theorem ringworkref25_all.calls (k : Nat) (a0 : Int) (A1 : Option Addr) (c1 : Nat) (l1 : List (S39)) (r : ByteArray) (w : World) (hr1 : Kd.C k39 w A1 l1.length l1) (hc1 : l1.length ≤ c1) (h : ringworkref25_all.f k a0 l1 = some r) :
    Calls Try.prog 57 #[.int .u64 a0, .slice A1 l1.length c1] w fun e w' => e = .returned (.string r) ∧ Below w.heap.size w w' := by
  have hu39 := Try.underlying39
  have HR1 := Aside0.mk hr1
  have HC1 := Aside0.mk hc1
  clear hr1 hc1
  have HB := Aside0.mk (Below.refl w.heap.size w)
  have H : (ringworkref25_all.l0 k a0 l1 (⟨#[]⟩ : ByteArray) 0) = some r := h
  clear h
  have H' := Aside0.mk H
  clear H
  go_enter Try.func57, Try.ntmps57
  go_wp2
  go_loopg [0, 5, 6] k (fun kq v0 v5 v6 w' => ∃ (x0_1 : Int) (x5_1 : ByteArray) (x6_1 : Int), v0 = .int .u64 x0_1 ∧ v5 = .string x5_1 ∧ v6 = .int .i64 x6_1 ∧ Aside0 (ringworkref25_all.l0 kq x0_1 l1 x5_1 x6_1 = some r) ∧ Aside0 (kq ≤ k) ∧ Aside0 (Below w.heap.size w w'))
  case atStart => exact ⟨(a0), ((⟨#[]⟩ : ByteArray)), (0), (by first | rfl | (simp; done) | (simp [*]; done)), (by first | rfl | (simp; done) | (simp [*]; done)), (by first | rfl | (simp; done) | (simp [*]; done)), H', ⟨Nat.le_refl _⟩, ⟨by repeat (first | (with_reducible first | exact HB.out | apply below_alloc | apply pw_below_drewN | apply below_drew1) | exact HB.out)⟩⟩
  case round =>
    clear H'
    try clear c1
    try clear p2
    obtain ⟨x0_1, x5_1, x6_1, rfl, rfl, rfl, HA, HK1, HB⟩ := hrel
    cases gk with
    | zero => exact absurd HA.out (by simp [ringworkref25_all.l0])
    | succ k1 =>
      have H := HA.out
      clear HA
      simp only [ringworkref25_all.l0] at H
      by_cases c3 : x6_1 < (l1.length : Int)
      · rw [if_pos c3] at H
        have c3b0 : decide (x6_1 < (l1.length : Int)) = true := decide_eq_true c3
        clear c3
        by_cases c4 : 0 ≤ x6_1
        · rw [if_pos c4] at H
          have c4b0 : decide (0 ≤ x6_1) = true := decide_eq_true c4
          clear c4
          replace H := Option.bind_eq_some_iff.mp H
          obtain ⟨t173, A50, H⟩ := H
          replace H : ((ringworkref25_Sum.f x0_1 t173).bind fun t174 => (if x5_1.size + t173.size ≤ 9223372036854775807 then ((ringworkref25_eight.f t174).bind fun t175 => (if (x5_1 ++ t173).size + t175.size ≤ 9223372036854775807 then (ringworkref25_all.l0 k1 t174 l1 ((x5_1 ++ t173) ++ t175) (wrap64 (x6_1 + 1))) else (none))) else (none))) = some r := H
          have A5 := Aside0.mk A50
          clear A50
          replace H := Option.bind_eq_some_iff.mp H
          obtain ⟨t174, A60, H⟩ := H
          replace H : (if x5_1.size + t173.size ≤ 9223372036854775807 then ((ringworkref25_eight.f t174).bind fun t175 => (if (x5_1 ++ t173).size + t175.size ≤ 9223372036854775807 then (ringworkref25_all.l0 k1 t174 l1 ((x5_1 ++ t173) ++ t175) (wrap64 (x6_1 + 1))) else (none))) else (none)) = some r := H
          have A6 := Aside0.mk A60
          clear A60
          by_cases c7 : x5_1.size + t173.size ≤ 9223372036854775807
          · rw [if_pos c7] at H
            have c7add : ∀ w_ : World, (Op.stringOp .add (x5_1) (t173)).run Try.prog w_ = .ok (.string ((x5_1) ++ (t173))) w_ := fun w_ => run_string_add_sum w_ _ _ c7
            have c7b0 := eq_true c7
            have c7b1 : decide (x5_1.size + t173.size ≤ 9223372036854775807) = true := decide_eq_true c7
            try have c7b2 : (9223372036854775807 < x5_1.size + t173.size) = False := eq_false (Nat.not_lt.2 c7)
            replace H := Option.bind_eq_some_iff.mp H
            obtain ⟨t175, A80, H⟩ := H
            replace H : (if (x5_1 ++ t173).size + t175.size ≤ 9223372036854775807 then (ringworkref25_all.l0 k1 t174 l1 ((x5_1 ++ t173) ++ t175) (wrap64 (x6_1 + 1))) else (none)) = some r := H
            have A8 := Aside0.mk A80
            clear A80
            by_cases c9 : (x5_1 ++ t173).size + t175.size ≤ 9223372036854775807
            · rw [if_pos c9] at H
              have c9add : ∀ w_ : World, (Op.stringOp .add ((x5_1 ++ t173)) (t175)).run Try.prog w_ = .ok (.string (((x5_1 ++ t173)) ++ (t175))) w_ := fun w_ => run_string_add_sum w_ _ _ c9
              have c9b0 := eq_true c9
              have c9b1 : decide ((x5_1 ++ t173).size + t175.size ≤ 9223372036854775807) = true := decide_eq_true c9
              try have c9b2 : (9223372036854775807 < (x5_1 ++ t173).size + t175.size) = False := eq_false (Nat.not_lt.2 c9)
              have H' := Aside0.mk H
              clear H
              have p172 : 0 ≤ (x6_1 : Int) := of_decide_eq_true (by first | (with_reducible assumption) | assumption)
              have q172 : x6_1 < (l1.length : Int) := of_decide_eq_true (by first | (with_reducible assumption) | assumption)
              obtain ⟨ad172, e172, hx172_0, hx172_1, hx172_2, hx172_3, hx172_4⟩ := at_T39 HR1.out x6_1 p172 q172
              cases e172
              replace hx172_0 := (HB.out.cell (World.block_lt_of_cell? w _ hx172_0)).trans hx172_0
              replace hx172_1 := (HB.out.cell (World.block_lt_of_cell? w _ hx172_1)).trans hx172_1
              replace hx172_2 := (HB.out.cell (World.block_lt_of_cell? w _ hx172_2)).trans hx172_2
              replace hx172_3 := (HB.out.cell (World.block_lt_of_cell? w _ hx172_3)).trans hx172_3
              replace hx172_4 := (HB.out.cell (World.block_lt_of_cell? w _ hx172_4)).trans hx172_4
              replace p172 := eq_true p172
              replace q172 := eq_true q172
              go_wp2_with (first | ((with_reducible refine gate_callee (f := 74) rfl ?_); refine goesL_ (some 18) rfl rfl Try.func74 (by kernel_rfl) rfl #[.agg #[.int .i64 ((rd_T39 l1 x6_1).f0), .int .i64 ((rd_T39 l1 x6_1).f1), .string ((rd_T39 l1 x6_1).f2), .bool ((rd_T39 l1 x6_1).f3), .string ((rd_T39 l1 x6_1).f4)]] rfl (by (try simp only [List.map_toArray, List.map_cons, List.map_nil]); first | done | rfl | (simp only [List.length_drop, List.length_take]; rfl)) ?_; (with_reducible refine (ringworkref25_written.calls ((rd_T39 l1 x6_1).f0) ((rd_T39 l1 x6_1).f1) ((rd_T39 l1 x6_1).f2) ((rd_T39 l1 x6_1).f3) ((rd_T39 l1 x6_1).f4) t173 _ A5.out).mono ?_); rintro e w10 ⟨rfl, hb⟩; refine ⟨_, rfl, ?_⟩; have n0_ := Aside0.mk (below_step (by repeat (first | (with_reducible first | exact HB.out | apply below_alloc | apply pw_below_drewN | apply below_drew1) | exact HB.out)) hb); clear HB; have HB := n0_; clear n0_; (try clear hb); (try clear hb2); (try clear hk); (try clear hi)) | ((with_reducible refine gate_callee (f := 31) rfl ?_); refine goesL_ (some 21) rfl rfl Try.func31 (by kernel_rfl) rfl #[.int .u64 x0_1, .string t173] rfl (by (try simp only [List.map_toArray, List.map_cons, List.map_nil]); first | done | rfl | (simp only [List.length_drop, List.length_take]; rfl)) ?_; (with_reducible refine (ringworkref25_Sum.calls x0_1 t173 t174 _ A6.out).mono ?_); rintro e w11 ⟨rfl, hb⟩; refine ⟨_, rfl, ?_⟩; have n0_ := Aside0.mk (below_step (by repeat (first | (with_reducible first | exact HB.out | apply below_alloc | apply pw_below_drewN | apply below_drew1) | exact HB.out)) hb); clear HB; have HB := n0_; clear n0_; (try clear hb); (try clear hb2); (try clear hk); (try clear hi)) | ((with_reducible refine gate_callee (f := 63) rfl ?_); refine goesL_ (some 26) rfl rfl Try.func63 (by kernel_rfl) rfl #[.int .u64 t174] rfl (by (try simp only [List.map_toArray, List.map_cons, List.map_nil]); first | done | rfl | (simp only [List.length_drop, List.length_take]; rfl)) ?_; (with_reducible refine (ringworkref25_eight.calls t174 t175 _ A8.out).mono ?_); rintro e w12 ⟨rfl, hb⟩; refine ⟨_, rfl, ?_⟩; have n0_ := Aside0.mk (below_step (by repeat (first | (with_reducible first | exact HB.out | apply below_alloc | apply pw_below_drewN | apply below_drew1) | exact HB.out)) hb); clear HB; have HB := n0_; clear n0_; (try clear hb); (try clear hb2); (try clear hk); (try clear hi)))
              go_roundg k1
              case measure => have := HK1.out; omega
              case rel => exact ⟨(t174), ((x5_1 ++ t173) ++ t175), (wrap64 (x6_1 + 1)), (by first | rfl | (simp; done) | (simp [*]; done)), (by first | rfl | (simp; done) | (simp [*]; done)), (by first | rfl | (simp; done) | (simp [*]; done)), H', ⟨by have := HK1.out; omega⟩, ⟨by repeat (first | (with_reducible first | exact HB.out | apply below_alloc | apply pw_below_drewN | apply below_drew1) | exact HB.out)⟩⟩
            · rw [if_neg c9] at H
              exact absurd H (by simp)
          · rw [if_neg c7] at H
            exact absurd H (by simp)
        · rw [if_neg c4] at H
          exact absurd H (by simp)
      · rw [if_neg c3] at H
        have c3b0 : decide (x6_1 < (l1.length : Int)) = false := decide_eq_false c3
        clear c3
        obtain rfl := Option.some.inj H
        go_wp2
        go_ret
        exact ⟨by first | rfl | (simp [errW_none, errW_some] <;> rfl) | (simp [*, errW_none, errW_some] <;> rfl), by repeat (first | (with_reducible first | exact HB.out | apply below_alloc | apply pw_below_drewN | apply below_drew1) | exact HB.out)⟩

/-! ### ringworkref25_Encode: function 26 -/
def ringworkref25_Encode.f (k : Nat) (l0 : List (S39)) : Option (ByteArray × Int) := (ringworkref25_notes.f k l0).bind fun t176 => (if t176 = true then ((ringworkref25_all.f k 0 l0).bind fun t177 => (if (t177.size : Int) > 65536 then (some ((⟨#[]⟩ : ByteArray), 3)) else (some (t177, 0)))) else (some ((⟨#[]⟩ : ByteArray), 1)))
set_option maxHeartbeats 8000000 in
set_option maxRecDepth 100000 in
theorem ringworkref25_Encode.calls (k : Nat) (A0 : Option Addr) (c0 : Nat) (l0 : List (S39)) (r1 : ByteArray) (r2 : Int) (w : World) (hr0 : Kd.C k39 w A0 l0.length l0) (hc0 : l0.length ≤ c0) (h : ringworkref25_Encode.f k l0 = some (r1, r2)) :
    Calls Try.prog 26 #[.slice A0 l0.length c0] w fun e w' => e = .returned (.tuple #[.string r1, .int .i64 r2]) ∧ Below w.heap.size w w' := by
  have HR0 := Aside0.mk hr0
  have HC0 := Aside0.mk hc0
  clear hr0 hc0
  have HB := Aside0.mk (Below.refl w.heap.size w)
  have H : ((ringworkref25_notes.f k l0).bind fun t176 => (if t176 = true then ((ringworkref25_all.f k 0 l0).bind fun t177 => (if (t177.size : Int) > 65536 then (some ((⟨#[]⟩ : ByteArray), 3)) else (some (t177, 0)))) else (some ((⟨#[]⟩ : ByteArray), 1)))) = some (r1, r2) := h
  clear h
  replace H := Option.bind_eq_some_iff.mp H
  obtain ⟨t176, A20, H⟩ := H
  replace H : (if t176 = true then ((ringworkref25_all.f k 0 l0).bind fun t177 => (if (t177.size : Int) > 65536 then (some ((⟨#[]⟩ : ByteArray), 3)) else (some (t177, 0)))) else (some ((⟨#[]⟩ : ByteArray), 1))) = some (r1, r2) := H
  have A2 := Aside0.mk A20
  clear A20
  by_cases c3 : t176 = true
  · subst c3
    have H1 : ((ringworkref25_all.f k 0 l0).bind fun t177 => (if (t177.size : Int) > 65536 then (some ((⟨#[]⟩ : ByteArray), 3)) else (some (t177, 0)))) = some (r1, r2) := by rw [if_pos rfl] at H; exact H
    clear H
    have H := H1
    clear H1
    replace H := Option.bind_eq_some_iff.mp H
    obtain ⟨t177, A40, H⟩ := H
    replace H : (if (t177.size : Int) > 65536 then (some ((⟨#[]⟩ : ByteArray), 3)) else (some (t177, 0))) = some (r1, r2) := H
    have A4 := Aside0.mk A40
    clear A40
    by_cases c5 : (t177.size : Int) > 65536
    · rw [if_pos c5] at H
      have c5b0 : decide (65536 < (t177.size : Int)) = true := decide_eq_true c5
      have c5b1 : decide (65536 < t177.size) = true := decide_eq_true (by omega)
      clear c5
      simp only [Option.some.injEq, Prod.mk.injEq] at H
      obtain ⟨rfl, rfl⟩ := H
      go_enter Try.func26, Try.ntmps26
      go_wp2_with (first | ((with_reducible refine gate_callee (f := 56) rfl ?_); refine goesL_ (some 6) rfl rfl Try.func56 (by kernel_rfl) rfl #[.slice A0 l0.length c0] rfl (by (try simp only [List.map_toArray, List.map_cons, List.map_nil]); first | done | rfl | (simp only [List.length_drop, List.length_take]; rfl)) ?_; (with_reducible refine (ringworkref25_notes.calls k _ _ l0 true _ ?side1 ?side2 A2.out).mono ?_); (case side1 => repeat (first | exact HR0.out | (with_reducible refine Kd.C_alloc ?_ _) | (with_reducible refine Kd.C_drewN ?_ _) | (with_reducible refine Kd.C_drew ?_))); (case side2 => exact HC0.out); rintro e w6 ⟨rfl, hb⟩; refine ⟨_, rfl, ?_⟩; have n0_ := Aside0.mk (below_step (by repeat (first | (with_reducible first | exact HB.out | apply below_alloc | apply pw_below_drewN | apply below_drew1) | exact HB.out)) hb); clear HB; have HB := n0_; clear n0_; (try clear hb); (try clear hb2); (try clear hk); (try clear hi)) | ((with_reducible refine gate_callee (f := 57) rfl ?_); refine goesL_ (some 9) rfl rfl Try.func57 (by kernel_rfl) rfl #[.int .u64 0, .slice A0 l0.length c0] rfl (by (try simp only [List.map_toArray, List.map_cons, List.map_nil]); first | done | rfl | (simp only [List.length_drop, List.length_take]; rfl)) ?_; (with_reducible refine (ringworkref25_all.calls k 0 _ _ l0 t177 _ ?side1 ?side2 A4.out).mono ?_); (case side1 => repeat (first | exact (Kd.C_below HR0.out HB.out) | (with_reducible refine Kd.C_alloc ?_ _) | (with_reducible refine Kd.C_drewN ?_ _) | (with_reducible refine Kd.C_drew ?_))); (case side2 => exact HC0.out); rintro e w7 ⟨rfl, hb⟩; refine ⟨_, rfl, ?_⟩; have n0_ := Aside0.mk (below_step (by repeat (first | (with_reducible first | exact HB.out | apply below_alloc | apply pw_below_drewN | apply below_drew1) | exact HB.out)) hb); clear HB; have HB := n0_; clear n0_; (try clear hb); (try clear hb2); (try clear hk); (try clear hi)))
      go_ret2
      exact ⟨by first | rfl | (simp [errW_none, errW_some] <;> rfl) | (simp [*, errW_none, errW_some] <;> rfl), by repeat (first | (with_reducible first | exact HB.out | apply below_alloc | apply pw_below_drewN | apply below_drew1) | exact HB.out)⟩
    · rw [if_neg c5] at H
      have c5b0 : decide (65536 < (t177.size : Int)) = false := decide_eq_false c5
      have c5b1 : decide (65536 < t177.size) = false := decide_eq_false (by omega)
      clear c5
      simp only [Option.some.injEq, Prod.mk.injEq] at H
      obtain ⟨rfl, rfl⟩ := H
      go_enter Try.func26, Try.ntmps26
      go_wp2_with (first | ((with_reducible refine gate_callee (f := 56) rfl ?_); refine goesL_ (some 6) rfl rfl Try.func56 (by kernel_rfl) rfl #[.slice A0 l0.length c0] rfl (by (try simp only [List.map_toArray, List.map_cons, List.map_nil]); first | done | rfl | (simp only [List.length_drop, List.length_take]; rfl)) ?_; (with_reducible refine (ringworkref25_notes.calls k _ _ l0 true _ ?side1 ?side2 A2.out).mono ?_); (case side1 => repeat (first | exact HR0.out | (with_reducible refine Kd.C_alloc ?_ _) | (with_reducible refine Kd.C_drewN ?_ _) | (with_reducible refine Kd.C_drew ?_))); (case side2 => exact HC0.out); rintro e w8 ⟨rfl, hb⟩; refine ⟨_, rfl, ?_⟩; have n0_ := Aside0.mk (below_step (by repeat (first | (with_reducible first | exact HB.out | apply below_alloc | apply pw_below_drewN | apply below_drew1) | exact HB.out)) hb); clear HB; have HB := n0_; clear n0_; (try clear hb); (try clear hb2); (try clear hk); (try clear hi)) | ((with_reducible refine gate_callee (f := 57) rfl ?_); refine goesL_ (some 9) rfl rfl Try.func57 (by kernel_rfl) rfl #[.int .u64 0, .slice A0 l0.length c0] rfl (by (try simp only [List.map_toArray, List.map_cons, List.map_nil]); first | done | rfl | (simp only [List.length_drop, List.length_take]; rfl)) ?_; (with_reducible refine (ringworkref25_all.calls k 0 _ _ l0 t177 _ ?side1 ?side2 A4.out).mono ?_); (case side1 => repeat (first | exact (Kd.C_below HR0.out HB.out) | (with_reducible refine Kd.C_alloc ?_ _) | (with_reducible refine Kd.C_drewN ?_ _) | (with_reducible refine Kd.C_drew ?_))); (case side2 => exact HC0.out); rintro e w9 ⟨rfl, hb⟩; refine ⟨_, rfl, ?_⟩; have n0_ := Aside0.mk (below_step (by repeat (first | (with_reducible first | exact HB.out | apply below_alloc | apply pw_below_drewN | apply below_drew1) | exact HB.out)) hb); clear HB; have HB := n0_; clear n0_; (try clear hb); (try clear hb2); (try clear hk); (try clear hi)))
      go_ret2
      exact ⟨by first | rfl | (simp [errW_none, errW_some] <;> rfl) | (simp [*, errW_none, errW_some] <;> rfl), by repeat (first | (with_reducible first | exact HB.out | apply below_alloc | apply pw_below_drewN | apply below_drew1) | exact HB.out)⟩
  · replace c3 := Bool.eq_false_iff.mpr c3
    subst c3
    have H1 : (some ((⟨#[]⟩ : ByteArray), 1)) = some (r1, r2) := by rw [if_neg (show ¬ (false = true) by decide)] at H; exact H
    clear H
    have H := H1
    clear H1
    simp only [Option.some.injEq, Prod.mk.injEq] at H
    obtain ⟨rfl, rfl⟩ := H
    go_enter Try.func26, Try.ntmps26
    go_wp2_with (first | ((with_reducible refine gate_callee (f := 56) rfl ?_); refine goesL_ (some 6) rfl rfl Try.func56 (by kernel_rfl) rfl #[.slice A0 l0.length c0] rfl (by (try simp only [List.map_toArray, List.map_cons, List.map_nil]); first | done | rfl | (simp only [List.length_drop, List.length_take]; rfl)) ?_; (with_reducible refine (ringworkref25_notes.calls k _ _ l0 false _ ?side1 ?side2 A2.out).mono ?_); (case side1 => repeat (first | exact HR0.out | (with_reducible refine Kd.C_alloc ?_ _) | (with_reducible refine Kd.C_drewN ?_ _) | (with_reducible refine Kd.C_drew ?_))); (case side2 => exact HC0.out); rintro e w10 ⟨rfl, hb⟩; refine ⟨_, rfl, ?_⟩; have n0_ := Aside0.mk (below_step (by repeat (first | (with_reducible first | exact HB.out | apply below_alloc | apply pw_below_drewN | apply below_drew1) | exact HB.out)) hb); clear HB; have HB := n0_; clear n0_; (try clear hb); (try clear hb2); (try clear hk); (try clear hi)))
    go_ret2
    exact ⟨by first | rfl | (simp [errW_none, errW_some] <;> rfl) | (simp [*, errW_none, errW_some] <;> rfl), by repeat (first | (with_reducible first | exact HB.out | apply below_alloc | apply pw_below_drewN | apply below_drew1) | exact HB.out)⟩

end Go.Proofs.Yteblpjnkinghoaa.J
/- A note's bytes, and what a valid note is like. -/
set_option linter.unusedVariables false
set_option linter.unusedSimpArgs false
namespace Go.Proofs.Yteblpjnkinghoaa.J
open Go.RowKit Go.Proofs.YteblpjnkinghoaaW.PrintWords Go.Proofs.YteblpjnkinghoaaW.PrintLast Go.Proofs.YteblpjnkinghoaaW.PrintMore
/-- A note's bytes up to its sum. -/
def wr (n : S39) : ByteArray := wrL n.f0 n.f1 n.f2 n.f3 n.f4
theorem wr_size (n : S39) : (wr n).size = 8 + n.f2.size + n.f4.size := by
  unfold wr wrL
  rw [strOfNums_size]
  simp only [List.length_append, List.length_cons, List.length_nil, bytesOf_length]
  omega
/-- The notes' bytes behind a sum. -/
def allB : Int → List S39 → ByteArray
  | _, [] => ⟨#[]⟩
  | last, n :: l => (wr n ++ eightS (sumF last (wr n))) ++ allB (sumF last (wr n)) l
theorem plain_facts {f0 f1 : Int} {f2 : ByteArray} {f3 : Bool} {f4 : ByteArray} (h : (journal_plain.f f0 f1 f2 f3 f4).getD false = true) : 1 ≤ f1 ∧ f1 ≤ 1000 ∧ f2.size = 0 ∧ f3 = false ∧ f4.size = 0 := by
  unfold journal_plain.f journal_unit.f at h
  by_cases a1 : 1 ≤ f1
  · by_cases a2 : f1 ≤ 1000
    · by_cases a3 : f2.toList = []
      · cases f3
        · simp [a1, a2, a3] at h
          exact ⟨a1, a2, (toList_nil_iff f2).1 a3, rfl, (toList_nil_iff f4).1 h⟩
        · simp [a1, a2, a3] at h
      · simp [a1, a2, a3] at h
    · simp [a1, a2] at h
  · simp [a1] at h
theorem imaged_facts {f0 f1 : Int} {f2 : ByteArray} {f3 : Bool} {f4 : ByteArray} (h : (journal_imaged.f f0 f1 f2 f3 f4).getD false = true) : 1 ≤ f1 ∧ f1 ≤ 1000 ∧ 1 ≤ f2.size ∧ f2.size ≤ 40 ∧ f4.size ≤ 4000 ∧ (f3 = false → f4.size = 0) := by
  unfold journal_imaged.f journal_unit.f at h
  by_cases a1 : 1 ≤ f1
  · by_cases a2 : f1 ≤ 1000
    · by_cases a3 : f2.toList = []
      · simp [a1, a2, a3] at h
      · have a3' : f2.size ≠ 0 := fun e => a3 ((toList_nil_iff f2).2 e)
        by_cases a4 : (f2.size : Int) ≤ 40
        · by_cases a5 : (f4.size : Int) ≤ 4000
          · cases f3
            · simp [a1, a2, a3, a4, a5] at h
              exact ⟨a1, a2, by omega, by omega, by omega, fun _ => (toList_nil_iff f4).1 h⟩
            · exact ⟨a1, a2, by omega, by omega, by omega, fun h => by cases h⟩
          · simp [a1, a2, a3, a4, a5] at h
        · simp [a1, a2, a3, a4] at h
    · simp [a1, a2] at h
  · simp [a1] at h
theorem named_facts {f0 f1 : Int} {f2 : ByteArray} {f3 : Bool} {f4 : ByteArray} (h : (journal_named.f f0 f1 f2 f3 f4).getD false = true) : f1 = 0 ∧ f2.size = 0 ∧ f3 = false ∧ 1 ≤ f4.size ∧ f4.size ≤ 40 := by
  unfold journal_named.f at h
  by_cases a1 : f1 = 0
  · by_cases a2 : f2.toList = []
    · cases f3
      · by_cases a3 : f4.toList = []
        · simp [a1, a2, a3] at h
        · have a3' : f4.size ≠ 0 := fun e => a3 ((toList_nil_iff f4).2 e)
          simp [a1, a2, a3] at h
          exact ⟨a1, (toList_nil_iff f2).1 a2, rfl, by omega, by omega⟩
      · simp [a1, a2] at h
    · simp [a1, a2] at h
  · simp [a1] at h
/-- What a valid note is like. -/
structure VNote (n : S39) : Prop where
  k1 : 1 ≤ n.f0
  k7 : n.f0 ≤ 7
  named : n.f0 = 6 → n.f1 = 0 ∧ n.f2.size = 0 ∧ n.f3 = false ∧ 1 ≤ n.f4.size ∧ n.f4.size ≤ 40
  imaged : n.f0 = 2 ∨ n.f0 = 3 → 1 ≤ n.f1 ∧ n.f1 ≤ 1000 ∧ 1 ≤ n.f2.size ∧ n.f2.size ≤ 40 ∧ n.f4.size ≤ 4000 ∧ (n.f3 = false → n.f4.size = 0)
  plain : n.f0 ≠ 6 → ¬ (n.f0 = 2 ∨ n.f0 = 3) → 1 ≤ n.f1 ∧ n.f1 ≤ 1000 ∧ n.f2.size = 0 ∧ n.f3 = false ∧ n.f4.size = 0
theorem vld_note {n : S39} (h : vld n = true) : VNote n := by
  unfold vld journal_Valid.f at h
  by_cases h1 : n.f0 < 1
  · rw [if_pos h1] at h; cases h
  rw [if_neg h1] at h
  by_cases h7 : 7 < n.f0
  · rw [if_pos h7] at h; cases h
  rw [if_neg h7] at h
  by_cases h23 : n.f0 = 2 ∨ n.f0 = 3
  · rw [if_pos h23] at h
    exact ⟨by omega, by omega, fun _ => by omega, fun _ => imaged_facts h, fun _ hn => absurd h23 hn⟩
  · rw [if_neg h23] at h
    by_cases h6 : n.f0 = 6
    · rw [if_pos h6] at h
      exact ⟨by omega, by omega, fun _ => named_facts h, fun h => absurd h h23, fun hn => absurd h6 hn⟩
    · rw [if_neg h6] at h
      exact ⟨by omega, by omega, fun h => absurd h h6, fun h => absurd h h23, fun _ _ => plain_facts h⟩
theorem vld_sizes {n : S39} (h : vld n = true) : n.f2.size ≤ 40 ∧ n.f4.size ≤ 4000 := by
  have hn := vld_note h
  by_cases h6 : n.f0 = 6
  · have := hn.named h6; omega
  · by_cases h23 : n.f0 = 2 ∨ n.f0 = 3
    · have := hn.imaged h23; omega
    · have := hn.plain h6 h23; omega
theorem ref_written (n : S39) (h : vld n = true) : ringworkref25_written.f n.f0 n.f1 n.f2 n.f3 n.f4 = some (wr n) := by
  have hn := vld_note h
  have hs := vld_sizes h
  have h1 := hn.k1
  have h7 := hn.k7
  have hu : 0 ≤ n.f1 ∧ n.f1 ≤ 1000 := by
    by_cases h6 : n.f0 = 6
    · have := hn.named h6; omega
    · by_cases h23 : n.f0 = 2 ∨ n.f0 = 3
      · have := hn.imaged h23; omega
      · have := hn.plain h6 h23; omega
  unfold ringworkref25_written.f
  rw [if_pos ⟨⟨h1, h7⟩, hu, by omega, by omega⟩]
  rfl
theorem empty_append (a : ByteArray) : (⟨#[]⟩ : ByteArray) ++ a = a := by
  apply ByteArray.ext; simp
theorem append_empty (a : ByteArray) : a ++ (⟨#[]⟩ : ByteArray) = a := by
  apply ByteArray.ext; simp
theorem vld_unit {n : S39} (h : vld n = true) : 0 ≤ n.f1 ∧ n.f1 ≤ 1000 := by
  have hn := vld_note h
  by_cases h6 : n.f0 = 6
  · have := hn.named h6; omega
  · by_cases h23 : n.f0 = 2 ∨ n.f0 = 3
    · have := hn.imaged h23; omega
    · have := hn.plain h6 h23; omega
theorem body_note (n : S39) (h : vld n = true) (w : World) : Calls Try.prog 80 #[.agg #[.int .i64 n.f0, .int .i64 n.f1, .string n.f2, .bool n.f3, .string n.f4]] w fun e w' => e = .returned (.string (wr n)) ∧ Below w.heap.size w w' := by
  have hn := vld_note h
  have hs := vld_sizes h
  exact body_calls n.f0 n.f1 n.f2 n.f3 n.f4 w ⟨hn.k1, hn.k7⟩ (vld_unit h) (by omega) (by omega)
end Go.Proofs.Yteblpjnkinghoaa.J
/- What Encode answers: the notes' bytes. The reference's written, all and Encode. -/
set_option linter.unusedVariables false
set_option linter.unusedSimpArgs false
namespace Go.Proofs.Yteblpjnkinghoaa.J
open Go.RowKit Go.Proofs.YteblpjnkinghoaaW.PrintWords Go.Proofs.YteblpjnkinghoaaW.PrintLast Go.Proofs.YteblpjnkinghoaaW.PrintMore
/-- The guard on notes. -/
theorem notes_guard_from (l : List S39) (hl : l.length ≤ 9223372036854775807) : ∀ (d i : Nat), d = 60 - i → i ≤ 60 → ∀ s : Int, ∃ b, Ev (fun k => ringworklaw25_Notes.l0 k l s (i : Int)) b ∧ (b = true → l.length ≤ 60) := by
  intro d
  induction d with
  | zero =>
    intro i hd hi s
    have : i = 60 := by omega
    subst this
    by_cases hn : (l.length : Int) ≤ 60
    · exact ⟨_, Ev.step (fun k => by rw [ringworklaw25_Notes.l0, if_neg (by omega), if_pos hn]) (Ev.val (decide (s ≤ 6000))), fun _ => by omega⟩
    · exact ⟨false, Ev.step (fun k => by rw [ringworklaw25_Notes.l0, if_pos (by omega), if_neg (by decide), if_neg hn]) (Ev.val false), fun h => by cases h⟩
  | succ d ih =>
    intro i hd hi s
    by_cases hlt : i < l.length
    · obtain ⟨b, hb, hbb⟩ := ih (i + 1) (by omega) (by omega) (wrap64 ((wrap64 (s + (((rd_T39 l (i : Int)).f2).size : Int))) + (((rd_T39 l (i : Int)).f4).size : Int)))
      refine ⟨b, Ev.step (fun k => by rw [ringworklaw25_Notes.l0, if_pos (by omega), if_pos (by omega), if_pos (by omega), wrap_nx hlt hl]) hb, hbb⟩
    · exact ⟨_, Ev.step (fun k => by rw [ringworklaw25_Notes.l0, if_neg (by omega), if_pos (by omega)]) (Ev.val (decide (s ≤ 6000))), fun _ => by omega⟩
theorem notes_guard (l : List S39) (hl : l.length ≤ 9223372036854775807) : ∃ b, Ev (fun k => ringworklaw25_Notes.f k l) b ∧ (b = true → l.length ≤ 60) := notes_guard_from l hl 60 0 rfl (by omega) 0
theorem ref_all_from (l : List S39) (hv : ∀ n ∈ l, vld n = true) (hl : l.length ≤ 1000) : ∀ (d i : Nat), d = l.length - i → i ≤ l.length → ∀ (last : Int) (out : ByteArray), out.size ≤ 10000 * i →
    Ev (fun k => ringworkref25_all.l0 k last l out (i : Int)) (out ++ allB last (l.drop i))
  | 0, i, hd, hi, last, out, ho => by
    have : i = l.length := by omega
    subst this
    rw [List.drop_length, allB, append_empty]
    exact Ev.step (fun k => by rw [ringworkref25_all.l0, if_neg (by omega)]) (Ev.val _)
  | d + 1, i, hd, hi, last, out, ho => by
    have hlt : i < l.length := by omega
    have hm : rd_T39 l (i : Int) ∈ l := by
      unfold rd_T39
      rw [Int.toNat_natCast, List.getD_eq_getElem?_getD, List.getElem?_eq_getElem hlt]
      exact List.getElem_mem hlt
    have hs := vld_sizes (hv _ hm)
    have hw := wr_size (rd_T39 l (i : Int))
    rw [drop_rd hlt, allB]
    have hsum : ringworkref25_Sum.f last (wr (rd_T39 l (i : Int))) = some (sumF last (wr (rd_T39 l (i : Int)))) := by
      unfold ringworkref25_Sum.f; rw [if_pos (by omega)]
    have h8 := eightS_size (sumF last (wr (rd_T39 l (i : Int))))
    refine Ev.step (fun k => by rw [ringworkref25_all.l0, if_pos (by omega), if_pos (by omega), ref_written _ (hv _ hm), Option.bind_some, hsum, Option.bind_some, if_pos (by omega), ringworkref25_eight.f, Option.bind_some, if_pos (by rw [ByteArray.size_append, h8]; omega), wrap_nx hlt (by omega)]) ?_
    have := ref_all_from l hv hl d (i + 1) (by omega) (by omega) (sumF last (wr (rd_T39 l (i : Int)))) ((out ++ wr (rd_T39 l (i : Int))) ++ eightS (sumF last (wr (rd_T39 l (i : Int))))) (by rw [ByteArray.size_append, ByteArray.size_append, h8]; omega)
    rw [ByteArray.append_assoc, ByteArray.append_assoc] at this
    rw [ByteArray.append_assoc]
    exact this
theorem ref_all (last : Int) (l : List S39) (hv : ∀ n ∈ l, vld n = true) (hl : l.length ≤ 1000) : Ev (fun k => ringworkref25_all.f k last l) (allB last l) := by
  have := ref_all_from l hv hl l.length 0 (by omega) (by omega) last ⟨#[]⟩ (Nat.le_of_eq rfl)
  rw [empty_append, List.drop_zero] at this
  exact this
/-- What Encode answers. -/
def encV (l : List S39) : ByteArray × Int := if (decide (l.length ≤ 1000) && l.all vld) = true then (if ((allB 0 l).size : Int) > 65536 then (⟨#[]⟩, 3) else (allB 0 l, 0)) else (⟨#[]⟩, 1)
theorem ref_Encode (l : List S39) (hl : l.length ≤ 9223372036854775807) : Ev (fun k => ringworkref25_Encode.f k l) (encV l) := by
  unfold ringworkref25_Encode.f encV
  refine Ev.bind (ref_notes l hl) ?_
  by_cases hv : (decide (l.length ≤ 1000) && l.all vld) = true
  · simp only [if_pos hv]
    rw [Bool.and_eq_true, decide_eq_true_eq] at hv
    refine Ev.bind (ref_all 0 l (fun n hn => List.all_eq_true.1 hv.2 n hn) hv.1) ?_
    exact Ev.congr (Ev.val _) (fun k => by split <;> rfl)
  · simp only [if_neg hv]
    exact Ev.val _
theorem encV_size (l : List S39) (h : (encV l).2 = 0) : (encV l).1.size ≤ 65536 := by
  unfold encV at h ⊢
  split
  · rename_i hc
    rw [if_pos hc] at h
    split
    · rename_i hs; rw [if_pos hs] at h; exact absurd h (by decide)
    · rename_i hs; simp only; omega
  · exact Nat.zero_le _
end Go.Proofs.Yteblpjnkinghoaa.J
/- The reference's Decode is the program's; SameNotes of a list and itself; the sanity check. -/
set_option linter.unusedVariables false
set_option linter.unusedSimpArgs false
namespace Go.Proofs.Yteblpjnkinghoaa.J
open Go.RowKit Go.Proofs.YteblpjnkinghoaaW.PrintWords Go.Proofs.YteblpjnkinghoaaW.PrintLast Go.Proofs.YteblpjnkinghoaaW.PrintMore
theorem awake_true : ringworklaw25_awake.f = some true := by kernel_rfl
theorem wrap_up {k n : Nat} (h : k < n) (hn : n ≤ 9223372036854775807) : wrap64 ((k : Int) + 1) = ((k + 1 : Nat) : Int) := by unfold wrap64; omega
theorem same_notes_from (a : List S39) (hl : a.length ≤ 9223372036854775807) : ∀ (d i : Nat), d = a.length - i → i ≤ a.length → Ev (fun k => ringworkref25_SameNotes.l0 k a a (i : Int)) true
  | 0, i, hd, hi => by
    have : i = a.length := by omega
    subst this
    exact Ev.step (fun k => by rw [ringworkref25_SameNotes.l0, if_neg (by omega)]) (Ev.val _)
  | d + 1, i, hd, hi => by
    have hlt : i < a.length := by omega
    refine Ev.step (fun k => by rw [ringworkref25_SameNotes.l0, if_pos (by omega), if_pos (by omega), if_pos (by omega), if_neg (by simp)]) ?_
    rw [wrap_up hlt hl]
    exact same_notes_from a hl d (i + 1) (by omega) (by omega)
theorem same_notes (a : List S39) (hl : a.length ≤ 9223372036854775807) : Ev (fun k => ringworkref25_SameNotes.f k a a) true := by
  unfold ringworkref25_SameNotes.f
  simp only [if_true]
  exact same_notes_from a hl a.length 0 (by omega) (by omega)
theorem rest_extract (s : ByteArray) (i : Int) (h0 : 0 ≤ i) (h1 : i ≤ (s.size : Int)) : Rest s (s.extract i.toNat s.size) i where
  i0 := h0
  sz := by rw [ByteArray.size_extract]; omega
  bt_ := by
    intro j j0 j1
    rw [ByteArray.size_extract] at j1
    have := bt_extract s i.toNat s.size j.toNat (by omega) (Nat.le_refl _)
    rw [show ((j.toNat : Nat) : Int) = j by omega, show ((i.toNat + j.toNat : Nat) : Int) = i + j by omega] at this
    exact this
  ex := by
    intro a b a0 ab hb
    rw [ByteArray.size_extract] at hb
    rw [ByteArray.extract_extract, show i.toNat + a.toNat = (i + a).toNat by omega, show min (i.toNat + b.toNat) s.size = (i + b).toNat by omega]
theorem ref_decode (s : ByteArray) (hs : s.size ≤ 65536) : ∀ (m : Nat) (i sum : Int) (pre : List S39), 0 ≤ i → i ≤ (s.size : Int) → (s.size : Int) - i < m → (pre.length : Int) ≤ i →
    Ev (fun k => ringworkref25_Decode.l0 k s pre i sum) (pre ++ (decGo s m i sum).1, (decGo s m i sum).2.1, (decGo s m i sum).2.2.2.1, (decGo s m i sum).2.2.1, (decGo s m i sum).2.2.2.2) := by
  intro m
  induction m with
  | zero => intro i sum pre h0 h1 h2; omega
  | succ m ih =>
    intro i sum pre h0 h1 h2 hp
    by_cases hlt : i < (s.size : Int)
    · have hsame := look_peek (rest_extract s i h0 h1) sum
      have hsz : (s.extract i.toNat s.size).size ≤ 1000000 := by rw [ByteArray.size_extract]; omega
      have hlk : ringworkref25_look.f (s.extract i.toNat s.size) sum = some ((lookF (s.extract i.toNat s.size) sum).1.f0, (lookF (s.extract i.toNat s.size) sum).1.f1, (lookF (s.extract i.toNat s.size) sum).1.f2, (lookF (s.extract i.toNat s.size) sum).1.f3, (lookF (s.extract i.toNat s.size) sum).1.f4, (lookF (s.extract i.toNat s.size) sum).2.1, (lookF (s.extract i.toNat s.size) sum).2.2.1, (lookF (s.extract i.toNat s.size) sum).2.2.2) := by
        unfold ringworkref25_look.f; rw [if_pos hsz]
      refine Ev.step (fun k => by rw [ringworkref25_Decode.l0, if_pos hlt, if_pos h0, if_pos h1, hlk, Option.bind_some]) ?_
      rw [decGo, if_pos hlt]
      cases hpk : peek s i sum with
      | torn =>
        rw [hpk] at hsame
        obtain ⟨n, hn⟩ := hsame
        simp only [hn, if_true, List.append_nil]
        exact Ev.val _
      | wrong =>
        rw [hpk] at hsame
        obtain ⟨n, hn⟩ := hsame
        simp only [hn, if_true, List.append_nil, Bool.false_eq_true, if_false]
        exact Ev.val _
      | ok n sm fin =>
        rw [hpk] at hsame
        have hn : lookF (s.extract i.toNat s.size) sum = (n, fin - i, sm, false) := hsame
        have hf := peek_fin h0 hpk
        simp only [hn, Bool.false_eq_true, if_false]
        simp only [if_neg (show ¬ fin - i = 0 by omega), if_pos (show pre.length < 2513169434916 by omega), show wrap64 (i + (fin - i)) = fin by unfold wrap64; omega]
        have := ih fin sm (pre ++ [n]) (by omega) hf.2 (by omega) (by rw [List.length_append]; simp; omega)
        rw [List.append_assoc, List.singleton_append] at this
        exact this
    · refine Ev.step (fun k => by rw [ringworkref25_Decode.l0, if_neg hlt]) ?_
      rw [decGo, if_neg hlt]
      simp only [List.append_nil]
      exact Ev.val _
/-- How many notes there can be. -/
theorem decGo_len (s : ByteArray) : ∀ (m : Nat) (i sum : Int), 0 ≤ i → i ≤ (s.size : Int) → ((decGo s m i sum).1.length : Int) ≤ s.size - i := by
  intro m
  induction m with
  | zero => intro i sum h0 h1; simp [decGo]; omega
  | succ m ih =>
    intro i sum h0 h1
    rw [decGo]
    split
    · cases hpk : peek s i sum with
      | torn => simp; omega
      | wrong => simp; omega
      | ok n sm fin =>
        have hf := peek_fin h0 hpk
        have := ih fin sm (by omega) hf.2
        simp only [List.length_cons]
        push_cast
        omega
    · simp; omega
/-- The reference's Decode and the program's. -/
theorem dec_prog (s : ByteArray) (hs : s.size ≤ 65536) : journal_Decode.f s = some ((decGo s (s.size + 1) 0 0).1, (decGo s (s.size + 1) 0 0).2.1, (decGo s (s.size + 1) 0 0).2.2.2.1, (decGo s (s.size + 1) 0 0).2.2.2.2) := by
  unfold journal_Decode.f
  rw [if_neg (by omega)]
theorem dec_ref (s : ByteArray) (hs : s.size ≤ 65536) : Ev (fun k => ringworkref25_Decode.f k s) ((decGo s (s.size + 1) 0 0).1, (decGo s (s.size + 1) 0 0).2.1, (decGo s (s.size + 1) 0 0).2.2.2.1, (decGo s (s.size + 1) 0 0).2.2.1, (decGo s (s.size + 1) 0 0).2.2.2.2) := by
  unfold ringworkref25_Decode.f
  simp only [if_neg (show ¬ (s.size : Int) > 65536 by omega)]
  exact ref_decode s hs (s.size + 1) 0 0 [] (by omega) (by omega) (by omega) (by simp)
end Go.Proofs.Yteblpjnkinghoaa.J
/- What is read of a beginning of bytes is read of the bytes. -/
set_option linter.unusedVariables false
set_option linter.unusedSimpArgs false
namespace Go.Proofs.Yteblpjnkinghoaa.J
open Go.RowKit Go.Proofs.YteblpjnkinghoaaW.PrintWords Go.Proofs.YteblpjnkinghoaaW.PrintLast Go.Proofs.YteblpjnkinghoaaW.PrintMore
/-- p is a beginning of t. -/
structure Pre (p t : ByteArray) : Prop where
  sz : p.size ≤ t.size
  bt_ : ∀ j : Int, 0 ≤ j → j < (p.size : Int) → bt t j = bt p j
  ex : ∀ a b : Int, 0 ≤ a → a ≤ b → b ≤ (p.size : Int) → t.extract a.toNat b.toNat = p.extract a.toNat b.toNat
theorem Pre.of (t : ByteArray) (k : Nat) (hk : k ≤ t.size) : Pre (t.extract 0 k) t where
  sz := by rw [ByteArray.size_extract]; omega
  bt_ := by
    intro j j0 j1
    rw [ByteArray.size_extract] at j1
    have := bt_extract t 0 k j.toNat (by omega) hk
    rw [show ((j.toNat : Nat) : Int) = j by omega, show ((0 + j.toNat : Nat) : Int) = j by omega] at this
    exact this.symm
  ex := by
    intro a b a0 ab hb
    rw [ByteArray.size_extract] at hb
    rw [ByteArray.extract_extract, show 0 + a.toNat = a.toNat by omega, show min (0 + b.toNat) k = b.toNat by omega]
def Low (o o' : Out) : Prop := o = .torn ∨ o = o'
theorem low_if {cp ct : Prop} [Decidable cp] [Decidable ct] {A B : Out} (h : cp → ct) (hA : cp → Low A B) : Low (if cp then A else .torn) (if ct then B else .torn) := by
  by_cases c : cp
  · rw [if_pos c, if_pos (h c)]; exact hA c
  · rw [if_neg c]; exact Or.inl rfl
theorem low_same {c : Prop} [Decidable c] {A B : Out} (hA : c → Low A B) : Low (if c then A else .wrong) (if c then B else .wrong) := by
  by_cases h : c
  · rw [if_pos h, if_pos h]; exact hA h
  · rw [if_neg h, if_neg h]; exact Or.inr rfl
theorem low_tail {p t : ByteArray} (h : Pre p t) (e : ByteArray) (n : S39) (sum i : Int) (hi : 0 ≤ i) : ∀ m : Nat, m ≤ 8 → Low (tailOut p e n sum i m) (tailOut t e n sum i m) := by
  have hs := h.sz
  intro m
  induction m with
  | zero => intro _; exact Or.inr rfl
  | succ m ih =>
    intro hm
    simp only [tailOut]
    by_cases c : (p.size : Int) ≤ i + (8 - (m + 1 : Nat))
    · rw [if_pos c]; exact Or.inl rfl
    · rw [if_neg c, if_neg (show ¬ (t.size : Int) ≤ i + (8 - ((m + 1 : Nat) : Int)) by omega), h.bt_ _ (by omega) (by omega)]
      exact low_same (fun _ => ih (by omega))
theorem low_peek {p t : ByteArray} (h : Pre p t) (i last : Int) (hi : 0 ≤ i) : Low (peek p i last) (peek t i last) := by
  have hs := h.sz
  unfold peek
  refine low_if (fun _ => by omega) fun c0 => ?_
  rw [h.bt_ i (by omega) c0]
  by_cases hj : bt p i = 74
  rotate_left
  · rw [if_neg hj, if_neg hj]; exact Or.inr rfl
  rw [if_pos hj, if_pos hj]
  unfold peek1
  refine low_if (fun _ => by omega) fun c1 => ?_
  rw [h.bt_ (i + 1) (by omega) c1]
  refine low_same fun _ => ?_
  generalize bt p (i + 1) = kd
  unfold peek2
  refine low_if (fun _ => by omega) fun c2 => ?_
  rw [h.bt_ (i + 2) (by omega) c2]
  refine low_same fun _ => low_if (fun _ => by omega) fun c3 => ?_
  rw [h.bt_ (i + 3) (by omega) c3]
  generalize bt p (i + 2) * 256 + bt p (i + 3) = u
  unfold peek3
  refine low_same fun _ => low_if (fun _ => by omega) fun c4 => ?_
  rw [h.bt_ (i + 4) (by omega) c4]
  have hk := bt_range p (i + 4)
  generalize bt p (i + 4) = k at hk ⊢
  unfold peek4
  refine low_same fun _ => low_if (fun _ => by omega) fun c5 => ?_
  rw [h.bt_ (i + 5 + k) (by omega) c5]
  generalize bt p (i + 5 + k) = has
  unfold peek5
  refine low_same fun _ => ?_
  generalize (if kd = 6 then 40 else if has = 1 then 4000 else (0 : Int)) = most
  unfold peek6
  refine low_if (fun _ => by omega) fun c6 => ?_
  rw [h.bt_ (i + 6 + k) (by omega) c6]
  refine low_same fun _ => low_if (fun _ => by omega) fun c7 => ?_
  rw [h.bt_ (i + 7 + k) (by omega) c7]
  have ht : 0 ≤ bt p (i + 6 + k) * 256 + bt p (i + 7 + k) := by
    have h1 := bt_range p (i + 6 + k)
    have h2 := bt_range p (i + 7 + k)
    omega
  generalize bt p (i + 6 + k) * 256 + bt p (i + 7 + k) = tt at ht ⊢
  unfold peek7
  refine low_same fun _ => low_if (fun _ => by omega) fun c8 => ?_
  unfold peek8
  rw [h.ex i (i + 8 + k + tt) (by omega) (by omega) c8, h.ex (i + 5) (i + 5 + k) (by omega) (by omega) (by omega), h.ex (i + 8 + k) (i + 8 + k + tt) (by omega) (by omega) c8]
  exact low_tail h _ _ _ _ (by omega) 8 (Nat.le_refl _)
theorem dec_used (s : ByteArray) : ∀ (m : Nat) (i sum : Int), 0 ≤ i → i ≤ (decGo s m i sum).2.1 := by
  intro m
  induction m with
  | zero => intro i sum _; exact Int.le_refl _
  | succ m ih =>
    intro i sum h0
    rw [decGo]
    split
    · cases hpk : peek s i sum with
      | torn => exact Int.le_refl _
      | wrong => exact Int.le_refl _
      | ok n sm fin =>
        have hf := peek_fin h0 hpk
        have := ih fin sm (by omega)
        simp only
        omega
    · exact Int.le_refl _
/-- Where nothing is wrong, a part is left just where not all is used. -/
theorem dec_torn (s : ByteArray) : ∀ (m : Nat) (i sum : Int), 0 ≤ i → i ≤ (s.size : Int) → (s.size : Int) - i < m → (decGo s m i sum).2.2.2.2 = 0 → (decGo s m i sum).2.2.2.1 = decide ((decGo s m i sum).2.1 < (s.size : Int)) := by
  intro m
  induction m with
  | zero => intro i sum h0 h1 h2; omega
  | succ m ih =>
    intro i sum h0 h1 h2 he
    rw [decGo] at he ⊢
    by_cases c : i < (s.size : Int)
    · rw [if_pos c] at he ⊢
      cases hpk : peek s i sum with
      | torn => exact (decide_eq_true c).symm
      | wrong =>
        rw [hpk] at he
        have he : (12 : Int) = 0 := he
        omega
      | ok n sm fin =>
        rw [hpk] at he
        have hf := peek_fin h0 hpk
        exact ih fin sm (by omega) hf.2 (by omega) he
    · rw [if_neg c]
      exact (decide_eq_false c).symm
theorem dec_pre {p t : ByteArray} (h : Pre p t) : ∀ (m : Nat) (i sum : Int) (m' : Nat), 0 ≤ i → i ≤ (p.size : Int) → (p.size : Int) - i < m → (t.size : Int) - i < m' →
    (decGo p m i sum).1 <+: (decGo t m' i sum).1 ∧ (decGo p m i sum).2.1 ≤ (decGo t m' i sum).2.1 ∧ ((decGo t m' i sum).2.2.2.2 = 0 → (decGo p m i sum).2.2.2.2 = 0) := by
  have hs := h.sz
  intro m
  induction m with
  | zero => intro i sum m' h0 h1 h2; omega
  | succ m ih =>
    intro i sum m' h0 h1 h2 h3
    have hu := dec_used t m' i sum h0
    rw [decGo]
    by_cases c : i < (p.size : Int)
    · rw [if_pos c]
      rcases low_peek h i sum h0 with hl | hl
      · rw [hl]
        exact ⟨List.nil_prefix, hu, fun _ => rfl⟩
      · obtain ⟨j, rfl⟩ : ∃ j, m' = j + 1 := ⟨m' - 1, by omega⟩
        rw [decGo, if_pos (show i < (t.size : Int) by omega)] at hu ⊢
        rw [← hl] at hu ⊢
        cases hpk : peek p i sum with
        | torn => exact ⟨List.nil_prefix, Int.le_refl _, fun _ => rfl⟩
        | wrong => exact ⟨List.nil_prefix, Int.le_refl _, fun h => h⟩
        | ok n sm fin =>
          have hf := peek_fin h0 hpk
          have := ih fin sm j (by omega) hf.2 (by omega) (by omega)
          exact ⟨(List.prefix_cons_inj n).2 this.1, this.2⟩
    · rw [if_neg c]
      exact ⟨List.nil_prefix, hu, fun _ => rfl⟩
end Go.Proofs.Yteblpjnkinghoaa.J
/- JournalDamage, the plain law. -/
set_option linter.unusedVariables false
set_option linter.unusedSimpArgs false
namespace Go.Proofs.Yteblpjnkinghoaa.J
open Go.RowKit Go.Proofs.YteblpjnkinghoaaW.PrintWords Go.Proofs.YteblpjnkinghoaaW.PrintLast Go.Proofs.YteblpjnkinghoaaW.PrintMore
/-- A place drawn out of a number. -/
theorem place (x : Int) (n : Nat) (h0 : 0 < n) (hn : n ≤ 100000) : ∃ q : Nat, q < n ∧ wrap64 (Int.tmod (IntKind.u64.wrap x) (IntKind.u64.wrap (n : Int))) = (q : Int) := by
  have hw : IntKind.u64.wrap (n : Int) = (n : Int) := by simp [IntKind.wrap, IntKind.bits, IntKind.signed]; omega
  have hx : 0 ≤ IntKind.u64.wrap x := by simp [IntKind.wrap, IntKind.bits, IntKind.signed]; omega
  rw [hw]
  generalize IntKind.u64.wrap x = y at hx
  have h1 : 0 ≤ Int.tmod y n := Int.tmod_nonneg _ hx
  have h2 : Int.tmod y n < n := Int.tmod_lt_of_pos _ (by omega)
  refine ⟨(Int.tmod y n).toNat, by omega, ?_⟩
  unfold wrap64
  omega
theorem wrap_size {n : Nat} (hn : n ≤ 100000) : IntKind.u64.wrap (n : Int) = (n : Int) := by simp [IntKind.wrap, IntKind.bits, IntKind.signed]; omega
end Go.Proofs.Yteblpjnkinghoaa.J
/- What is encoded is decoded. -/
set_option linter.unusedVariables false
set_option linter.unusedSimpArgs false
namespace Go.Proofs.Yteblpjnkinghoaa.J
open Go.RowKit Go.Proofs.YteblpjnkinghoaaW.PrintWords Go.Proofs.YteblpjnkinghoaaW.PrintLast Go.Proofs.YteblpjnkinghoaaW.PrintMore
theorem ext_left (a b : ByteArray) : (a ++ b).extract 0 a.size = a := by
  rw [ByteArray.extract_append]
  apply ByteArray.ext
  simp
theorem ext_right (a b : ByteArray) : (a ++ b).extract a.size (a.size + b.size) = b := by
  rw [ByteArray.extract_append]
  apply ByteArray.ext
  simp
theorem ext_mid (x y z : ByteArray) : ((x ++ y) ++ z).extract x.size (x.size + y.size) = y := by
  have h := (Pre.of ((x ++ y) ++ z) (x ++ y).size (by simp only [ByteArray.size_append]; omega)).ex x.size (x.size + y.size) (by omega) (by omega) (by rw [ext_left, ByteArray.size_append]; omega)
  rw [ext_left, show (x.size + y.size : Int).toNat = x.size + y.size by omega, Int.toNat_natCast] at h
  rw [h, ext_right]
theorem bt_left (a b : ByteArray) (j : Int) (h0 : 0 ≤ j) (h1 : j < (a.size : Int)) : bt (a ++ b) j = bt a j := by
  have h := (Pre.of (a ++ b) a.size (by rw [ByteArray.size_append]; omega)).bt_ j h0 (by rw [ext_left]; exact h1)
  rw [ext_left] at h
  exact h
theorem bt_right (a b : ByteArray) (j : Nat) (h1 : j < b.size) : bt (a ++ b) ((a.size : Int) + j) = bt b j := by
  have h := bt_extract (a ++ b) a.size (a.size + b.size) j (by omega) (by rw [ByteArray.size_append]; omega)
  rw [ext_right] at h
  rw [h]
  push_cast
  rfl
theorem bt_nums (L : List Int) (j : Nat) (x : Int) (h : L[j]? = some x) (h0 : 0 ≤ x) (h1 : x ≤ 255) : bt (strOfNums L) (j : Int) = x := by
  have hj : j < L.length := (List.getElem?_eq_some_iff.1 h).1
  rw [← bt_data _ j (by rw [strOfNums_size]; exact hj), strOfNums_data, List.getD_eq_getElem?_getD, List.getElem?_map, h]
  simp only [Option.map_some, Option.getD_some]
  rw [UInt8.toNat_ofNat']
  omega
theorem strOfNums_app (x y : List Int) : strOfNums (x ++ y) = strOfNums x ++ strOfNums y := by
  apply ByteArray.ext
  apply Array.toList_inj.1
  rw [strOfNums_data, List.map_append, ByteArray.data_append, Array.toList_append, strOfNums_data, strOfNums_data]
/-- The parts of a note's bytes. -/
theorem wr_parts (n : S39) : wr n = ((strOfNums [74, n.f0, n.f1 / 256, n.f1 % 256, (n.f2.size : Int)] ++ n.f2) ++ strOfNums [if n.f3 = true then 1 else 0, (n.f4.size : Int) / 256, (n.f4.size : Int) % 256]) ++ n.f4 := by
  unfold wr wrL
  rw [strOfNums_append, strOfNums_app, strOfNums_append]
theorem wr_bt (n : S39) (hv : vld n = true) : bt (wr n) 0 = 74 ∧ bt (wr n) 1 = n.f0 ∧ bt (wr n) 2 = n.f1 / 256 ∧ bt (wr n) 3 = n.f1 % 256 ∧ bt (wr n) 4 = n.f2.size ∧
    bt (wr n) (5 + n.f2.size) = (if n.f3 = true then 1 else 0) ∧ bt (wr n) (6 + n.f2.size) = (n.f4.size : Int) / 256 ∧ bt (wr n) (7 + n.f2.size) = (n.f4.size : Int) % 256 := by
  have hn := vld_note hv
  have hs := vld_sizes hv
  have hu := vld_unit hv
  have h1 := hn.k1
  have h7 := hn.k7
  have hl := bytesOf_length n.f2
  have at_ : ∀ (j : Nat) (x : Int), ((([74, n.f0, n.f1 / 256, n.f1 % 256, (n.f2.size : Int)] ++ bytesOf n.f2) ++ [if n.f3 = true then 1 else 0, (n.f4.size : Int) / 256, (n.f4.size : Int) % 256]) ++ bytesOf n.f4)[j]? = some x → 0 ≤ x → x ≤ 255 → bt (wr n) (j : Int) = x := fun j x h h0 h1 => bt_nums _ j x h h0 h1
  refine ⟨at_ 0 _ (by simp) (by omega) (by omega), at_ 1 _ (by simp) (by omega) (by omega), at_ 2 _ (by simp) (by omega) (by omega), at_ 3 _ (by simp) (by omega) (by omega), at_ 4 _ (by simp) (by omega) (by omega), ?_, ?_, ?_⟩
  · have := at_ (5 + n.f2.size) (if n.f3 = true then 1 else 0) (by
      rw [List.getElem?_append_left (by simp [hl]; omega), List.getElem?_append_right (by simp [hl]; omega)]
      simp [hl]
      rw [show 5 + n.f2.size - (n.f2.size + 1 + 1 + 1 + 1 + 1) = 0 by omega]
      rfl) (by split <;> omega) (by split <;> omega)
    rw [← this]; push_cast; rfl
  · have := at_ (6 + n.f2.size) ((n.f4.size : Int) / 256) (by
      rw [List.getElem?_append_left (by simp [hl]; omega), List.getElem?_append_right (by simp [hl]; omega)]
      simp [hl]
      rw [show 6 + n.f2.size - (n.f2.size + 1 + 1 + 1 + 1 + 1) = 1 by omega]
      rfl) (by omega) (by omega)
    rw [← this]; push_cast; rfl
  · have := at_ (7 + n.f2.size) ((n.f4.size : Int) % 256) (by
      rw [List.getElem?_append_left (by simp [hl]; omega), List.getElem?_append_right (by simp [hl]; omega)]
      simp [hl]
      rw [show 7 + n.f2.size - (n.f2.size + 1 + 1 + 1 + 1 + 1) = 2 by omega]
      rfl) (by omega) (by omega)
    rw [← this]; push_cast; rfl
theorem lookT_ok (s e : ByteArray) (n : S39) (sum q : Int) (hq : q + 8 ≤ (s.size : Int)) (he : ∀ j : Nat, j < 8 → bt s (q + j) = bt e j) : ∀ m : Nat, m ≤ 8 → lookT s e n sum q m = (n, q + 8, sum, false) := by
  intro m
  induction m with
  | zero => intro _; rfl
  | succ m ih =>
    intro hm
    have h := he (8 - (m + 1)) (by omega)
    rw [show ((8 - (m + 1) : Nat) : Int) = 8 - ((m + 1 : Nat) : Int) by omega] at h
    rw [lookT, if_neg (by omega), if_pos h]
    exact ih (by omega)
/-- look at what was written. -/
theorem look_wr (n : S39) (hv : vld n = true) (last : Int) (rest : ByteArray) : lookF ((wr n ++ eightS (sumF last (wr n))) ++ rest) last = (n, ((wr n).size : Int) + 8, sumF last (wr n), false) := by
  have hn := vld_note hv
  have hs := vld_sizes hv
  have hu := vld_unit hv
  have h1 := hn.k1
  have h7 := hn.k7
  have hsz := wr_size n
  obtain ⟨b0, b1, b2, b3, b4, b5, b6, b7⟩ := wr_bt n hv
  have h8 := eightS_size (sumF last (wr n))
  generalize hsm : sumF last (wr n) = sm at h8 ⊢
  obtain ⟨t, ht⟩ : ∃ t, (wr n ++ eightS sm) ++ rest = t := ⟨_, rfl⟩
  have hts : t.size = (wr n).size + 8 + rest.size := by rw [← ht, ByteArray.size_append, ByteArray.size_append, h8]
  have hbt : ∀ j : Int, 0 ≤ j → j < ((wr n).size : Int) → bt t j = bt (wr n) j := fun j j0 j1 => by
    rw [← ht, ByteArray.append_assoc]
    exact bt_left _ _ j j0 j1
  have hbe : ∀ j : Nat, j < 8 → bt t (((wr n).size : Int) + j) = bt (eightS sm) j := fun j hj => by
    rw [← ht, ByteArray.append_assoc, bt_right _ _ j (by rw [ByteArray.size_append]; omega), bt_left _ _ _ (by omega) (by omega)]
  have hpre : Pre (wr n) t := by
    have := Pre.of t (wr n).size (by omega)
    rw [show t.extract 0 (wr n).size = wr n by rw [← ht, ByteArray.append_assoc]; exact ext_left _ _] at this
    exact this
  rw [ht]
  have x0 : t.extract 0 (8 + (n.f2.size : Int) + (n.f4.size : Int)).toNat = wr n := by
    rw [show (8 + (n.f2.size : Int) + (n.f4.size : Int)).toNat = (wr n).size by omega, ← ht, ByteArray.append_assoc]
    exact ext_left _ _
  have xk : t.extract 5 (5 + (n.f2.size : Int)).toNat = n.f2 := by
    have h := hpre.ex 5 (5 + (n.f2.size : Int)) (by omega) (by omega) (by omega)
    rw [show (5 : Int).toNat = 5 from rfl] at h
    rw [h, wr_parts, ByteArray.append_assoc, show (5 + (n.f2.size : Int)).toNat = (strOfNums [74, n.f0, n.f1 / 256, n.f1 % 256, (n.f2.size : Int)]).size + n.f2.size by rw [strOfNums_size]; simp; omega]
    exact ext_mid _ _ _
  have xt : t.extract (8 + (n.f2.size : Int)).toNat (8 + (n.f2.size : Int) + (n.f4.size : Int)).toNat = n.f4 := by
    have h := hpre.ex (8 + (n.f2.size : Int)) (8 + (n.f2.size : Int) + (n.f4.size : Int)) (by omega) (by omega) (by omega)
    rw [h, wr_parts]
    have := ext_right ((strOfNums [74, n.f0, n.f1 / 256, n.f1 % 256, (n.f2.size : Int)] ++ n.f2) ++ strOfNums [if n.f3 = true then 1 else 0, (n.f4.size : Int) / 256, (n.f4.size : Int) % 256]) n.f4
    rw [ByteArray.size_append, ByteArray.size_append, strOfNums_size, strOfNums_size] at this
    simp only [List.length_cons, List.length_nil] at this
    rw [show (8 + (n.f2.size : Int)).toNat = 0 + 1 + 1 + 1 + 1 + 1 + n.f2.size + (0 + 1 + 1 + 1) by omega, show (8 + (n.f2.size : Int) + (n.f4.size : Int)).toNat = 0 + 1 + 1 + 1 + 1 + 1 + n.f2.size + (0 + 1 + 1 + 1) + n.f4.size by omega]
    exact this
  have hd : decide ((if n.f3 = true then (1 : Int) else 0) = 1) = n.f3 := by cases n.f3 <;> rfl
  have htail : look8 t last n.f0 n.f1 (n.f2.size : Int) (if n.f3 = true then 1 else 0) (n.f4.size : Int) = (n, ((wr n).size : Int) + 8, sm, false) := by
    unfold look8
    rw [x0, hsm, xk, xt, hd]
    have := lookT_ok t (eightS sm) n sm ((wr n).size : Int) (by omega) hbe 8 (Nat.le_refl _)
    rw [show ((wr n).size : Int) = 8 + (n.f2.size : Int) + (n.f4.size : Int) by omega] at this ⊢
    exact this
  unfold lookF
  rw [if_neg (by omega), hbt 0 (by omega) (by omega), b0, if_pos rfl, if_neg (by omega), hbt 1 (by omega) (by omega), b1]
  unfold look1
  rw [if_pos ⟨h1, h7⟩, if_neg (by omega), hbt 2 (by omega) (by omega), b2]
  unfold look2
  rw [if_pos ⟨by omega, fun h => by have := hn.named h; omega⟩, if_neg (by omega), hbt 3 (by omega) (by omega), b3, show n.f1 / 256 * 256 + n.f1 % 256 = n.f1 by omega]
  unfold look3
  have hk6 : n.f0 = 6 ↔ n.f1 = 0 := by
    constructor
    · intro h; exact (hn.named h).1
    · intro h
      by_cases h6 : n.f0 = 6
      · exact h6
      · by_cases h23 : n.f0 = 2 ∨ n.f0 = 3
        · have := hn.imaged h23; omega
        · have := hn.plain h6 h23; omega
  rw [if_pos ⟨hu.2, hk6⟩, if_neg (by omega), hbt 4 (by omega) (by omega), b4]
  unfold look4
  have hk23 : (n.f0 = 2 ∨ n.f0 = 3) ↔ 0 < (n.f2.size : Int) := by
    constructor
    · intro h; have := hn.imaged h; omega
    · intro h
      by_cases h6 : n.f0 = 6
      · have := hn.named h6; omega
      · by_cases h23 : n.f0 = 2 ∨ n.f0 = 3
        · exact h23
        · have := hn.plain h6 h23; omega
  rw [if_pos ⟨by omega, hk23⟩, if_neg (by omega), hbt _ (by omega) (by omega), b5]
  unfold look5
  have hhas : (if n.f3 = true then (1 : Int) else 0) = 0 ∨ (if n.f3 = true then (1 : Int) else 0) = 1 ∧ (n.f0 = 2 ∨ n.f0 = 3) := by
    cases h3 : n.f3 with
    | false => exact Or.inl rfl
    | true =>
      refine Or.inr ⟨rfl, ?_⟩
      by_cases h6 : n.f0 = 6
      · have := (hn.named h6).2.2.1; rw [h3] at this; cases this
      · by_cases h23 : n.f0 = 2 ∨ n.f0 = 3
        · exact h23
        · have := (hn.plain h6 h23).2.2.2.1; rw [h3] at this; cases this
  rw [if_pos hhas]
  have hmost : (n.f4.size : Int) ≤ (if n.f0 = 6 then 40 else if (if n.f3 = true then (1 : Int) else 0) = 1 then 4000 else 0) ∧ (n.f0 = 6 → 0 < (n.f4.size : Int)) := by
    by_cases h6 : n.f0 = 6
    · rw [if_pos h6]; have := hn.named h6; exact ⟨by omega, fun _ => by omega⟩
    · rw [if_neg h6]
      refine ⟨?_, fun h => absurd h h6⟩
      by_cases h23 : n.f0 = 2 ∨ n.f0 = 3
      · have := hn.imaged h23
        cases h3 : n.f3 with
        | false => have := this.2.2.2.2.2 h3; rw [if_neg (show ¬ (if false = true then (1 : Int) else 0) = 1 by decide)]; omega
        | true => rw [if_pos (show (if true = true then (1 : Int) else 0) = 1 by decide)]; omega
      · have := hn.plain h6 h23; rw [this.2.2.2.1, if_neg (show ¬ (if false = true then (1 : Int) else 0) = 1 by decide)]; omega
  generalize (if n.f0 = 6 then (40 : Int) else if (if n.f3 = true then (1 : Int) else 0) = 1 then 4000 else 0) = most at hmost ⊢
  unfold look6
  rw [if_neg (by omega), hbt _ (by omega) (by omega), b6, if_pos (by omega), if_neg (by omega), hbt _ (by omega) (by omega), b7, show (n.f4.size : Int) / 256 * 256 + (n.f4.size : Int) % 256 = (n.f4.size : Int) by omega]
  unfold look7
  rw [if_pos hmost, if_neg (by omega)]
  exact htail
/-- The last sum. -/
def lastS : Int → List S39 → Int
  | s, [] => s
  | s, n :: l => lastS (sumF s (wr n)) l
theorem rest_append (a b : ByteArray) : Rest (a ++ b) b a.size where
  i0 := by omega
  sz := by rw [ByteArray.size_append]; omega
  bt_ := by
    intro j j0 j1
    have := bt_right a b j.toNat (by omega)
    rw [show ((j.toNat : Nat) : Int) = j by omega] at this
    exact this.symm
  ex := by
    intro x y x0 xy hy
    have h := ext_right a b
    have h2 : ((a ++ b).extract a.size (a.size + b.size)).extract x.toNat y.toNat = (a ++ b).extract (a.size + x.toNat) (min (a.size + y.toNat) (a.size + b.size)) := ByteArray.extract_extract
    rw [h] at h2
    rw [h2, show ((a.size : Int) + x).toNat = a.size + x.toNat by omega, show ((a.size : Int) + y).toNat = min (a.size + y.toNat) (a.size + b.size) by omega]
/-- Decode of what was encoded. -/
theorem dec_enc : ∀ (l : List S39), (∀ n ∈ l, vld n = true) → ∀ (sum : Int) (pre : ByteArray) (m : Nat), (allB sum l).size < m → decGo (pre ++ allB sum l) m pre.size sum = (l, ((pre ++ allB sum l).size : Int), lastS sum l, false, 0) := by
  intro l
  induction l with
  | nil =>
    intro _ sum pre m hm
    obtain ⟨j, rfl⟩ : ∃ j, m = j + 1 := ⟨m - 1, by omega⟩
    rw [allB, append_empty, decGo, if_neg (by omega), lastS]
  | cons n l ih =>
    intro hv sum pre m hm
    obtain ⟨j, rfl⟩ : ∃ j, m = j + 1 := ⟨m - 1, by omega⟩
    have hvn := hv n (by simp)
    have h8 := eightS_size (sumF sum (wr n))
    have hw := wr_size n
    have hsame := look_peek (rest_append pre (allB sum (n :: l))) sum
    rw [show lookF (allB sum (n :: l)) sum = (n, ((wr n).size : Int) + 8, sumF sum (wr n), false) from look_wr n hvn sum _] at hsame
    have hsz : (allB sum (n :: l)).size = (wr n).size + 8 + (allB (sumF sum (wr n)) l).size := by rw [allB, ByteArray.size_append, ByteArray.size_append, h8]
    have hpk : peek (pre ++ allB sum (n :: l)) pre.size sum = .ok n (sumF sum (wr n)) (pre.size + ((wr n).size : Int) + 8) := by
      cases hp : peek (pre ++ allB sum (n :: l)) pre.size sum with
      | torn =>
        rw [hp] at hsame
        obtain ⟨n', h⟩ := hsame
        simp only [Prod.mk.injEq] at h
        omega
      | wrong =>
        rw [hp] at hsame
        obtain ⟨n', h⟩ := hsame
        simp only [Prod.mk.injEq] at h
        omega
      | ok n' sm' fin' =>
        rw [hp] at hsame
        have h : (n, ((wr n).size : Int) + 8, sumF sum (wr n), false) = (n', fin' - (pre.size : Int), sm', false) := hsame
        simp only [Prod.mk.injEq] at h
        obtain ⟨h1, h2, h3, _⟩ := h
        rw [← h1, ← h3, show fin' = pre.size + ((wr n).size : Int) + 8 by omega]
    rw [decGo, if_pos (by rw [ByteArray.size_append]; omega), hpk]
    simp only
    have hpre : pre ++ allB sum (n :: l) = (pre ++ (wr n ++ eightS (sumF sum (wr n)))) ++ allB (sumF sum (wr n)) l := by rw [allB]; simp only [ByteArray.append_assoc]
    have := ih (fun x hx => hv x (by simp [hx])) (sumF sum (wr n)) (pre ++ (wr n ++ eightS (sumF sum (wr n)))) j (by omega)
    rw [← hpre, show ((pre ++ (wr n ++ eightS (sumF sum (wr n)))).size : Int) = pre.size + ((wr n).size : Int) + 8 by rw [ByteArray.size_append, ByteArray.size_append, h8]; push_cast; omega] at this
    rw [this, lastS]
end Go.Proofs.Yteblpjnkinghoaa.J
/- strings.Builder at this program: copyCheck, WriteString, String (after the shelf's own proofs, at this program's numbers). -/
set_option linter.unusedVariables false
set_option linter.unusedSimpArgs false
namespace Go.Proofs.Yteblpjnkinghoaa.J
open Go.RowKit Go.Proofs.YteblpjnkinghoaaW.PrintWords Go.Proofs.YteblpjnkinghoaaW.PrintLast Go.Proofs.YteblpjnkinghoaaW.PrintMore
theorem bsize : (Try.prog.info? 104).map (·.size) = some 2 := by kernel_rfl
theorem blies : liesAt Try.prog Try.prog.depth 104 (2 / Try.prog.cellsOf 104) 0 104 1 = true := by kernel_rfl
theorem bbyte : (Try.prog.info? 5).map (fun i => (i.zero, i.size, i.bytes)) = some (some (.int .u8 0), 1, 1) := by kernel_rfl
theorem bcells : Try.prog.cellsOf 5 = 1 := by kernel_rfl
set_option maxHeartbeats 1000000 in
set_option maxRecDepth 100000 in
theorem copyCheck_used (b : Nat) (w : World) (h0 : w.cell? ⟨b, 0, none⟩ = some (.pointer (some ⟨b, 0, none⟩))) :
    Calls Try.prog 89 #[.pointer (some ⟨b, 0, none⟩)] w fun e w' => e = .returned (.tuple #[]) ∧ w' = w := by
  obtain ⟨j, hj, _⟩ := Option.map_eq_some_iff.1 bsize
  go_enter Try.func89, Try.ntmps89
  go_wp2
  rw [Lib.run_neq_ptr_same w _ Try.underlying102 hj]
  go_wp2
  go_end0
  exact ⟨rfl, rfl⟩
set_option maxHeartbeats 1000000 in
set_option maxRecDepth 100000 in
theorem copyCheck_fresh (b : Nat) (w : World) (h0 : w.cell? ⟨b, 0, none⟩ = some (.pointer none)) (hsh : w.shape? b = some (104, 2)) (hfz : w.frozen? ⟨b, 0, none⟩ = false) :
    Calls Try.prog 89 #[.pointer (some ⟨b, 0, none⟩)] w fun e w' => e = .returned (.tuple #[]) ∧ w' = w.setCell ⟨b, 0, none⟩ (.pointer (some ⟨b, 0, none⟩)) := by
  obtain ⟨j, hj, hjs⟩ := Option.map_eq_some_iff.1 bsize
  go_enter Try.func89, Try.ntmps89
  go_wp2
  rw [Lib.run_to_unsafe w ⟨b, 0, none⟩ Try.underlying102 Try.underlying129 hj (by rw [hjs]; decide) hsh (Nat.zero_lt_succ 1)]
  simp only [Result.andThen]
  rw [Oper.upon_value]
  go_wp2
  rw [run_callFunc_extern Try.func94 (by kernel_rfl) (by kernel_rfl) (by kernel_rfl) (e := Extern.AbiNoEscape.same) (by kernel_rfl)]
  rw [Lib.run_noEscape]
  simp only [Result.andThen]
  rw [Oper.upon_value]
  go_wp2
  rw [Lib.run_from_unsafe w ⟨b, 0, none⟩ Try.underlying129 Try.underlying102 hj hsh blies]
  simp only [Result.andThen]
  rw [Oper.upon_value]
  go_wp2
  go_end0
  exact ⟨rfl, rfl⟩
theorem copyCheck_calls (B b : Nat) (bs : List Value) (w : World) (h : Lib.IsBuilder 104 5 B b bs w) :
    Calls Try.prog 89 #[.pointer (some ⟨b, 0, none⟩)] w fun e w' => e = .returned (.tuple #[]) ∧ (Lib.BuilderAt 104 5 B b (.pointer (some ⟨b, 0, none⟩)) bs w' ∧ Below B w w') := by
  rcases h with h | h
  · refine (copyCheck_fresh b w h.cell0 h.shape h.frozen0).mono ?_
    rintro e w' ⟨rfl, rfl⟩
    exact ⟨rfl, h.used _, (Below.refl B w).setCell (p := ⟨b, 0, none⟩) h.1 _⟩
  · refine (copyCheck_used b w h.cell0).mono ?_
    rintro e w' ⟨rfl, rfl⟩
    exact ⟨rfl, h, Below.refl B _⟩
set_option maxHeartbeats 2000000 in
set_option maxRecDepth 100000 in
theorem WriteString_calls (B b : Nat) (bs : List Value) (s : ByteArray) (w : World) (h : Lib.IsBuilder 104 5 B b bs w) (hlen : bs.length + s.size ≤ 140737488355328) (hBw : B ≤ w.heap.size) :
    Calls Try.prog 81 #[.pointer (some ⟨b, 0, none⟩), .string s] w fun e w' => e = .returned (.tuple #[.int .i64 s.size, .nilIface]) ∧ (Lib.BuilderAt 104 5 B b (.pointer (some ⟨b, 0, none⟩)) (bs ++ Lib.strCells s) w' ∧ Below B w w') := by
  obtain ⟨i0, hi, hz0, hz1, hz2⟩ := info_parts bbyte
  go_enter Try.func81, Try.ntmps81
  go_wp2_with (go_at_call 89; refine (copyCheck_calls B b bs _ h).mono ?_)
  rintro e w1 ⟨rfl, h1, hb1⟩
  obtain ⟨hB, v, hbk, hown, hne⟩ := h1
  have c0 : w1.cell? ⟨b, 0, none⟩ = some (.pointer (some ⟨b, 0, none⟩)) := by rw [Lib.cell_of_heap hbk]; rfl
  have c1 : w1.cell? ⟨b, 1, none⟩ = some v := by rw [Lib.cell_of_heap hbk]; rfl
  go_wp2_with (at_builtin; refine Lib.wpList_append_own_string _ rfl _ _ 53 9 rfl B 5 i0 Try.underlying53 Try.underlying9 hi hz0 hz1 hz2 _ _ _ rfl hown s rfl ?c3 ?c4 ?c5 ?_)
  case c3 => unfold maxLen; omega
  case c4 => omega
  case c5 => have := hb1.size; omega
  intro v' w2 hown' hgrow _
  have hlt : b < w1.heap.size := by
    rcases Nat.lt_or_ge b w1.heap.size with h' | h'
    · exact h'
    · simp [Array.getElem?_eq_none h'] at hbk
  have hb2 : w2.heap[b]? = some (.cells #[.pointer (some ⟨b, 0, none⟩), v] 104 (0, 0)) := by
    rw [hgrow.block b hlt (fun e => hne e.symm)]
    exact hbk
  have d0 : w2.cell? ⟨b, 0, none⟩ = some (.pointer (some ⟨b, 0, none⟩)) := by rw [Lib.cell_of_heap hb2]; rfl
  have d1 : w2.cell? ⟨b, 1, none⟩ = some v := by rw [Lib.cell_of_heap hb2]; rfl
  have f1 : w2.frozen? ⟨b, 1, none⟩ = false := Lib.frozen_of_heap hb2 1
  obtain ⟨ao, n', cap, rfl⟩ : ∃ ao n' cap, v' = .slice ao n' cap := by
    rcases hown'.2 with ⟨hv, _⟩ | ⟨g, cap, cur, hv, _⟩
    · exact ⟨_, _, _, hv⟩
    · exact ⟨_, _, _, hv⟩
  go_wp2
  go_ret2
  refine ⟨rfl, ?_, ?_⟩
  · exact Lib.BuilderAt.put (T := 104) (e := 5) hB hb2 (bs' := bs ++ Lib.strCells s) (by simpa [Lib.strCells_length] using hown') (by decide)
  · exact (hb1.grown hgrow (by have := hb1.size; omega) (fun k hk => (hown.lt k hk).1)).setCell (p := ⟨b, 1, none⟩) hB _
set_option maxHeartbeats 1000000 in
set_option maxRecDepth 100000 in
theorem String_calls (B b : Nat) (l : List UInt8) (w : World) (h : Lib.IsBuilder 104 5 B b (Lib.byteCells l) w) (h0 : l ≠ []) :
    Calls Try.prog 82 #[.pointer (some ⟨b, 0, none⟩)] w fun e w' => e = .returned (.string ⟨l.toArray⟩) ∧ Below B w w' := by
  obtain ⟨p, hB, v, hbk, hown, hne⟩ : ∃ p, Lib.BuilderAt 104 5 B b p (Lib.byteCells l) w := by
    rcases h with h | h
    · exact ⟨_, h⟩
    · exact ⟨_, h⟩
  have hl0 : l.length ≠ 0 := by simpa using h0
  rw [Lib.byteCells_length] at hown
  obtain ⟨g, cap, cur, rfl, hbg, hg, hnc, hcm, hcs, htake⟩ : ∃ g cap cur, v = .slice (some ⟨g, 0, none⟩) l.length cap ∧ B ≤ g ∧ w.heap[g]? = some (.cells cur 5 (0, 0)) ∧ l.length ≤ cap ∧ cap ≤ maxLen ∧ cur.size = cap * 1 ∧ cur.toList.take (l.length * 1) = Lib.byteCells l := by
    rcases hown.2 with ⟨_, hz⟩ | ⟨g, cap, cur, hv, r⟩
    · exact absurd hz hl0
    · exact ⟨g, cap, cur, hv, r⟩
  have c1 : w.drew.cell? ⟨b, 1, none⟩ = some (.slice (some ⟨g, 0, none⟩) l.length cap) := by
    have : w.drew.heap[b]? = some (.cells #[p, .slice (some ⟨g, 0, none⟩) l.length cap] 104 (0, 0)) := hbk
    rw [Lib.cell_of_heap this]; rfl
  have hSD : (Builtin.unsafeSliceData_ #[53] 124 #[.slice (some ⟨g, 0, none⟩) l.length cap]).run Try.prog w.drew = .ok (.pointer (some ⟨g, 0, none⟩)) w.drew :=
    Lib.run_unsafeSliceData_row _ _ _ _ _ _ (by omega)
  have hUS : (Builtin.unsafeString_ #[124, 3] 9 #[.pointer (some ⟨g, 0, none⟩), .int .i64 l.length]).run Try.prog w.drew = .ok (.string ⟨l.toArray⟩) (w.drew.freeze ⟨g, 0, none⟩ l.length) := by
    refine Lib.run_unsafeString_row w.drew 124 3 9 5 Try.underlying124 bcells g cur.size (by have hg' : w.drew.heap[g]? = some (.cells cur 5 (0, 0)) := hg; simp [World.shape?, hg']) l h0 (by omega) (by unfold maxLen at hcm; omega) ?_
    intro j x hx
    have := hown.cells (g := g) rfl j (.int .u8 x.toNat) (by simp [Lib.byteCells, hx])
    exact this
  have mixed : Try.prog.follows Departure.mixedOrders = true := by kernel_rfl
  go_enter Try.func82, Try.ntmps82
  go_wp2
  go_region_o
  all_goals (go_wp2; go_ret; exact ⟨rfl, Lib.below_freeze (Below.drew (Below.refl B w)) (p := ⟨g, 0, none⟩) hbg _⟩)
set_option maxHeartbeats 2000000 in
set_option maxRecDepth 100000 in
theorem String_nil_calls (B b : Nat) (p : Value) (w : World) (hbk : w.heap[b]? = some (.cells #[p, .slice none 0 0] 104 (0, 0))) :
    Calls Try.prog 82 #[.pointer (some ⟨b, 0, none⟩)] w fun e w' => e = .returned (.string ⟨#[]⟩) ∧ Below B w w' := by
  have hUS : ∀ (W : World) (q : Option Addr), (Builtin.unsafeString_ #[124, 3] 9 #[.pointer q, .int .i64 0]).run Try.prog W = .ok (.string .empty) W := fun W q => Lib.run_unsafeString_none W _ _ _ q
  have c1 : w.drew.cell? ⟨b, 1, none⟩ = some (.slice none 0 0) := by
    have : w.drew.heap[b]? = some (.cells #[p, .slice none 0 0] 104 (0, 0)) := hbk
    rw [Lib.cell_of_heap this]; rfl
  have hSD : (Builtin.unsafeSliceData_ #[53] 124 #[.slice none 0 0]).run Try.prog w.drew = .ok (.pointer none) w.drew := rfl
  have mixed : Try.prog.follows Departure.mixedOrders = true := by kernel_rfl
  go_enter Try.func82, Try.ntmps82
  go_wp2
  go_region_o
  all_goals (go_wp2; go_ret; exact ⟨rfl, Below.drew (Below.refl B w)⟩)
/-- A builder lies still where what lay is kept. -/
theorem builder_past {B b : Nat} {bs : List Value} {w w' : World} (h : Lib.IsBuilder 104 5 B b bs w) (hb : Below w.heap.size w w') : Lib.IsBuilder 104 5 B b bs w' := by
  have key : ∀ p, Lib.BuilderAt 104 5 B b p bs w → Lib.BuilderAt 104 5 B b p bs w' := by
    rintro p ⟨hB, v, hbk, hown, hne⟩
    refine ⟨hB, v, (hb.block _ (blk_lt hbk)).trans hbk, ?_, hne⟩
    refine ⟨hown.1, ?_⟩
    rcases hown.2 with h | ⟨g, cap, cur, hv, hbg, hg, rest⟩
    · exact Or.inl h
    · exact Or.inr ⟨g, cap, cur, hv, hbg, (hb.block _ (blk_lt hg)).trans hg, rest⟩
  exact h.imp (key _) (key _)
end Go.Proofs.Yteblpjnkinghoaa.J
/- The program's written: the notes' bytes behind a sum. -/
set_option linter.unusedVariables false
set_option linter.unusedSimpArgs false
namespace Go.Proofs.Yteblpjnkinghoaa.J
open Go.RowKit Go.Proofs.YteblpjnkinghoaaW.PrintWords Go.Proofs.YteblpjnkinghoaaW.PrintLast Go.Proofs.YteblpjnkinghoaaW.PrintMore
theorem strCells_append (a b : ByteArray) : Lib.strCells (a ++ b) = Lib.strCells a ++ Lib.strCells b := by
  unfold Lib.strCells
  rw [ByteArray.data_append, Array.toList_append, List.map_append]
set_option maxHeartbeats 8000000 in
set_option maxRecDepth 100000 in
theorem written_calls (last : Int) (A1 : Option Addr) (c1 : Nat) (l1 : List S39) (w : World) (hr1 : Kd.C k39 w A1 l1.length l1) (hv : ∀ n ∈ l1, vld n = true) (hl : l1.length ≤ 1000) :
    Calls Try.prog 61 #[.int .u64 last, .slice A1 l1.length c1] w fun e w' => e = .returned (.string (allB last l1)) ∧ Below w.heap.size w w' := by
  have HR0 := Aside0.mk hr1
  have HV := Aside0.mk hv
  clear hr1 hv
  obtain ⟨r, hr⟩ : ∃ r, allB last l1 = r := ⟨_, rfl⟩
  rw [hr]
  have hI0 : Lib.IsBuilder 104 5 w.heap.size w.heap.size [] (w.alloc (.cells #[.pointer none, .slice none 0 0] 104)) := Lib.fresh_isBuilder 104 5 w
  have hF0 := heap_alloc_new w (.cells #[.pointer none, .slice none 0 0] 104)
  have hB0 : Below w.heap.size w (w.alloc (.cells #[.pointer none, .slice none 0 0] 104)) := (Below.refl _ _).alloc (Nat.le_refl _) _
  have HR := Aside0.mk hr
  clear hr
  go_enter Try.func61, Try.ntmps61
  go_wp2
  generalize w.alloc (.cells #[.pointer none, .slice none 0 0] 104) = w0 at hI0 hF0 hB0 ⊢
  go_loopg [0, 11] (l1.length + 1) (fun kq v0 v11 wk => ∃ (j : Nat) (lst : Int) (acc : ByteArray), v0 = .int .u64 lst ∧ v11 = .int .i64 (j : Int) ∧ j ≤ l1.length ∧ kq = l1.length - j + 1 ∧ Aside0 (acc ++ allB lst (l1.drop j) = r) ∧ Aside0 (acc.size ≤ 10000 * j) ∧ Aside0 (Lib.IsBuilder 104 5 w.heap.size w.heap.size (Lib.strCells acc) wk) ∧ Aside0 (acc.size = 0 → wk.heap[w.heap.size]? = some (.cells #[.pointer none, .slice none 0 0] 104 (0, 0))) ∧ Aside0 (Below w.heap.size w wk))
  case atStart => exact ⟨0, last, ⟨#[]⟩, rfl, rfl, Nat.zero_le _, rfl, ⟨(empty_append _).trans HR.out⟩, ⟨Nat.le_of_eq rfl⟩, ⟨hI0⟩, ⟨fun _ => hF0⟩, ⟨hB0⟩⟩
  case round =>
    clear hI0 hF0 hB0
    obtain ⟨j, lst, acc, rfl, rfl, hj, rfl, HA, HS, HI, HF, HB⟩ := hrel
    by_cases hlt : j < l1.length
    · have hd : decide ((j : Int) < (l1.length : Int)) = true := decide_eq_true (by omega)
      obtain ⟨ad, rfl, h0, h1, h2, h3, h4⟩ := at_T39 (Kd.C_below HR0.out HB.out) (j : Int) (by omega) (by omega)
      rw [Int.toNat_natCast] at h0 h1 h2 h3 h4
      have hm : rd_T39 l1 (j : Int) ∈ l1 := by
        unfold rd_T39
        rw [Int.toNat_natCast, List.getD_eq_getElem?_getD, List.getElem?_eq_getElem hlt]
        exact List.getElem_mem hlt
      have HN := Aside0.mk (HV.out _ hm)
      have HD := Aside0.mk (drop_rd hlt)
      clear hm
      generalize rd_T39 l1 (j : Int) = n at h0 h1 h2 h3 h4 HN HD
      have HA2 := Aside0.mk HA.out
      rw [HD.out] at HA2
      have hvs := vld_sizes HN.out
      have hws := wr_size n
      have hsz : (J.wr n).size ≤ 1000000 := by omega
      have hlen := HS.out
      have hcl := Lib.strCells_length acc
      have hcl2 := Lib.strCells_length (J.wr n)
      have hB1 : Below wr.heap.size wr (wr.alloc (.cells #[.int .i64 n.f0, .int .i64 n.f1, .string n.f2, .bool n.f3, .string n.f4] 39)) := (Below.refl _ _).alloc (Nat.le_refl _) _
      have hgw := HB.out.size
      go_upto_region 7 with (first | (go_at_call 80; refine (body_note n HN.out _).mono ?_; rintro e w2 ⟨rfl, hb2⟩) | (go_at_call 30; refine (Sum_calls lst (J.wr n) hsz _).mono ?_; rintro e w3 ⟨rfl, hb3⟩))
      have hb3' : Below wr.heap.size wr w3 := below_step (below_step hB1 hb2) hb3
      have hI3 := builder_past HI.out hb3'
      have hg3 := hb3'.size
      generalize hsm : sumF lst (J.wr n) = sm at HA2 ⊢
      have hBB : w.heap.size ≤ w3.heap.size := by omega
      go_upto_region 8 with (go_at_call 81; refine (WriteString_calls w.heap.size w.heap.size _ (J.wr n) _ hI3 (by omega) hBB).mono ?_; rintro e w4 ⟨rfl, hI4, hb4⟩)
      have h8 := eightS_size sm
      have hcl3 := Lib.strCells_length (eightS sm)
      have hg4 := hb4.size
      go_wp2_with (first | (go_at_call 62; refine (eight_calls sm _).mono ?_; rintro e w5 ⟨rfl, hb5⟩; have hI5 := builder_past (Or.inr hI4) hb5; have hg5 := hb5.size) | (go_at_call 81; refine (WriteString_calls w.heap.size w.heap.size _ (eightS sm) _ hI5 (by rw [List.length_append]; omega) (by omega)).mono ?_; rintro e w6 ⟨rfl, hI6, hb6⟩))
      have hBk : Below w.heap.size w w6 := (below_step ((below_step HB.out hb3').trans hb4) hb5).trans hb6
      go_roundg (l1.length - (j + 1) + 1)
      case measure => omega
      case rel =>
        refine ⟨j + 1, sm, (acc ++ J.wr n) ++ eightS sm, rfl, by push_cast; rfl, by omega, rfl, ⟨?_⟩, ⟨?_⟩, ⟨?_⟩, ⟨?_⟩, ⟨hBk⟩⟩
        · have h := HA2.out
          rw [allB, hsm, ← ByteArray.append_assoc, ← ByteArray.append_assoc] at h
          exact h
        · rw [ByteArray.size_append, ByteArray.size_append, h8]; omega
        · rw [strCells_append, strCells_append]
          exact Or.inr hI6
        · intro h
          rw [ByteArray.size_append, ByteArray.size_append, h8] at h
          omega
    · have hd : decide ((j : Int) < (l1.length : Int)) = false := decide_eq_false (by omega)
      have HA3 := HA.out
      rw [show j = l1.length by omega, List.drop_length, allB, append_empty] at HA3
      have HA2 := Aside0.mk HA3
      clear HA3
      by_cases h0 : acc.size = 0
      · have hF := HF.out h0
        go_wp2_with (go_at_call 82; refine (String_nil_calls w.heap.size w.heap.size _ _ hF).mono ?_; rintro e w2 ⟨rfl, hb2⟩)
        go_ret
        have hacc : (⟨#[]⟩ : ByteArray) = r := by
          rw [← HA2.out]
          exact (ByteArray.ext (Array.size_eq_zero_iff.1 h0)).symm
        exact ⟨congrArg (fun x => Ending.returned (Value.string x)) hacc, HB.out.trans hb2⟩
      · have hne : acc.data.toList ≠ [] := fun e => h0 (show acc.data.size = 0 by rw [← Array.length_toList, e]; rfl)
        have hI := HI.out
        go_wp2_with (go_at_call 82; refine (String_calls w.heap.size w.heap.size acc.data.toList _ hI hne).mono ?_; rintro e w2 ⟨rfl, hb2⟩)
        go_ret
        have hacc : (⟨acc.data⟩ : ByteArray) = r := HA2.out
        exact ⟨congrArg (fun x => Ending.returned (Value.string x)) hacc, HB.out.trans hb2⟩
def journal_written.f (a0 : Int) (l1 : List S39) : Option ByteArray := if l1.length ≤ 1000 ∧ l1.all vld = true then some (allB a0 l1) else none
theorem journal_written.calls (a0 : Int) (A1 : Option Addr) (c1 : Nat) (l1 : List (S39)) (r : ByteArray) (w : World) (hr1 : Kd.C k39 w A1 l1.length l1) (hc1 : l1.length ≤ c1) (h : journal_written.f a0 l1 = some r) :
    Calls Try.prog 61 #[.int .u64 a0, .slice A1 l1.length c1] w fun e w' => e = .returned (.string r) ∧ Below w.heap.size w w' := by
  unfold journal_written.f at h
  split at h
  · rename_i hc
    obtain rfl := Option.some.inj h
    exact written_calls a0 A1 c1 l1 w hr1 (fun n hn => List.all_eq_true.1 hc.2 n hn) hc.1
  · cases h
end Go.Proofs.Yteblpjnkinghoaa.J
namespace Go.Proofs.Yteblpjnkinghoaa.J
open Go.RowKit Go.Proofs.YteblpjnkinghoaaW.PrintWords Go.Proofs.YteblpjnkinghoaaW.PrintLast Go.Proofs.YteblpjnkinghoaaW.PrintMore
attribute [local go_sem] max2_int min2_int max_two min_two max_three min_three max_four min_four   -- for this text's walks alone
set_option linter.unusedVariables false
set_option linter.unusedSimpArgs false
/-! ### journal_Encode: function 29 -/
def journal_Encode.f (l0 : List (S39)) : Option (ByteArray × Int) := (journal_valid.f l0).bind fun t213 => (if t213 = true then ((journal_written.f 0 l0).bind fun t214 => (if (t214.size : Int) > 65536 then (some ((⟨#[]⟩ : ByteArray), 3)) else (some (t214, 0)))) else (some ((⟨#[]⟩ : ByteArray), 1)))
set_option maxHeartbeats 8000000 in
set_option maxRecDepth 100000 in
theorem journal_Encode.calls (A0 : Option Addr) (c0 : Nat) (l0 : List (S39)) (r1 : ByteArray) (r2 : Int) (w : World) (hr0 : Kd.C k39 w A0 l0.length l0) (hc0 : l0.length ≤ c0) (h : journal_Encode.f l0 = some (r1, r2)) :
    Calls Try.prog 29 #[.slice A0 l0.length c0] w fun e w' => e = .returned (.tuple #[.string r1, .int .i64 r2]) ∧ Below w.heap.size w w' := by
  have HR0 := Aside0.mk hr0
  have HC0 := Aside0.mk hc0
  clear hr0 hc0
  have HB := Aside0.mk (Below.refl w.heap.size w)
  have H : ((journal_valid.f l0).bind fun t213 => (if t213 = true then ((journal_written.f 0 l0).bind fun t214 => (if (t214.size : Int) > 65536 then (some ((⟨#[]⟩ : ByteArray), 3)) else (some (t214, 0)))) else (some ((⟨#[]⟩ : ByteArray), 1)))) = some (r1, r2) := h
  clear h
  replace H := Option.bind_eq_some_iff.mp H
  obtain ⟨t213, A20, H⟩ := H
  replace H : (if t213 = true then ((journal_written.f 0 l0).bind fun t214 => (if (t214.size : Int) > 65536 then (some ((⟨#[]⟩ : ByteArray), 3)) else (some (t214, 0)))) else (some ((⟨#[]⟩ : ByteArray), 1))) = some (r1, r2) := H
  have A2 := Aside0.mk A20
  clear A20
  by_cases c3 : t213 = true
  · subst c3
    have H1 : ((journal_written.f 0 l0).bind fun t214 => (if (t214.size : Int) > 65536 then (some ((⟨#[]⟩ : ByteArray), 3)) else (some (t214, 0)))) = some (r1, r2) := by rw [if_pos rfl] at H; exact H
    clear H
    have H := H1
    clear H1
    replace H := Option.bind_eq_some_iff.mp H
    obtain ⟨t214, A40, H⟩ := H
    replace H : (if (t214.size : Int) > 65536 then (some ((⟨#[]⟩ : ByteArray), 3)) else (some (t214, 0))) = some (r1, r2) := H
    have A4 := Aside0.mk A40
    clear A40
    by_cases c5 : (t214.size : Int) > 65536
    · rw [if_pos c5] at H
      have c5b0 : decide (65536 < (t214.size : Int)) = true := decide_eq_true c5
      have c5b1 : decide (65536 < t214.size) = true := decide_eq_true (by omega)
      clear c5
      simp only [Option.some.injEq, Prod.mk.injEq] at H
      obtain ⟨rfl, rfl⟩ := H
      go_enter Try.func29, Try.ntmps29
      go_wp2_with (first | ((with_reducible refine gate_callee (f := 60) rfl ?_); refine goesL_ (some 6) rfl rfl Try.func60 (by kernel_rfl) rfl #[.slice A0 l0.length c0] rfl (by (try simp only [List.map_toArray, List.map_cons, List.map_nil]); first | done | rfl | (simp only [List.length_drop, List.length_take]; rfl)) ?_; (with_reducible refine (journal_valid.calls _ _ l0 true _ ?side1 ?side2 A2.out).mono ?_); (case side1 => repeat (first | exact HR0.out | (with_reducible refine Kd.C_alloc ?_ _) | (with_reducible refine Kd.C_drewN ?_ _) | (with_reducible refine Kd.C_drew ?_))); (case side2 => exact HC0.out); rintro e w6 ⟨rfl, hb⟩; refine ⟨_, rfl, ?_⟩; have n0_ := Aside0.mk (below_step (by repeat (first | (with_reducible first | exact HB.out | apply below_alloc | apply pw_below_drewN | apply below_drew1) | exact HB.out)) hb); clear HB; have HB := n0_; clear n0_; (try clear hb); (try clear hb2); (try clear hk); (try clear hi)) | ((with_reducible refine gate_callee (f := 61) rfl ?_); refine goesL_ (some 9) rfl rfl Try.func61 (by kernel_rfl) rfl #[.int .u64 0, .slice A0 l0.length c0] rfl (by (try simp only [List.map_toArray, List.map_cons, List.map_nil]); first | done | rfl | (simp only [List.length_drop, List.length_take]; rfl)) ?_; (with_reducible refine (journal_written.calls 0 _ _ l0 t214 _ ?side1 ?side2 A4.out).mono ?_); (case side1 => repeat (first | exact (Kd.C_below HR0.out HB.out) | (with_reducible refine Kd.C_alloc ?_ _) | (with_reducible refine Kd.C_drewN ?_ _) | (with_reducible refine Kd.C_drew ?_))); (case side2 => exact HC0.out); rintro e w7 ⟨rfl, hb⟩; refine ⟨_, rfl, ?_⟩; have n0_ := Aside0.mk (below_step (by repeat (first | (with_reducible first | exact HB.out | apply below_alloc | apply pw_below_drewN | apply below_drew1) | exact HB.out)) hb); clear HB; have HB := n0_; clear n0_; (try clear hb); (try clear hb2); (try clear hk); (try clear hi)))
      go_ret2
      exact ⟨by first | rfl | (simp [errW_none, errW_some] <;> rfl) | (simp [*, errW_none, errW_some] <;> rfl), by repeat (first | (with_reducible first | exact HB.out | apply below_alloc | apply pw_below_drewN | apply below_drew1) | exact HB.out)⟩
    · rw [if_neg c5] at H
      have c5b0 : decide (65536 < (t214.size : Int)) = false := decide_eq_false c5
      have c5b1 : decide (65536 < t214.size) = false := decide_eq_false (by omega)
      clear c5
      simp only [Option.some.injEq, Prod.mk.injEq] at H
      obtain ⟨rfl, rfl⟩ := H
      go_enter Try.func29, Try.ntmps29
      go_wp2_with (first | ((with_reducible refine gate_callee (f := 60) rfl ?_); refine goesL_ (some 6) rfl rfl Try.func60 (by kernel_rfl) rfl #[.slice A0 l0.length c0] rfl (by (try simp only [List.map_toArray, List.map_cons, List.map_nil]); first | done | rfl | (simp only [List.length_drop, List.length_take]; rfl)) ?_; (with_reducible refine (journal_valid.calls _ _ l0 true _ ?side1 ?side2 A2.out).mono ?_); (case side1 => repeat (first | exact HR0.out | (with_reducible refine Kd.C_alloc ?_ _) | (with_reducible refine Kd.C_drewN ?_ _) | (with_reducible refine Kd.C_drew ?_))); (case side2 => exact HC0.out); rintro e w8 ⟨rfl, hb⟩; refine ⟨_, rfl, ?_⟩; have n0_ := Aside0.mk (below_step (by repeat (first | (with_reducible first | exact HB.out | apply below_alloc | apply pw_below_drewN | apply below_drew1) | exact HB.out)) hb); clear HB; have HB := n0_; clear n0_; (try clear hb); (try clear hb2); (try clear hk); (try clear hi)) | ((with_reducible refine gate_callee (f := 61) rfl ?_); refine goesL_ (some 9) rfl rfl Try.func61 (by kernel_rfl) rfl #[.int .u64 0, .slice A0 l0.length c0] rfl (by (try simp only [List.map_toArray, List.map_cons, List.map_nil]); first | done | rfl | (simp only [List.length_drop, List.length_take]; rfl)) ?_; (with_reducible refine (journal_written.calls 0 _ _ l0 t214 _ ?side1 ?side2 A4.out).mono ?_); (case side1 => repeat (first | exact (Kd.C_below HR0.out HB.out) | (with_reducible refine Kd.C_alloc ?_ _) | (with_reducible refine Kd.C_drewN ?_ _) | (with_reducible refine Kd.C_drew ?_))); (case side2 => exact HC0.out); rintro e w9 ⟨rfl, hb⟩; refine ⟨_, rfl, ?_⟩; have n0_ := Aside0.mk (below_step (by repeat (first | (with_reducible first | exact HB.out | apply below_alloc | apply pw_below_drewN | apply below_drew1) | exact HB.out)) hb); clear HB; have HB := n0_; clear n0_; (try clear hb); (try clear hb2); (try clear hk); (try clear hi)))
      go_ret2
      exact ⟨by first | rfl | (simp [errW_none, errW_some] <;> rfl) | (simp [*, errW_none, errW_some] <;> rfl), by repeat (first | (with_reducible first | exact HB.out | apply below_alloc | apply pw_below_drewN | apply below_drew1) | exact HB.out)⟩
  · replace c3 := Bool.eq_false_iff.mpr c3
    subst c3
    have H1 : (some ((⟨#[]⟩ : ByteArray), 1)) = some (r1, r2) := by rw [if_neg (show ¬ (false = true) by decide)] at H; exact H
    clear H
    have H := H1
    clear H1
    simp only [Option.some.injEq, Prod.mk.injEq] at H
    obtain ⟨rfl, rfl⟩ := H
    go_enter Try.func29, Try.ntmps29
    go_wp2_with (first | ((with_reducible refine gate_callee (f := 60) rfl ?_); refine goesL_ (some 6) rfl rfl Try.func60 (by kernel_rfl) rfl #[.slice A0 l0.length c0] rfl (by (try simp only [List.map_toArray, List.map_cons, List.map_nil]); first | done | rfl | (simp only [List.length_drop, List.length_take]; rfl)) ?_; (with_reducible refine (journal_valid.calls _ _ l0 false _ ?side1 ?side2 A2.out).mono ?_); (case side1 => repeat (first | exact HR0.out | (with_reducible refine Kd.C_alloc ?_ _) | (with_reducible refine Kd.C_drewN ?_ _) | (with_reducible refine Kd.C_drew ?_))); (case side2 => exact HC0.out); rintro e w10 ⟨rfl, hb⟩; refine ⟨_, rfl, ?_⟩; have n0_ := Aside0.mk (below_step (by repeat (first | (with_reducible first | exact HB.out | apply below_alloc | apply pw_below_drewN | apply below_drew1) | exact HB.out)) hb); clear HB; have HB := n0_; clear n0_; (try clear hb); (try clear hb2); (try clear hk); (try clear hi)))
    go_ret2
    exact ⟨by first | rfl | (simp [errW_none, errW_some] <;> rfl) | (simp [*, errW_none, errW_some] <;> rfl), by repeat (first | (with_reducible first | exact HB.out | apply below_alloc | apply pw_below_drewN | apply below_drew1) | exact HB.out)⟩

end Go.Proofs.Yteblpjnkinghoaa.J
/- The program's Sum, in the printed form. -/
namespace Go.Proofs.Yteblpjnkinghoaa.J
open Go.RowKit Go.Proofs.YteblpjnkinghoaaW.PrintWords Go.Proofs.YteblpjnkinghoaaW.PrintLast Go.Proofs.YteblpjnkinghoaaW.PrintMore
def journal_Sum.f (a0 : Int) (a1 : ByteArray) : Option Int := if a1.size ≤ 1000000 then some (sumF a0 a1) else none
theorem journal_Sum.calls (a0 : Int) (a1 : ByteArray) (r : Int) (w : World) (h : journal_Sum.f a0 a1 = some r) :
    Calls Try.prog 30 #[.int .u64 a0, .string a1] w fun e w' => e = .returned (.int .u64 r) ∧ Below w.heap.size w w' := by
  unfold journal_Sum.f at h
  split at h
  · rename_i hs
    obtain rfl := Option.some.inj h
    exact Sum_calls a0 a1 hs w
  · cases h
end Go.Proofs.Yteblpjnkinghoaa.J
namespace Go.Proofs.Yteblpjnkinghoaa.J
open Go.RowKit Go.Proofs.YteblpjnkinghoaaW.PrintWords Go.Proofs.YteblpjnkinghoaaW.PrintLast Go.Proofs.YteblpjnkinghoaaW.PrintMore
attribute [local go_sem] max2_int min2_int max_two min_two max_three min_three max_four min_four   -- for this text's walks alone
set_option linter.unusedVariables false
set_option linter.unusedSimpArgs false
/-! ### ringworklaw25_JournalBytes: function 8 -/
mutual
def ringworklaw25_JournalBytes.l0 : Nat → List (S39) → Int → Int → Int → Option (Bool)
  | 0, _, _, _, _ => none
  | k + 1, x0, x1, x2, x7 => if x7 < (x0.length : Int) then (if 0 ≤ x7 then ((journal_Valid.f ((rd_T39 x0 x7).f0) ((rd_T39 x0 x7).f1) ((rd_T39 x0 x7).f2) ((rd_T39 x0 x7).f3) ((rd_T39 x0 x7).f4)).bind fun t218 => ((ringworkref25_Valid.f k ((rd_T39 x0 x7).f0) ((rd_T39 x0 x7).f1) ((rd_T39 x0 x7).f2) ((rd_T39 x0 x7).f3) ((rd_T39 x0 x7).f4)).bind fun t220 => (if (t218 != t220) = true then (some false) else (ringworklaw25_JournalBytes.l0 k x0 x1 x2 (wrap64 (x7 + 1)))))) else (none)) else ((journal_Encode.f x0).bind fun bt221 => ((ringworkref25_Encode.f k x0).bind fun bt223 => (if bt221.1.toList = bt223.1.toList then (if bt221.2 = bt223.2 then ((journal_Sum.f x2 bt221.1).bind fun t225 => ((ringworkref25_Sum.f x2 bt221.1).bind fun t226 => (ringworklaw25_JournalBytes.j1 k x0 x1 bt221.1 bt221.2 (t225 != t226)))) else (ringworklaw25_JournalBytes.j1 k x0 x1 bt221.1 bt221.2 true)) else (ringworklaw25_JournalBytes.j1 k x0 x1 bt221.1 bt221.2 true))))
def ringworklaw25_JournalBytes.j1 : Nat → List (S39) → Int → ByteArray → Int → Bool → Option (Bool)
  | 0, _, _, _, _, _ => none
  | k + 1, x0, x1, x8, x9, x69 => if x69 = true then (some false) else (if x9 = 0 then ((journal_Decode.f x8).bind fun bt228 => (if bt228.2.2.2 = 0 then (if bt228.2.1 = (x8.size : Int) then (if bt228.2.2.1 = true then (ringworklaw25_JournalBytes.j2 k x1 x8 true) else ((ringworkref25_SameNotes.f k bt228.1 x0).bind fun t234 => (ringworklaw25_JournalBytes.j2 k x1 x8 (!t234)))) else (ringworklaw25_JournalBytes.j2 k x1 x8 true)) else (ringworklaw25_JournalBytes.j2 k x1 x8 true))) else ((ringworklaw25_awake.f).bind fun t227 => (some t227)))
def ringworklaw25_JournalBytes.j2 : Nat → Int → ByteArray → Bool → Option (Bool)
  | 0, _, _, _ => none
  | k + 1, x1, x8, x96 => if x96 = true then (some false) else (if (IntKind.u64.wrap (wrap64 ((x8.size : Int) + 1))) = 0 then (none) else (if 0 ≤ (wrap64 (Int.tmod (IntKind.u64.wrap (x1)) (IntKind.u64.wrap (wrap64 ((x8.size : Int) + 1))))) then (if (wrap64 (Int.tmod (IntKind.u64.wrap (x1)) (IntKind.u64.wrap (wrap64 ((x8.size : Int) + 1))))) ≤ (x8.size : Int) then ((journal_Decode.f (x8.extract 0 ((wrap64 (Int.tmod (IntKind.u64.wrap (x1)) (IntKind.u64.wrap (wrap64 ((x8.size : Int) + 1))))) : Int).toNat)).bind fun bt235 => ((ringworkref25_Decode.f k (x8.extract 0 ((wrap64 (Int.tmod (IntKind.u64.wrap (x1)) (IntKind.u64.wrap (wrap64 ((x8.size : Int) + 1))))) : Int).toNat)).bind fun bt241 => (if bt235.2.2.2 = 0 then ((ringworkref25_SameNotes.f k bt235.1 bt241.1).bind fun t248 => (if t248 = true then (if bt235.2.1 = bt241.2.1 then (if (bt235.2.2.1 == bt241.2.2.1) = true then (if (bt235.2.2.1 == (decide (bt235.2.1 < (wrap64 (Int.tmod (IntKind.u64.wrap (x1)) (IntKind.u64.wrap (wrap64 ((x8.size : Int) + 1)))))))) = true then ((ringworklaw25_awake.f).bind fun t249 => (some t249)) else (some false)) else (some false)) else (some false)) else (some false))) else (some false)))) else (none)) else (none)))
end
def ringworklaw25_JournalBytes.f (k : Nat) (l0 : List (S39)) (a1 : Int) (a2 : Int) : Option (Bool) := (ringworklaw25_Notes.f k l0).bind fun t215 => (if t215 = true then (ringworklaw25_JournalBytes.l0 k l0 a1 a2 0) else ((ringworklaw25_awake.f).bind fun t216 => (some t216)))
def ringworklaw25_JournalBytes.T6 : Bool × List (List Nat × List Nat) := (true, [([], []), ([], []), ([0, 1], [0, 1]), ([2], [2]), ([3], [3]), ([], []), ([], []), ([5, 6], [5, 6]), ([7], [7]), ([8, 4], [8]), ([4, 9], [4, 9])])
def ringworklaw25_JournalBytes.B6 : List Nat := [0, 0, 3, 7, 15, 0, 0, 96, 224, 511, 1023]
theorem ringworklaw25_JournalBytes.tab6 : rtab .any (opsOf Try.f8 6) = ringworklaw25_JournalBytes.T6 := by kernel_rfl
theorem ringworklaw25_JournalBytes.bits6 : waitsOk ringworklaw25_JournalBytes.T6.2 ringworklaw25_JournalBytes.B6 = true := by kernel_rfl
set_option maxHeartbeats 8000000 in
set_option maxRecDepth 100000 in
theorem ringworklaw25_JournalBytes.calls (k : Nat) (A0 : Option Addr) (c0 : Nat) (l0 : List (S39)) (a1 : Int) (a2 : Int) (r : Bool) (w : World) (hr0 : Kd.C k39 w A0 l0.length l0) (hc0 : l0.length ≤ c0) (h : ringworklaw25_JournalBytes.f k l0 a1 a2 = some r) :
    Calls Try.prog 8 #[.slice A0 l0.length c0, .int .i64 a1, .int .u64 a2] w fun e w' => e = .returned (.bool r) ∧ Below w.heap.size w w' := by
  have hu39 := Try.underlying39
  have HR0 := Aside0.mk hr0
  have HC0 := Aside0.mk hc0
  clear hr0 hc0
  have HB := Aside0.mk (Below.refl w.heap.size w)
  have H : ((ringworklaw25_Notes.f k l0).bind fun t215 => (if t215 = true then (ringworklaw25_JournalBytes.l0 k l0 a1 a2 0) else ((ringworklaw25_awake.f).bind fun t216 => (some t216)))) = some r := h
  clear h
  replace H := Option.bind_eq_some_iff.mp H
  obtain ⟨t215, A40, H⟩ := H
  replace H : (if t215 = true then (ringworklaw25_JournalBytes.l0 k l0 a1 a2 0) else ((ringworklaw25_awake.f).bind fun t216 => (some t216))) = some r := H
  have A4 := Aside0.mk A40
  clear A40
  by_cases c5 : t215 = true
  · subst c5
    have H1 : (ringworklaw25_JournalBytes.l0 k l0 a1 a2 0) = some r := by rw [if_pos rfl] at H; exact H
    clear H
    have H := H1
    clear H1
    have H' := Aside0.mk H
    clear H
    go_enter Try.func8, Try.ntmps8
    go_wp2_with (first | ((with_reducible refine gate_callee (f := 10) rfl ?_); refine goesL_ (some 23) rfl rfl Try.func10 (by kernel_rfl) rfl #[.slice A0 l0.length c0] rfl (by (try simp only [List.map_toArray, List.map_cons, List.map_nil]); first | done | rfl | (simp only [List.length_drop, List.length_take]; rfl)) ?_; (with_reducible refine (ringworklaw25_Notes.calls k _ _ l0 true _ ?side1 ?side2 A4.out).mono ?_); (case side1 => repeat (first | exact HR0.out | (with_reducible refine Kd.C_alloc ?_ _) | (with_reducible refine Kd.C_drewN ?_ _) | (with_reducible refine Kd.C_drew ?_))); (case side2 => exact HC0.out); rintro e w' ⟨rfl, ⟨nd, rfl⟩⟩; refine ⟨_, rfl, ?_⟩))
    go_loopg [7] k (fun kq v7 w' => ∃ (x7_1 : Int), v7 = .int .i64 x7_1 ∧ Aside0 (ringworklaw25_JournalBytes.l0 kq l0 a1 a2 x7_1 = some r) ∧ Aside0 (kq ≤ k) ∧ Aside0 (Below w.heap.size w w'))
    case atStart => exact ⟨(0), (by first | rfl | (simp; done) | (simp [*]; done)), H', ⟨Nat.le_refl _⟩, ⟨by repeat (first | (with_reducible first | exact HB.out | apply below_alloc | apply pw_below_drewN | apply below_drew1) | exact HB.out)⟩⟩
    case round =>
      clear H'
      try clear c1
      try clear p2
      try clear c5
      obtain ⟨x7_1, rfl, HA, HK1, HB⟩ := hrel
      cases gk with
      | zero => exact absurd HA.out (by simp [ringworklaw25_JournalBytes.l0])
      | succ k1 =>
        have H := HA.out
        clear HA
        simp only [ringworklaw25_JournalBytes.l0] at H
        by_cases c6 : x7_1 < (l0.length : Int)
        · rw [if_pos c6] at H
          have c6b0 : decide (x7_1 < (l0.length : Int)) = true := decide_eq_true c6
          clear c6
          by_cases c7 : 0 ≤ x7_1
          · rw [if_pos c7] at H
            have c7b0 : decide (0 ≤ x7_1) = true := decide_eq_true c7
            clear c7
            replace H := Option.bind_eq_some_iff.mp H
            obtain ⟨t218, A80, H⟩ := H
            replace H : ((ringworkref25_Valid.f k1 ((rd_T39 l0 x7_1).f0) ((rd_T39 l0 x7_1).f1) ((rd_T39 l0 x7_1).f2) ((rd_T39 l0 x7_1).f3) ((rd_T39 l0 x7_1).f4)).bind fun t220 => (if (t218 != t220) = true then (some false) else (ringworklaw25_JournalBytes.l0 k1 l0 a1 a2 (wrap64 (x7_1 + 1))))) = some r := H
            have A8 := Aside0.mk A80
            clear A80
            replace H := Option.bind_eq_some_iff.mp H
            obtain ⟨t220, A90, H⟩ := H
            replace H : (if (t218 != t220) = true then (some false) else (ringworklaw25_JournalBytes.l0 k1 l0 a1 a2 (wrap64 (x7_1 + 1)))) = some r := H
            have A9 := Aside0.mk A90
            clear A90
            by_cases c10 : (t218 != t220) = true
            · rw [if_pos c10] at H
              have c10b0 : (t218 != t220) = true := c10
              (try (have c10b1 : decide (t218 = t220) = false := by simpa using c10))
              (try (have c10b2 : (t218 == t220) = false := by simpa using c10))
              (try (have c10b3 : ¬ (t218 = t220) := by simpa using c10))
              clear c10
              obtain rfl := Option.some.inj H
              try go_wp2
              have n0_ := Aside0.mk (below_drew1 HB.out)
              clear HB
              have HB := n0_
              clear n0_
              have p217 : 0 ≤ (x7_1 : Int) := of_decide_eq_true (by first | (with_reducible assumption) | assumption)
              have q217 : x7_1 < (l0.length : Int) := of_decide_eq_true (by first | (with_reducible assumption) | assumption)
              obtain ⟨ad217, e217, hx217_0, hx217_1, hx217_2, hx217_3, hx217_4⟩ := at_T39 HR0.out x7_1 p217 q217
              have hw217_4 := hx217_4
              have hw217_3 := hx217_3
              have hw217_2 := hx217_2
              have hw217_1 := hx217_1
              have hw217_0 := hx217_0
              cases e217
              replace hx217_0 := (HB.out.cell (World.block_lt_of_cell? w _ hx217_0)).trans hx217_0
              replace hx217_1 := (HB.out.cell (World.block_lt_of_cell? w _ hx217_1)).trans hx217_1
              replace hx217_2 := (HB.out.cell (World.block_lt_of_cell? w _ hx217_2)).trans hx217_2
              replace hx217_3 := (HB.out.cell (World.block_lt_of_cell? w _ hx217_3)).trans hx217_3
              replace hx217_4 := (HB.out.cell (World.block_lt_of_cell? w _ hx217_4)).trans hx217_4
              replace p217 := eq_true p217
              replace q217 := eq_true q217
              have p219 : 0 ≤ (x7_1 : Int) := of_decide_eq_true (by first | (with_reducible assumption) | assumption)
              have q219 : x7_1 < (l0.length : Int) := of_decide_eq_true (by first | (with_reducible assumption) | assumption)
              obtain ⟨ad219, e219, hx219_0, hx219_1, hx219_2, hx219_3, hx219_4⟩ := at_T39 HR0.out x7_1 p219 q219
              have hw219_4 := hx219_4
              have hw219_3 := hx219_3
              have hw219_2 := hx219_2
              have hw219_1 := hx219_1
              have hw219_0 := hx219_0
              obtain rfl : ad217 = ad219 := (by injection e219)
              replace hx219_0 := (HB.out.cell (World.block_lt_of_cell? w _ hx219_0)).trans hx219_0
              replace hx219_1 := (HB.out.cell (World.block_lt_of_cell? w _ hx219_1)).trans hx219_1
              replace hx219_2 := (HB.out.cell (World.block_lt_of_cell? w _ hx219_2)).trans hx219_2
              replace hx219_3 := (HB.out.cell (World.block_lt_of_cell? w _ hx219_3)).trans hx219_3
              replace hx219_4 := (HB.out.cell (World.block_lt_of_cell? w _ hx219_4)).trans hx219_4
              replace p219 := eq_true p219
              replace q219 := eq_true q219
              refine start_ (n := 11) (S := fun w' => w'.cell? (ad217.add ((x7_1).toNat * 5)) = some (.int .i64 ((rd_T39 l0 x7_1).f0)) ∧ w'.cell? ⟨(ad217.add ((x7_1).toNat * 5)).block, (ad217.add ((x7_1).toNat * 5)).off + 1, none⟩ = some (.int .i64 ((rd_T39 l0 x7_1).f1)) ∧ w'.cell? ⟨(ad217.add ((x7_1).toNat * 5)).block, (ad217.add ((x7_1).toNat * 5)).off + 2, none⟩ = some (.string ((rd_T39 l0 x7_1).f2)) ∧ w'.cell? ⟨(ad217.add ((x7_1).toNat * 5)).block, (ad217.add ((x7_1).toNat * 5)).off + 3, none⟩ = some (.bool ((rd_T39 l0 x7_1).f3)) ∧ w'.cell? ⟨(ad217.add ((x7_1).toNat * 5)).block, (ad217.add ((x7_1).toNat * 5)).off + 4, none⟩ = some (.string ((rd_T39 l0 x7_1).f4)) ∧ w'.cell? (ad217.add ((x7_1).toNat * 5)) = some (.int .i64 ((rd_T39 l0 x7_1).f0)) ∧ w'.cell? ⟨(ad217.add ((x7_1).toNat * 5)).block, (ad217.add ((x7_1).toNat * 5)).off + 1, none⟩ = some (.int .i64 ((rd_T39 l0 x7_1).f1)) ∧ w'.cell? ⟨(ad217.add ((x7_1).toNat * 5)).block, (ad217.add ((x7_1).toNat * 5)).off + 2, none⟩ = some (.string ((rd_T39 l0 x7_1).f2)) ∧ w'.cell? ⟨(ad217.add ((x7_1).toNat * 5)).block, (ad217.add ((x7_1).toNat * 5)).off + 3, none⟩ = some (.bool ((rd_T39 l0 x7_1).f3)) ∧ w'.cell? ⟨(ad217.add ((x7_1).toNat * 5)).block, (ad217.add ((x7_1).toNat * 5)).off + 4, none⟩ = some (.string ((rd_T39 l0 x7_1).f4))) (ds := []) #[false, false, false, false, false, false, false, false, false, false, false] (by kernel_rfl) rfl rfl ⟨((HB.out.cell (World.block_lt_of_cell? w _ hw217_0)).trans hw217_0), ((HB.out.cell (World.block_lt_of_cell? w _ hw217_1)).trans hw217_1), ((HB.out.cell (World.block_lt_of_cell? w _ hw217_2)).trans hw217_2), ((HB.out.cell (World.block_lt_of_cell? w _ hw217_3)).trans hw217_3), ((HB.out.cell (World.block_lt_of_cell? w _ hw217_4)).trans hw217_4), ((HB.out.cell (World.block_lt_of_cell? w _ hw219_0)).trans hw219_0), ((HB.out.cell (World.block_lt_of_cell? w _ hw219_1)).trans hw219_1), ((HB.out.cell (World.block_lt_of_cell? w _ hw219_2)).trans hw219_2), ((HB.out.cell (World.block_lt_of_cell? w _ hw219_3)).trans hw219_3), ((HB.out.cell (World.block_lt_of_cell? w _ hw219_4)).trans hw219_4)⟩ (fun hHeld => ?_); refine with_tabW ringworklaw25_JournalBytes.tab6 ringworklaw25_JournalBytes.bits6 (fun HT_ HW_ => ?_)
              generalize wr.drew = w11 at HB hx217_0 hx217_1 hx217_2 hx217_3 hx217_4 hx219_0 hx219_1 hx219_2 hx219_3 hx219_4 hHeld ⊢
              refine pure_ (i := 0) (N := some 32) (v := ?_) (a' := ?_) #[true, false, false, false, false, false, false, false, false, false, false] rfl rfl (any_of HT_.out (by kernel_rfl)) (fun _ _ _ h => h) (Or.inl ⟨by rfl, ?_⟩) ?_ ?_
              rotate_left
              · intro w'
                go_simp
                with_reducible rfl
              rotate_left
              · simp only [Act.put, List.setIfInBounds_toArray, List.set_cons_zero, List.set_cons_succ, i64_w, i32_w]
                rfl
              refine pure_ (i := 1) (N := some 33) (v := ?_) (a' := ?_) #[true, true, false, false, false, false, false, false, false, false, false] rfl rfl (any_of HT_.out (by kernel_rfl)) (fun _ _ _ h => h) (Or.inl ⟨by rfl, ?_⟩) ?_ ?_
              rotate_left
              · intro w'
                go_simp
                with_reducible rfl
              rotate_left
              · simp only [Act.put, List.setIfInBounds_toArray, List.set_cons_zero, List.set_cons_succ, i64_w, i32_w]
                rfl
              refine pure_ (i := 2) (N := some 34) (v := ?_) (a' := ?_) #[true, true, true, false, false, false, false, false, false, false, false] rfl rfl (any_of HT_.out (by kernel_rfl)) (fun _ _ _ h => h) (Or.inl ⟨by rfl, ?_⟩) ?_ ?_
              rotate_left
              · intro w'
                go_simp
                with_reducible rfl
              rotate_left
              · simp only [Act.put, List.setIfInBounds_toArray, List.set_cons_zero, List.set_cons_succ, i64_w, i32_w]
                rfl
              refine pure_ (i := 5) (N := some 37) (v := ?_) (a' := ?_) #[true, true, true, false, false, true, false, false, false, false, false] rfl rfl (any_of HT_.out (by kernel_rfl)) (fun _ _ _ h => h) (Or.inl ⟨by rfl, ?_⟩) ?_ ?_
              rotate_left
              · intro w'
                go_simp
                with_reducible rfl
              rotate_left
              · simp only [Act.put, List.setIfInBounds_toArray, List.set_cons_zero, List.set_cons_succ, i64_w, i32_w]
                rfl
              refine pure_ (i := 6) (N := some 38) (v := ?_) (a' := ?_) #[true, true, true, false, false, true, true, false, false, false, false] rfl rfl (any_of HT_.out (by kernel_rfl)) (fun _ _ _ h => h) (Or.inl ⟨by rfl, ?_⟩) ?_ ?_
              rotate_left
              · intro w'
                go_simp
                with_reducible rfl
              rotate_left
              · simp only [Act.put, List.setIfInBounds_toArray, List.set_cons_zero, List.set_cons_succ, i64_w, i32_w]
                rfl
              refine pure_ (i := 7) (N := some 39) (v := ?_) (a' := ?_) #[true, true, true, false, false, true, true, true, false, false, false] rfl rfl (any_of HT_.out (by kernel_rfl)) (fun _ _ _ h => h) (Or.inl ⟨by rfl, ?_⟩) ?_ ?_
              rotate_left
              · intro w'
                go_simp
                with_reducible rfl
              rotate_left
              · simp only [Act.put, List.setIfInBounds_toArray, List.set_cons_zero, List.set_cons_succ, i64_w, i32_w]
                rfl
              refine take_ (i := 3) (N := some 35) (v := ?_) (a' := ?_) #[true, true, true, true, false, true, true, true, false, false, false] rfl rfl (take_ofW HT_.out HW_.out (by kernel_rfl)) (fun _ _ _ h => h) (Or.inl ⟨by rfl, ?_⟩) hHeld ?_ ?_
              rotate_left
              · rintro w' ⟨s0, s1, s2, s3, s4, s5, s6, s7, s8, s9⟩
                go_simp
                with_reducible rfl
              rotate_left
              · simp only [Act.put, List.setIfInBounds_toArray, List.set_cons_zero, List.set_cons_succ, i64_w, i32_w]
                rfl
              refine take_ (i := 8) (N := some 40) (v := ?_) (a' := ?_) #[true, true, true, true, false, true, true, true, true, false, false] rfl rfl (take_ofW HT_.out HW_.out (by kernel_rfl)) (fun _ _ _ h => h) (Or.inl ⟨by rfl, ?_⟩) hHeld ?_ ?_
              rotate_left
              · rintro w' ⟨s0, s1, s2, s3, s4, s5, s6, s7, s8, s9⟩
                go_simp
                with_reducible rfl
              rotate_left
              · simp only [Act.put, List.setIfInBounds_toArray, List.set_cons_zero, List.set_cons_succ, i64_w, i32_w]
                rfl
              refine one_ (i := 4) (N := some 36) #[true, true, true, true, true, true, true, true, true, false, false] rfl rfl (one_of HT_.out (by kernel_rfl)) (by decide) (fun K hK => ?_)
              refine goes_ Try.func27 (by kernel_rfl) rfl #[.agg #[.int .i64 ((rd_T39 l0 x7_1).f0), .int .i64 ((rd_T39 l0 x7_1).f1), .string ((rd_T39 l0 x7_1).f2), .bool ((rd_T39 l0 x7_1).f3), .string ((rd_T39 l0 x7_1).f4)]] (by rfl) rfl rfl (by (try simp only [List.map_toArray, List.map_cons, List.map_nil]); first | done | rfl | (simp only [List.length_drop, List.length_take]; rfl)) ?_
              with_reducible refine (journal_Valid.calls ((rd_T39 l0 x7_1).f0) ((rd_T39 l0 x7_1).f1) ((rd_T39 l0 x7_1).f2) ((rd_T39 l0 x7_1).f3) ((rd_T39 l0 x7_1).f4) t218 _ A8.out).mono ?_
              rintro e w12 ⟨rfl, hb⟩
              refine ⟨_, rfl, ?_⟩
              have n0_ := Aside0.mk (below_step (by repeat (first | (with_reducible first | exact HB.out | apply below_alloc | apply pw_below_drewN | apply below_drew1) | exact HB.out)) hb)
              clear HB
              have HB := n0_
              clear n0_
              (try clear hb)
              (try clear hb2)
              (try clear hk)
              (try clear hi)
              refine hK.out _ _ ⟨((HB.out.cell (World.block_lt_of_cell? w _ hw217_0)).trans hw217_0), ((HB.out.cell (World.block_lt_of_cell? w _ hw217_1)).trans hw217_1), ((HB.out.cell (World.block_lt_of_cell? w _ hw217_2)).trans hw217_2), ((HB.out.cell (World.block_lt_of_cell? w _ hw217_3)).trans hw217_3), ((HB.out.cell (World.block_lt_of_cell? w _ hw217_4)).trans hw217_4), ((HB.out.cell (World.block_lt_of_cell? w _ hw219_0)).trans hw219_0), ((HB.out.cell (World.block_lt_of_cell? w _ hw219_1)).trans hw219_1), ((HB.out.cell (World.block_lt_of_cell? w _ hw219_2)).trans hw219_2), ((HB.out.cell (World.block_lt_of_cell? w _ hw219_3)).trans hw219_3), ((HB.out.cell (World.block_lt_of_cell? w _ hw219_4)).trans hw219_4)⟩ (fun hHeld => ?_)
              clear hK K
              refine norm_ (a' := ?_) ?_ ?_
              rotate_left
              · show Act.put _ (some 36) _ = _
                simp only [Act.put, List.setIfInBounds_toArray, List.set_cons_zero, List.set_cons_succ, i64_w, i32_w]
                rfl
              refine one_ (i := 9) (N := some 41) #[true, true, true, true, true, true, true, true, true, true, false] rfl rfl (one_of HT_.out (by kernel_rfl)) (by decide) (fun K hK => ?_)
              refine goes_ Try.func28 (by kernel_rfl) rfl #[.agg #[.int .i64 ((rd_T39 l0 x7_1).f0), .int .i64 ((rd_T39 l0 x7_1).f1), .string ((rd_T39 l0 x7_1).f2), .bool ((rd_T39 l0 x7_1).f3), .string ((rd_T39 l0 x7_1).f4)]] (by rfl) rfl rfl (by (try simp only [List.map_toArray, List.map_cons, List.map_nil]); first | done | rfl | (simp only [List.length_drop, List.length_take]; rfl)) ?_
              with_reducible refine (ringworkref25_Valid.calls k1 ((rd_T39 l0 x7_1).f0) ((rd_T39 l0 x7_1).f1) ((rd_T39 l0 x7_1).f2) ((rd_T39 l0 x7_1).f3) ((rd_T39 l0 x7_1).f4) t220 _ A9.out).mono ?_
              rintro e w13 ⟨rfl, hb⟩
              refine ⟨_, rfl, ?_⟩
              have n0_ := Aside0.mk (below_step (by repeat (first | (with_reducible first | exact HB.out | apply below_alloc | apply pw_below_drewN | apply below_drew1) | exact HB.out)) hb)
              clear HB
              have HB := n0_
              clear n0_
              (try clear hb)
              (try clear hb2)
              (try clear hk)
              (try clear hi)
              refine hK.out _ _ ⟨((HB.out.cell (World.block_lt_of_cell? w _ hw217_0)).trans hw217_0), ((HB.out.cell (World.block_lt_of_cell? w _ hw217_1)).trans hw217_1), ((HB.out.cell (World.block_lt_of_cell? w _ hw217_2)).trans hw217_2), ((HB.out.cell (World.block_lt_of_cell? w _ hw217_3)).trans hw217_3), ((HB.out.cell (World.block_lt_of_cell? w _ hw217_4)).trans hw217_4), ((HB.out.cell (World.block_lt_of_cell? w _ hw219_0)).trans hw219_0), ((HB.out.cell (World.block_lt_of_cell? w _ hw219_1)).trans hw219_1), ((HB.out.cell (World.block_lt_of_cell? w _ hw219_2)).trans hw219_2), ((HB.out.cell (World.block_lt_of_cell? w _ hw219_3)).trans hw219_3), ((HB.out.cell (World.block_lt_of_cell? w _ hw219_4)).trans hw219_4)⟩ (fun hHeld => ?_)
              clear hK K
              refine norm_ (a' := ?_) ?_ ?_
              rotate_left
              · show Act.put _ (some 41) _ = _
                simp only [Act.put, List.setIfInBounds_toArray, List.set_cons_zero, List.set_cons_succ, i64_w, i32_w]
                rfl
              refine pure_ (i := 10) (N := some 42) (v := ?_) (a' := ?_) #[true, true, true, true, true, true, true, true, true, true, true] rfl rfl (any_of HT_.out (by kernel_rfl)) (fun _ _ _ h => h) (Or.inl ⟨by rfl, ?_⟩) ?_ ?_
              rotate_left
              · intro w'
                go_simp
                with_reducible rfl
              rotate_left
              · simp only [Act.put, List.setIfInBounds_toArray, List.set_cons_zero, List.set_cons_succ, i64_w, i32_w]
                rfl
              refine done_ (done_of HT_.out (by kernel_rfl)) ?_
              try go_wp2
              go_ret
              exact ⟨by first | rfl | (simp [errW_none, errW_some] <;> rfl) | (simp [*, errW_none, errW_some] <;> rfl), by repeat (first | (with_reducible first | exact HB.out | apply below_alloc | apply pw_below_drewN | apply below_drew1) | exact HB.out)⟩
            · rw [if_neg c10] at H
              have c10b0 : (t218 != t220) = false := by simpa using c10
              (try (have c10b1 : decide (t218 = t220) = true := by simpa using c10))
              (try (have c10b2 : (t218 == t220) = true := by simpa using c10))
              clear c10
              have H' := Aside0.mk H
              clear H
              try go_wp2
              have n0_ := Aside0.mk (below_drew1 HB.out)
              clear HB
              have HB := n0_
              clear n0_
              have p217 : 0 ≤ (x7_1 : Int) := of_decide_eq_true (by first | (with_reducible assumption) | assumption)
              have q217 : x7_1 < (l0.length : Int) := of_decide_eq_true (by first | (with_reducible assumption) | assumption)
              obtain ⟨ad217, e217, hx217_0, hx217_1, hx217_2, hx217_3, hx217_4⟩ := at_T39 HR0.out x7_1 p217 q217
              have hw217_4 := hx217_4
              have hw217_3 := hx217_3
              have hw217_2 := hx217_2
              have hw217_1 := hx217_1
              have hw217_0 := hx217_0
              cases e217
              replace hx217_0 := (HB.out.cell (World.block_lt_of_cell? w _ hx217_0)).trans hx217_0
              replace hx217_1 := (HB.out.cell (World.block_lt_of_cell? w _ hx217_1)).trans hx217_1
              replace hx217_2 := (HB.out.cell (World.block_lt_of_cell? w _ hx217_2)).trans hx217_2
              replace hx217_3 := (HB.out.cell (World.block_lt_of_cell? w _ hx217_3)).trans hx217_3
              replace hx217_4 := (HB.out.cell (World.block_lt_of_cell? w _ hx217_4)).trans hx217_4
              replace p217 := eq_true p217
              replace q217 := eq_true q217
              have p219 : 0 ≤ (x7_1 : Int) := of_decide_eq_true (by first | (with_reducible assumption) | assumption)
              have q219 : x7_1 < (l0.length : Int) := of_decide_eq_true (by first | (with_reducible assumption) | assumption)
              obtain ⟨ad219, e219, hx219_0, hx219_1, hx219_2, hx219_3, hx219_4⟩ := at_T39 HR0.out x7_1 p219 q219
              have hw219_4 := hx219_4
              have hw219_3 := hx219_3
              have hw219_2 := hx219_2
              have hw219_1 := hx219_1
              have hw219_0 := hx219_0
              obtain rfl : ad217 = ad219 := (by injection e219)
              replace hx219_0 := (HB.out.cell (World.block_lt_of_cell? w _ hx219_0)).trans hx219_0
              replace hx219_1 := (HB.out.cell (World.block_lt_of_cell? w _ hx219_1)).trans hx219_1
              replace hx219_2 := (HB.out.cell (World.block_lt_of_cell? w _ hx219_2)).trans hx219_2
              replace hx219_3 := (HB.out.cell (World.block_lt_of_cell? w _ hx219_3)).trans hx219_3
              replace hx219_4 := (HB.out.cell (World.block_lt_of_cell? w _ hx219_4)).trans hx219_4
              replace p219 := eq_true p219
              replace q219 := eq_true q219
              refine start_ (n := 11) (S := fun w' => w'.cell? (ad217.add ((x7_1).toNat * 5)) = some (.int .i64 ((rd_T39 l0 x7_1).f0)) ∧ w'.cell? ⟨(ad217.add ((x7_1).toNat * 5)).block, (ad217.add ((x7_1).toNat * 5)).off + 1, none⟩ = some (.int .i64 ((rd_T39 l0 x7_1).f1)) ∧ w'.cell? ⟨(ad217.add ((x7_1).toNat * 5)).block, (ad217.add ((x7_1).toNat * 5)).off + 2, none⟩ = some (.string ((rd_T39 l0 x7_1).f2)) ∧ w'.cell? ⟨(ad217.add ((x7_1).toNat * 5)).block, (ad217.add ((x7_1).toNat * 5)).off + 3, none⟩ = some (.bool ((rd_T39 l0 x7_1).f3)) ∧ w'.cell? ⟨(ad217.add ((x7_1).toNat * 5)).block, (ad217.add ((x7_1).toNat * 5)).off + 4, none⟩ = some (.string ((rd_T39 l0 x7_1).f4)) ∧ w'.cell? (ad217.add ((x7_1).toNat * 5)) = some (.int .i64 ((rd_T39 l0 x7_1).f0)) ∧ w'.cell? ⟨(ad217.add ((x7_1).toNat * 5)).block, (ad217.add ((x7_1).toNat * 5)).off + 1, none⟩ = some (.int .i64 ((rd_T39 l0 x7_1).f1)) ∧ w'.cell? ⟨(ad217.add ((x7_1).toNat * 5)).block, (ad217.add ((x7_1).toNat * 5)).off + 2, none⟩ = some (.string ((rd_T39 l0 x7_1).f2)) ∧ w'.cell? ⟨(ad217.add ((x7_1).toNat * 5)).block, (ad217.add ((x7_1).toNat * 5)).off + 3, none⟩ = some (.bool ((rd_T39 l0 x7_1).f3)) ∧ w'.cell? ⟨(ad217.add ((x7_1).toNat * 5)).block, (ad217.add ((x7_1).toNat * 5)).off + 4, none⟩ = some (.string ((rd_T39 l0 x7_1).f4))) (ds := []) #[false, false, false, false, false, false, false, false, false, false, false] (by kernel_rfl) rfl rfl ⟨((HB.out.cell (World.block_lt_of_cell? w _ hw217_0)).trans hw217_0), ((HB.out.cell (World.block_lt_of_cell? w _ hw217_1)).trans hw217_1), ((HB.out.cell (World.block_lt_of_cell? w _ hw217_2)).trans hw217_2), ((HB.out.cell (World.block_lt_of_cell? w _ hw217_3)).trans hw217_3), ((HB.out.cell (World.block_lt_of_cell? w _ hw217_4)).trans hw217_4), ((HB.out.cell (World.block_lt_of_cell? w _ hw219_0)).trans hw219_0), ((HB.out.cell (World.block_lt_of_cell? w _ hw219_1)).trans hw219_1), ((HB.out.cell (World.block_lt_of_cell? w _ hw219_2)).trans hw219_2), ((HB.out.cell (World.block_lt_of_cell? w _ hw219_3)).trans hw219_3), ((HB.out.cell (World.block_lt_of_cell? w _ hw219_4)).trans hw219_4)⟩ (fun hHeld => ?_); refine with_tabW ringworklaw25_JournalBytes.tab6 ringworklaw25_JournalBytes.bits6 (fun HT_ HW_ => ?_)
              generalize wr.drew = w14 at HB hx217_0 hx217_1 hx217_2 hx217_3 hx217_4 hx219_0 hx219_1 hx219_2 hx219_3 hx219_4 hHeld ⊢
              refine pure_ (i := 0) (N := some 32) (v := ?_) (a' := ?_) #[true, false, false, false, false, false, false, false, false, false, false] rfl rfl (any_of HT_.out (by kernel_rfl)) (fun _ _ _ h => h) (Or.inl ⟨by rfl, ?_⟩) ?_ ?_
              rotate_left
              · intro w'
                go_simp
                with_reducible rfl
              rotate_left
              · simp only [Act.put, List.setIfInBounds_toArray, List.set_cons_zero, List.set_cons_succ, i64_w, i32_w]
                rfl
              refine pure_ (i := 1) (N := some 33) (v := ?_) (a' := ?_) #[true, true, false, false, false, false, false, false, false, false, false] rfl rfl (any_of HT_.out (by kernel_rfl)) (fun _ _ _ h => h) (Or.inl ⟨by rfl, ?_⟩) ?_ ?_
              rotate_left
              · intro w'
                go_simp
                with_reducible rfl
              rotate_left
              · simp only [Act.put, List.setIfInBounds_toArray, List.set_cons_zero, List.set_cons_succ, i64_w, i32_w]
                rfl
              refine pure_ (i := 2) (N := some 34) (v := ?_) (a' := ?_) #[true, true, true, false, false, false, false, false, false, false, false] rfl rfl (any_of HT_.out (by kernel_rfl)) (fun _ _ _ h => h) (Or.inl ⟨by rfl, ?_⟩) ?_ ?_
              rotate_left
              · intro w'
                go_simp
                with_reducible rfl
              rotate_left
              · simp only [Act.put, List.setIfInBounds_toArray, List.set_cons_zero, List.set_cons_succ, i64_w, i32_w]
                rfl
              refine pure_ (i := 5) (N := some 37) (v := ?_) (a' := ?_) #[true, true, true, false, false, true, false, false, false, false, false] rfl rfl (any_of HT_.out (by kernel_rfl)) (fun _ _ _ h => h) (Or.inl ⟨by rfl, ?_⟩) ?_ ?_
              rotate_left
              · intro w'
                go_simp
                with_reducible rfl
              rotate_left
              · simp only [Act.put, List.setIfInBounds_toArray, List.set_cons_zero, List.set_cons_succ, i64_w, i32_w]
                rfl
              refine pure_ (i := 6) (N := some 38) (v := ?_) (a' := ?_) #[true, true, true, false, false, true, true, false, false, false, false] rfl rfl (any_of HT_.out (by kernel_rfl)) (fun _ _ _ h => h) (Or.inl ⟨by rfl, ?_⟩) ?_ ?_
              rotate_left
              · intro w'
                go_simp
                with_reducible rfl
              rotate_left
              · simp only [Act.put, List.setIfInBounds_toArray, List.set_cons_zero, List.set_cons_succ, i64_w, i32_w]
                rfl
              refine pure_ (i := 7) (N := some 39) (v := ?_) (a' := ?_) #[true, true, true, false, false, true, true, true, false, false, false] rfl rfl (any_of HT_.out (by kernel_rfl)) (fun _ _ _ h => h) (Or.inl ⟨by rfl, ?_⟩) ?_ ?_
              rotate_left
              · intro w'
                go_simp
                with_reducible rfl
              rotate_left
              · simp only [Act.put, List.setIfInBounds_toArray, List.set_cons_zero, List.set_cons_succ, i64_w, i32_w]
                rfl
              refine take_ (i := 3) (N := some 35) (v := ?_) (a' := ?_) #[true, true, true, true, false, true, true, true, false, false, false] rfl rfl (take_ofW HT_.out HW_.out (by kernel_rfl)) (fun _ _ _ h => h) (Or.inl ⟨by rfl, ?_⟩) hHeld ?_ ?_
              rotate_left
              · rintro w' ⟨s0, s1, s2, s3, s4, s5, s6, s7, s8, s9⟩
                go_simp
                with_reducible rfl
              rotate_left
              · simp only [Act.put, List.setIfInBounds_toArray, List.set_cons_zero, List.set_cons_succ, i64_w, i32_w]
                rfl
              refine take_ (i := 8) (N := some 40) (v := ?_) (a' := ?_) #[true, true, true, true, false, true, true, true, true, false, false] rfl rfl (take_ofW HT_.out HW_.out (by kernel_rfl)) (fun _ _ _ h => h) (Or.inl ⟨by rfl, ?_⟩) hHeld ?_ ?_
              rotate_left
              · rintro w' ⟨s0, s1, s2, s3, s4, s5, s6, s7, s8, s9⟩
                go_simp
                with_reducible rfl
              rotate_left
              · simp only [Act.put, List.setIfInBounds_toArray, List.set_cons_zero, List.set_cons_succ, i64_w, i32_w]
                rfl
              refine one_ (i := 4) (N := some 36) #[true, true, true, true, true, true, true, true, true, false, false] rfl rfl (one_of HT_.out (by kernel_rfl)) (by decide) (fun K hK => ?_)
              refine goes_ Try.func27 (by kernel_rfl) rfl #[.agg #[.int .i64 ((rd_T39 l0 x7_1).f0), .int .i64 ((rd_T39 l0 x7_1).f1), .string ((rd_T39 l0 x7_1).f2), .bool ((rd_T39 l0 x7_1).f3), .string ((rd_T39 l0 x7_1).f4)]] (by rfl) rfl rfl (by (try simp only [List.map_toArray, List.map_cons, List.map_nil]); first | done | rfl | (simp only [List.length_drop, List.length_take]; rfl)) ?_
              with_reducible refine (journal_Valid.calls ((rd_T39 l0 x7_1).f0) ((rd_T39 l0 x7_1).f1) ((rd_T39 l0 x7_1).f2) ((rd_T39 l0 x7_1).f3) ((rd_T39 l0 x7_1).f4) t218 _ A8.out).mono ?_
              rintro e w15 ⟨rfl, hb⟩
              refine ⟨_, rfl, ?_⟩
              have n0_ := Aside0.mk (below_step (by repeat (first | (with_reducible first | exact HB.out | apply below_alloc | apply pw_below_drewN | apply below_drew1) | exact HB.out)) hb)
              clear HB
              have HB := n0_
              clear n0_
              (try clear hb)
              (try clear hb2)
              (try clear hk)
              (try clear hi)
              refine hK.out _ _ ⟨((HB.out.cell (World.block_lt_of_cell? w _ hw217_0)).trans hw217_0), ((HB.out.cell (World.block_lt_of_cell? w _ hw217_1)).trans hw217_1), ((HB.out.cell (World.block_lt_of_cell? w _ hw217_2)).trans hw217_2), ((HB.out.cell (World.block_lt_of_cell? w _ hw217_3)).trans hw217_3), ((HB.out.cell (World.block_lt_of_cell? w _ hw217_4)).trans hw217_4), ((HB.out.cell (World.block_lt_of_cell? w _ hw219_0)).trans hw219_0), ((HB.out.cell (World.block_lt_of_cell? w _ hw219_1)).trans hw219_1), ((HB.out.cell (World.block_lt_of_cell? w _ hw219_2)).trans hw219_2), ((HB.out.cell (World.block_lt_of_cell? w _ hw219_3)).trans hw219_3), ((HB.out.cell (World.block_lt_of_cell? w _ hw219_4)).trans hw219_4)⟩ (fun hHeld => ?_)
              clear hK K
              refine norm_ (a' := ?_) ?_ ?_
              rotate_left
              · show Act.put _ (some 36) _ = _
                simp only [Act.put, List.setIfInBounds_toArray, List.set_cons_zero, List.set_cons_succ, i64_w, i32_w]
                rfl
              refine one_ (i := 9) (N := some 41) #[true, true, true, true, true, true, true, true, true, true, false] rfl rfl (one_of HT_.out (by kernel_rfl)) (by decide) (fun K hK => ?_)
              refine goes_ Try.func28 (by kernel_rfl) rfl #[.agg #[.int .i64 ((rd_T39 l0 x7_1).f0), .int .i64 ((rd_T39 l0 x7_1).f1), .string ((rd_T39 l0 x7_1).f2), .bool ((rd_T39 l0 x7_1).f3), .string ((rd_T39 l0 x7_1).f4)]] (by rfl) rfl rfl (by (try simp only [List.map_toArray, List.map_cons, List.map_nil]); first | done | rfl | (simp only [List.length_drop, List.length_take]; rfl)) ?_
              with_reducible refine (ringworkref25_Valid.calls k1 ((rd_T39 l0 x7_1).f0) ((rd_T39 l0 x7_1).f1) ((rd_T39 l0 x7_1).f2) ((rd_T39 l0 x7_1).f3) ((rd_T39 l0 x7_1).f4) t220 _ A9.out).mono ?_
              rintro e w16 ⟨rfl, hb⟩
              refine ⟨_, rfl, ?_⟩
              have n0_ := Aside0.mk (below_step (by repeat (first | (with_reducible first | exact HB.out | apply below_alloc | apply pw_below_drewN | apply below_drew1) | exact HB.out)) hb)
              clear HB
              have HB := n0_
              clear n0_
              (try clear hb)
              (try clear hb2)
              (try clear hk)
              (try clear hi)
              refine hK.out _ _ ⟨((HB.out.cell (World.block_lt_of_cell? w _ hw217_0)).trans hw217_0), ((HB.out.cell (World.block_lt_of_cell? w _ hw217_1)).trans hw217_1), ((HB.out.cell (World.block_lt_of_cell? w _ hw217_2)).trans hw217_2), ((HB.out.cell (World.block_lt_of_cell? w _ hw217_3)).trans hw217_3), ((HB.out.cell (World.block_lt_of_cell? w _ hw217_4)).trans hw217_4), ((HB.out.cell (World.block_lt_of_cell? w _ hw219_0)).trans hw219_0), ((HB.out.cell (World.block_lt_of_cell? w _ hw219_1)).trans hw219_1), ((HB.out.cell (World.block_lt_of_cell? w _ hw219_2)).trans hw219_2), ((HB.out.cell (World.block_lt_of_cell? w _ hw219_3)).trans hw219_3), ((HB.out.cell (World.block_lt_of_cell? w _ hw219_4)).trans hw219_4)⟩ (fun hHeld => ?_)
              clear hK K
              refine norm_ (a' := ?_) ?_ ?_
              rotate_left
              · show Act.put _ (some 41) _ = _
                simp only [Act.put, List.setIfInBounds_toArray, List.set_cons_zero, List.set_cons_succ, i64_w, i32_w]
                rfl
              refine pure_ (i := 10) (N := some 42) (v := ?_) (a' := ?_) #[true, true, true, true, true, true, true, true, true, true, true] rfl rfl (any_of HT_.out (by kernel_rfl)) (fun _ _ _ h => h) (Or.inl ⟨by rfl, ?_⟩) ?_ ?_
              rotate_left
              · intro w'
                go_simp
                with_reducible rfl
              rotate_left
              · simp only [Act.put, List.setIfInBounds_toArray, List.set_cons_zero, List.set_cons_succ, i64_w, i32_w]
                rfl
              refine done_ (done_of HT_.out (by kernel_rfl)) ?_
              try go_wp2
              go_roundg k1
              case measure => have := HK1.out; omega
              case rel => exact ⟨(wrap64 (x7_1 + 1)), (by first | rfl | (simp; done) | (simp [*]; done)), H', ⟨by have := HK1.out; omega⟩, ⟨by repeat (first | (with_reducible first | exact HB.out | apply below_alloc | apply pw_below_drewN | apply below_drew1) | exact HB.out)⟩⟩
          · rw [if_neg c7] at H
            exact absurd H (by simp)
        · rw [if_neg c6] at H
          have c6b0 : decide (x7_1 < (l0.length : Int)) = false := decide_eq_false c6
          clear c6
          replace H := Option.bind_eq_some_iff.mp H
          obtain ⟨⟨t221, t222⟩, A170, H⟩ := H
          replace H : ((ringworkref25_Encode.f k1 l0).bind fun bt223 => (if t221.toList = bt223.1.toList then (if t222 = bt223.2 then ((journal_Sum.f a2 t221).bind fun t225 => ((ringworkref25_Sum.f a2 t221).bind fun t226 => (ringworklaw25_JournalBytes.j1 k1 l0 a1 t221 t222 (t225 != t226)))) else (ringworklaw25_JournalBytes.j1 k1 l0 a1 t221 t222 true)) else (ringworklaw25_JournalBytes.j1 k1 l0 a1 t221 t222 true))) = some r := H
          have A17 := Aside0.mk A170
          clear A170
          replace H := Option.bind_eq_some_iff.mp H
          obtain ⟨⟨t223, t224⟩, A180, H⟩ := H
          replace H : (if t221.toList = t223.toList then (if t222 = t224 then ((journal_Sum.f a2 t221).bind fun t225 => ((ringworkref25_Sum.f a2 t221).bind fun t226 => (ringworklaw25_JournalBytes.j1 k1 l0 a1 t221 t222 (t225 != t226)))) else (ringworklaw25_JournalBytes.j1 k1 l0 a1 t221 t222 true)) else (ringworklaw25_JournalBytes.j1 k1 l0 a1 t221 t222 true)) = some r := H
          have A18 := Aside0.mk A180
          clear A180
          have HC19 := Aside0.mk H
          clear H
          go_upto_region 10 with (first | ((with_reducible refine gate_callee (f := 29) rfl ?_); refine goesL_ (some 45) rfl rfl Try.func29 (by kernel_rfl) rfl #[.slice A0 l0.length c0] rfl (by (try simp only [List.map_toArray, List.map_cons, List.map_nil]); first | done | rfl | (simp only [List.length_drop, List.length_take]; rfl)) ?_; (with_reducible refine (journal_Encode.calls _ _ l0 t221 t222 _ ?side1 ?side2 A17.out).mono ?_); (case side1 => repeat (first | exact (Kd.C_below HR0.out HB.out) | (with_reducible refine Kd.C_alloc ?_ _) | (with_reducible refine Kd.C_drewN ?_ _) | (with_reducible refine Kd.C_drew ?_))); (case side2 => exact HC0.out); rintro e w20 ⟨rfl, hb⟩; refine ⟨_, rfl, ?_⟩; have n0_ := Aside0.mk (below_step (by repeat (first | (with_reducible first | exact HB.out | apply below_alloc | apply pw_below_drewN | apply below_drew1) | exact HB.out)) hb); clear HB; have HB := n0_; clear n0_; (try clear hb); (try clear hb2); (try clear hk); (try clear hi)) | ((with_reducible refine gate_callee (f := 26) rfl ?_); refine goesL_ (some 50) rfl rfl Try.func26 (by kernel_rfl) rfl #[.slice A0 l0.length c0] rfl (by (try simp only [List.map_toArray, List.map_cons, List.map_nil]); first | done | rfl | (simp only [List.length_drop, List.length_take]; rfl)) ?_; (with_reducible refine (ringworkref25_Encode.calls k1 _ _ l0 t223 t224 _ ?side1 ?side2 A18.out).mono ?_); (case side1 => repeat (first | exact (Kd.C_below HR0.out HB.out) | (with_reducible refine Kd.C_alloc ?_ _) | (with_reducible refine Kd.C_drewN ?_ _) | (with_reducible refine Kd.C_drew ?_))); (case side2 => exact HC0.out); rintro e w21 ⟨rfl, hb⟩; refine ⟨_, rfl, ?_⟩; have n0_ := Aside0.mk (below_step (by repeat (first | (with_reducible first | exact HB.out | apply below_alloc | apply pw_below_drewN | apply below_drew1) | exact HB.out)) hb); clear HB; have HB := n0_; clear n0_; (try clear hb); (try clear hb2); (try clear hk); (try clear hi)))
          (try simp only [Act.put, List.setIfInBounds_toArray, List.set_cons_zero, List.set_cons_succ])
          go_cut [69] (fun v69 wc => ∃ (kq : Nat) (x69_18 : Bool), v69 = .bool x69_18 ∧ Aside0 (ringworklaw25_JournalBytes.j1 kq l0 a1 t221 t222 x69_18 = some r) ∧ Aside0 (kq ≤ k1) ∧ Aside0 (Below w.heap.size w wc))
          case first =>
            have H := HC19.out
            clear HC19
            by_cases c22 : t221.toList = t223.toList
            · rw [if_pos c22] at H
              have c22b0 : (t221.toList == t223.toList) = true := beq_iff_eq.mpr c22
              have c22b1 : (t221.toList != t223.toList) = false := bne_eq_false_iff_eq.mpr c22
              clear c22
              (first | rw [c22b0] | (simp only [i64_w, i32_w]; rw [c22b0]) | skip)
              by_cases c23 : t222 = t224
              · rw [if_pos c23] at H
                have c23b0 : (t222 == t224) = true := beq_iff_eq.mpr c23
                have c23b1 : (t222 != t224) = false := bne_eq_false_iff_eq.mpr c23
                clear c23
                replace H := Option.bind_eq_some_iff.mp H
                obtain ⟨t225, A240, H⟩ := H
                replace H : ((ringworkref25_Sum.f a2 t221).bind fun t226 => (ringworklaw25_JournalBytes.j1 k1 l0 a1 t221 t222 (t225 != t226))) = some r := H
                have A24 := Aside0.mk A240
                clear A240
                replace H := Option.bind_eq_some_iff.mp H
                obtain ⟨t226, A250, H⟩ := H
                replace H : (ringworklaw25_JournalBytes.j1 k1 l0 a1 t221 t222 (t225 != t226)) = some r := H
                have A25 := Aside0.mk A250
                clear A250
                have H' := Aside0.mk H
                clear H
                go_wp2_with (first | (go_at_call 30; (with_reducible refine (journal_Sum.calls a2 t221 t225 _ A24.out).mono ?_); rintro e w26 ⟨rfl, hb⟩; have n0_ := Aside0.mk (below_step (by repeat (first | (with_reducible first | exact HB.out | apply below_alloc | apply pw_below_drewN | apply below_drew1) | exact HB.out)) hb); clear HB; have HB := n0_; clear n0_; (try clear hb); (try clear hb2); (try clear hk); (try clear hi)) | (go_at_call 31; (with_reducible refine (ringworkref25_Sum.calls a2 t221 t226 _ A25.out).mono ?_); rintro e w27 ⟨rfl, hb⟩; have n0_ := Aside0.mk (below_step (by repeat (first | (with_reducible first | exact HB.out | apply below_alloc | apply pw_below_drewN | apply below_drew1) | exact HB.out)) hb); clear HB; have HB := n0_; clear n0_; (try clear hb); (try clear hb2); (try clear hk); (try clear hi)))
                go_meet
                case rel => exact ⟨_, ((t225 != t226)), (by first | rfl | (simp; done) | (simp [*]; done)), H', ⟨by have := HK1.out; first | omega | exact Nat.le_refl _⟩, ⟨by repeat (first | (with_reducible first | exact HB.out | apply below_alloc | apply pw_below_drewN | apply below_drew1) | exact HB.out)⟩⟩
              · rw [if_neg c23] at H
                have c23b0 : (t222 == t224) = false := beq_eq_false_iff_ne.mpr c23
                have c23b1 : (t222 != t224) = true := bne_iff_ne.mpr c23
                have H' := Aside0.mk H
                clear H
                go_wp2
                go_meet
                case rel => exact ⟨_, (true), (by first | rfl | (simp; done) | (simp [*]; done)), H', ⟨by have := HK1.out; first | omega | exact Nat.le_refl _⟩, ⟨by repeat (first | (with_reducible first | exact HB.out | apply below_alloc | apply pw_below_drewN | apply below_drew1) | exact HB.out)⟩⟩
            · rw [if_neg c22] at H
              have c22b0 : (t221.toList == t223.toList) = false := beq_eq_false_iff_ne.mpr c22
              have c22b1 : (t221.toList != t223.toList) = true := bne_iff_ne.mpr c22
              (first | rw [c22b0] | (simp only [i64_w, i32_w]; rw [c22b0]) | skip)
              have H' := Aside0.mk H
              clear H
              go_wp2
              go_meet
              case rel => exact ⟨_, (true), (by first | rfl | (simp; done) | (simp [*]; done)), H', ⟨by have := HK1.out; first | omega | exact Nat.le_refl _⟩, ⟨by repeat (first | (with_reducible first | exact HB.out | apply below_alloc | apply pw_below_drewN | apply below_drew1) | exact HB.out)⟩⟩
          case rest =>
            clear HC19
            try clear c1
            try clear c2
            try clear p2
            try clear q2
            try clear hx2
            try clear c5
            try clear c6
            try clear c6b0
            try clear p6
            try clear c7
            try clear c7b0
            try clear c8
            try clear c10
            try clear c10b0
            try clear c10b1
            try clear c10b2
            try clear p21
            try clear q21
            try clear hx21
            try clear c22
            try clear c22b0
            try clear c22b1
            try clear c23
            try clear c23b0
            try clear c23b1
            try clear c26
            try clear c27
            try clear hx217_0
            try clear hx217_1
            try clear hx217_2
            try clear hx217_3
            try clear hx217_4
            try clear hx219_0
            try clear hx219_1
            try clear hx219_2
            try clear hx219_3
            try clear hx219_4
            try clear p2
            try clear p217
            try clear p219
            try clear q217
            try clear q219
            obtain ⟨kq, x69_18, rfl, HA, HJ18, HB⟩ := hcut
            cases kq with
            | zero => exact absurd HA.out (by simp [ringworklaw25_JournalBytes.j1])
            | succ kj18 =>
              have H := HA.out
              clear HA
              simp only [ringworklaw25_JournalBytes.j1] at H
              by_cases c28 : x69_18 = true
              · subst c28
                have H1 : (some false) = some r := by rw [if_pos rfl] at H; exact H
                clear H
                have H := H1
                clear H1
                obtain rfl := Option.some.inj H
                go_wp2
                go_ret
                exact ⟨by first | rfl | (simp [errW_none, errW_some] <;> rfl) | (simp [*, errW_none, errW_some] <;> rfl), by repeat (first | (with_reducible first | exact HB.out | apply below_alloc | apply pw_below_drewN | apply below_drew1) | exact HB.out)⟩
              · replace c28 := Bool.eq_false_iff.mpr c28
                subst c28
                have H1 : (if t222 = 0 then ((journal_Decode.f t221).bind fun bt228 => (if bt228.2.2.2 = 0 then (if bt228.2.1 = (t221.size : Int) then (if bt228.2.2.1 = true then (ringworklaw25_JournalBytes.j2 kj18 a1 t221 true) else ((ringworkref25_SameNotes.f kj18 bt228.1 l0).bind fun t234 => (ringworklaw25_JournalBytes.j2 kj18 a1 t221 (!t234)))) else (ringworklaw25_JournalBytes.j2 kj18 a1 t221 true)) else (ringworklaw25_JournalBytes.j2 kj18 a1 t221 true))) else ((ringworklaw25_awake.f).bind fun t227 => (some t227))) = some r := by rw [if_neg (show ¬ (false = true) by decide)] at H; exact H
                clear H
                have H := H1
                clear H1
                by_cases c29 : t222 = 0
                · rw [if_pos c29] at H
                  have c29b0 : (t222 == 0) = true := beq_iff_eq.mpr c29
                  have c29b1 : (t222 != 0) = false := bne_eq_false_iff_eq.mpr c29
                  clear c29
                  replace H := Option.bind_eq_some_iff.mp H
                  obtain ⟨⟨t228, t229, t230, t231⟩, A300, H⟩ := H
                  replace H : (if t231 = 0 then (if t229 = (t221.size : Int) then (if t230 = true then (ringworklaw25_JournalBytes.j2 kj18 a1 t221 true) else ((ringworkref25_SameNotes.f kj18 t228 l0).bind fun t234 => (ringworklaw25_JournalBytes.j2 kj18 a1 t221 (!t234)))) else (ringworklaw25_JournalBytes.j2 kj18 a1 t221 true)) else (ringworklaw25_JournalBytes.j2 kj18 a1 t221 true)) = some r := H
                  have A30 := Aside0.mk A300
                  clear A300
                  have HC31 := Aside0.mk H
                  clear H
                  go_upto_region 15 with (first | ((with_reducible refine gate_callee (f := 23) rfl ?_); refine goesL_ (some 75) rfl rfl Try.func23 (by kernel_rfl) rfl #[.string t221] rfl (by (try simp only [List.map_toArray, List.map_cons, List.map_nil]); first | done | rfl | (simp only [List.length_drop, List.length_take]; rfl)) ?_; (with_reducible refine (journal_Decode.calls t221 t228 t229 t230 t231 _ A30.out).mono ?_); rintro e w32 ⟨v232, rfl, ho0, hb⟩; refine ⟨_, rfl, ?_⟩; have n0_ := Aside0.mk (Kd.R_lower ho0 (below_size (by repeat (first | (with_reducible first | exact HB.out | apply below_alloc | apply pw_below_drewN | apply below_drew1) | exact HB.out)))); have n1_ := Aside0.mk (below_step (by repeat (first | (with_reducible first | exact HB.out | apply below_alloc | apply pw_below_drewN | apply below_drew1) | exact HB.out)) hb); clear HB; have HO233 := n0_; have HB := n1_; clear n0_ n1_; (try clear hb); (try clear hb2); (try clear hk); (try clear hi); (try clear ho0)))
                  (try simp only [Act.put, List.setIfInBounds_toArray, List.set_cons_zero, List.set_cons_succ])
                  go_cut [96] (fun v96 wc => ∃ (kq : Nat) (x96_30 : Bool), v96 = .bool x96_30 ∧ Aside0 (ringworklaw25_JournalBytes.j2 kq a1 t221 x96_30 = some r) ∧ Aside0 (kq ≤ kj18) ∧ Aside0 (Below w.heap.size w wc))
                  case first =>
                    have H := HC31.out
                    clear HC31
                    by_cases c33 : t231 = 0
                    · rw [if_pos c33] at H
                      have c33b0 : (t231 == 0) = true := beq_iff_eq.mpr c33
                      have c33b1 : (t231 != 0) = false := bne_eq_false_iff_eq.mpr c33
                      clear c33
                      (first | rw [c33b0] | (simp only [i64_w, i32_w]; rw [c33b0]) | skip)
                      by_cases c34 : t229 = (t221.size : Int)
                      · rw [if_pos c34] at H
                        have c34b0 : (t229 == (t221.size : Int)) = true := beq_iff_eq.mpr c34
                        have c34b1 : (t229 != (t221.size : Int)) = false := bne_eq_false_iff_eq.mpr c34
                        clear c34
                        by_cases c35 : t230 = true
                        · subst c35
                          have H1 : (ringworklaw25_JournalBytes.j2 kj18 a1 t221 true) = some r := by rw [if_pos rfl] at H; exact H
                          clear H
                          have H := H1
                          clear H1
                          have H' := Aside0.mk H
                          clear H
                          go_wp2
                          go_meet
                          case rel => exact ⟨_, (true), (by first | rfl | (simp; done) | (simp [*]; done)), H', ⟨by have := HK1.out; have := HJ18.out; first | omega | exact Nat.le_refl _⟩, ⟨by repeat (first | (with_reducible first | exact HB.out | apply below_alloc | apply pw_below_drewN | apply below_drew1) | exact HB.out)⟩⟩
                        · replace c35 := Bool.eq_false_iff.mpr c35
                          subst c35
                          have H1 : ((ringworkref25_SameNotes.f kj18 t228 l0).bind fun t234 => (ringworklaw25_JournalBytes.j2 kj18 a1 t221 (!t234))) = some r := by rw [if_neg (show ¬ (false = true) by decide)] at H; exact H
                          clear H
                          have H := H1
                          clear H1
                          replace H := Option.bind_eq_some_iff.mp H
                          obtain ⟨t234, A360, H⟩ := H
                          replace H : (ringworklaw25_JournalBytes.j2 kj18 a1 t221 (!t234)) = some r := H
                          have A36 := Aside0.mk A360
                          clear A360
                          have H' := Aside0.mk H
                          clear H
                          obtain ⟨Ao37, co37, eo37⟩ := Kd.R_slice HO233.out
                          subst eo37
                          go_wp2_with (first | (go_at_call 25; (with_reducible refine (ringworkref25_SameNotes.calls kj18 _ _ t228 _ _ l0 t234 _ ?side1 ?side2 ?side3 ?side4 A36.out).mono ?_); (case side1 => repeat (first | exact (Kd.R_reads' HO233.out).2.2 | (with_reducible refine Kd.C_alloc ?_ _) | (with_reducible refine Kd.C_drewN ?_ _) | (with_reducible refine Kd.C_drew ?_))); (case side2 => exact (Kd.R_reads' HO233.out).2.1); (case side3 => repeat (first | exact (Kd.C_below HR0.out HB.out) | (with_reducible refine Kd.C_alloc ?_ _) | (with_reducible refine Kd.C_drewN ?_ _) | (with_reducible refine Kd.C_drew ?_))); (case side4 => exact HC0.out); rintro e w' ⟨rfl, ⟨nd, rfl⟩⟩))
                          go_meet
                          case rel => exact ⟨_, (!t234), (by first | rfl | (simp; done) | (simp [*]; done)), H', ⟨by have := HK1.out; have := HJ18.out; first | omega | exact Nat.le_refl _⟩, ⟨by repeat (first | (with_reducible first | exact HB.out | apply below_alloc | apply pw_below_drewN | apply below_drew1) | exact HB.out)⟩⟩
                      · rw [if_neg c34] at H
                        have c34b0 : (t229 == (t221.size : Int)) = false := beq_eq_false_iff_ne.mpr c34
                        have c34b1 : (t229 != (t221.size : Int)) = true := bne_iff_ne.mpr c34
                        have H' := Aside0.mk H
                        clear H
                        go_wp2
                        go_meet
                        case rel => exact ⟨_, (true), (by first | rfl | (simp; done) | (simp [*]; done)), H', ⟨by have := HK1.out; have := HJ18.out; first | omega | exact Nat.le_refl _⟩, ⟨by repeat (first | (with_reducible first | exact HB.out | apply below_alloc | apply pw_below_drewN | apply below_drew1) | exact HB.out)⟩⟩
                    · rw [if_neg c33] at H
                      have c33b0 : (t231 == 0) = false := beq_eq_false_iff_ne.mpr c33
                      have c33b1 : (t231 != 0) = true := bne_iff_ne.mpr c33
                      (first | rw [c33b0] | (simp only [i64_w, i32_w]; rw [c33b0]) | skip)
                      have H' := Aside0.mk H
                      clear H
                      go_wp2
                      go_meet
                      case rel => exact ⟨_, (true), (by first | rfl | (simp; done) | (simp [*]; done)), H', ⟨by have := HK1.out; have := HJ18.out; first | omega | exact Nat.le_refl _⟩, ⟨by repeat (first | (with_reducible first | exact HB.out | apply below_alloc | apply pw_below_drewN | apply below_drew1) | exact HB.out)⟩⟩
                  case rest =>
                    clear HC31
                    try clear c1
                    try clear c2
                    try clear p2
                    try clear q2
                    try clear hx2
                    try clear c3
                    try clear c5
                    try clear c6
                    try clear c6b0
                    try clear p6
                    try clear c7
                    try clear c7b0
                    try clear c8
                    try clear c10
                    try clear c10b0
                    try clear c10b1
                    try clear c10b2
                    try clear p21
                    try clear q21
                    try clear hx21
                    try clear c22
                    try clear c22b0
                    try clear c22b1
                    try clear c23
                    try clear c23b0
                    try clear c23b1
                    try clear c26
                    try clear c27
                    try clear c28
                    try clear c29
                    try clear c29b0
                    try clear c29b1
                    try clear c33
                    try clear c33b0
                    try clear c33b1
                    try clear c34
                    try clear c34b0
                    try clear c34b1
                    try clear c35
                    try clear hx217_0
                    try clear hx217_1
                    try clear hx217_2
                    try clear hx217_3
                    try clear hx217_4
                    try clear hx219_0
                    try clear hx219_1
                    try clear hx219_2
                    try clear hx219_3
                    try clear hx219_4
                    try clear p2
                    try clear p21
                    try clear p217
                    try clear p219
                    try clear p6
                    try clear q2
                    try clear q21
                    try clear q217
                    try clear q219
                    obtain ⟨kq, x96_30, rfl, HA, HJ30, HB⟩ := hcut
                    cases kq with
                    | zero => exact absurd HA.out (by simp [ringworklaw25_JournalBytes.j2])
                    | succ kj30 =>
                      have H := HA.out
                      clear HA
                      simp only [ringworklaw25_JournalBytes.j2] at H
                      by_cases c38 : x96_30 = true
                      · subst c38
                        have H1 : (some false) = some r := by rw [if_pos rfl] at H; exact H
                        clear H
                        have H := H1
                        clear H1
                        obtain rfl := Option.some.inj H
                        go_wp2
                        go_ret
                        exact ⟨by first | rfl | (simp [errW_none, errW_some] <;> rfl) | (simp [*, errW_none, errW_some] <;> rfl), by repeat (first | (with_reducible first | exact HB.out | apply below_alloc | apply pw_below_drewN | apply below_drew1) | exact HB.out)⟩
                      · replace c38 := Bool.eq_false_iff.mpr c38
                        subst c38
                        have H1 : (if (IntKind.u64.wrap (wrap64 ((t221.size : Int) + 1))) = 0 then (none) else (if 0 ≤ (wrap64 (Int.tmod (IntKind.u64.wrap (a1)) (IntKind.u64.wrap (wrap64 ((t221.size : Int) + 1))))) then (if (wrap64 (Int.tmod (IntKind.u64.wrap (a1)) (IntKind.u64.wrap (wrap64 ((t221.size : Int) + 1))))) ≤ (t221.size : Int) then ((journal_Decode.f (t221.extract 0 ((wrap64 (Int.tmod (IntKind.u64.wrap (a1)) (IntKind.u64.wrap (wrap64 ((t221.size : Int) + 1))))) : Int).toNat)).bind fun bt235 => ((ringworkref25_Decode.f kj30 (t221.extract 0 ((wrap64 (Int.tmod (IntKind.u64.wrap (a1)) (IntKind.u64.wrap (wrap64 ((t221.size : Int) + 1))))) : Int).toNat)).bind fun bt241 => (if bt235.2.2.2 = 0 then ((ringworkref25_SameNotes.f kj30 bt235.1 bt241.1).bind fun t248 => (if t248 = true then (if bt235.2.1 = bt241.2.1 then (if (bt235.2.2.1 == bt241.2.2.1) = true then (if (bt235.2.2.1 == (decide (bt235.2.1 < (wrap64 (Int.tmod (IntKind.u64.wrap (a1)) (IntKind.u64.wrap (wrap64 ((t221.size : Int) + 1)))))))) = true then ((ringworklaw25_awake.f).bind fun t249 => (some t249)) else (some false)) else (some false)) else (some false)) else (some false))) else (some false)))) else (none)) else (none))) = some r := by rw [if_neg (show ¬ (false = true) by decide)] at H; exact H
                        clear H
                        have H := H1
                        clear H1
                        by_cases c39 : (IntKind.u64.wrap (wrap64 ((t221.size : Int) + 1))) = 0
                        · rw [if_pos c39] at H
                          exact absurd H (by simp)
                        · rw [if_neg c39] at H
                          have c39b0 : ((IntKind.u64.wrap (wrap64 ((t221.size : Int) + 1))) == 0) = false := beq_eq_false_iff_ne.mpr c39
                          have c39b1 : ((IntKind.u64.wrap (wrap64 ((t221.size : Int) + 1))) != 0) = true := bne_iff_ne.mpr c39
                          obtain ⟨ji40, hji40⟩ : ∃ j_ : Int, (wrap64 (Int.tmod (IntKind.u64.wrap (a1)) (IntKind.u64.wrap (wrap64 ((t221.size : Int) + 1))))) = j_ := ⟨_, rfl⟩
                          replace H : (if 0 ≤ (ji40) then (if (ji40) ≤ (t221.size : Int) then ((journal_Decode.f (t221.extract 0 ((ji40) : Int).toNat)).bind fun bt235 => ((ringworkref25_Decode.f kj30 (t221.extract 0 ((ji40) : Int).toNat)).bind fun bt241 => (if bt235.2.2.2 = 0 then ((ringworkref25_SameNotes.f kj30 bt235.1 bt241.1).bind fun t248 => (if t248 = true then (if bt235.2.1 = bt241.2.1 then (if (bt235.2.2.1 == bt241.2.2.1) = true then (if (bt235.2.2.1 == (decide (bt235.2.1 < (ji40)))) = true then ((ringworklaw25_awake.f).bind fun t249 => (some t249)) else (some false)) else (some false)) else (some false)) else (some false))) else (some false)))) else (none)) else (none)) = some r := by first | (rw [hji40] at H; exact H) | (simp only [hji40] at H ⊢; exact H)
                          have hji40w : (IntKind.i64.wrap (Int.tmod (IntKind.u64.wrap (a1)) (IntKind.u64.wrap (wrap64 ((t221.size : Int) + 1))))) = ji40 := (i64_w _).trans hji40
                          by_cases c41 : 0 ≤ (ji40)
                          · rw [if_pos c41] at H
                            have c41b0 := eq_true c41
                            have c41b1 : decide (0 ≤ (ji40)) = true := decide_eq_true c41
                            clear c41
                            by_cases c42 : (ji40) ≤ (t221.size : Int)
                            · rw [if_pos c42] at H
                              have c42b0 := eq_true c42
                              have c42b1 : decide ((ji40) ≤ (t221.size : Int)) = true := decide_eq_true c42
                              clear c42
                              replace H := Option.bind_eq_some_iff.mp H
                              obtain ⟨⟨t235, t236, t237, t238⟩, A430, H⟩ := H
                              replace H : ((ringworkref25_Decode.f kj30 (t221.extract 0 ((ji40) : Int).toNat)).bind fun bt241 => (if t238 = 0 then ((ringworkref25_SameNotes.f kj30 t235 bt241.1).bind fun t248 => (if t248 = true then (if t236 = bt241.2.1 then (if (t237 == bt241.2.2.1) = true then (if (t237 == (decide (t236 < (ji40)))) = true then ((ringworklaw25_awake.f).bind fun t249 => (some t249)) else (some false)) else (some false)) else (some false)) else (some false))) else (some false))) = some r := H
                              have A43 := Aside0.mk A430
                              clear A430
                              have c44b0 := eq_true (of_decide_eq_true (by first | (with_reducible assumption) | assumption) : 0 ≤ (ji40))
                              have c45b0 := eq_true (of_decide_eq_true (by first | (with_reducible assumption) | assumption) : (ji40) ≤ (t221.size : Int))
                              replace H := Option.bind_eq_some_iff.mp H
                              obtain ⟨⟨t241, t242, t243, t244, t245⟩, A460, H⟩ := H
                              replace H : (if t238 = 0 then ((ringworkref25_SameNotes.f kj30 t235 t241).bind fun t248 => (if t248 = true then (if t236 = t242 then (if (t237 == t243) = true then (if (t237 == (decide (t236 < (ji40)))) = true then ((ringworklaw25_awake.f).bind fun t249 => (some t249)) else (some false)) else (some false)) else (some false)) else (some false))) else (some false)) = some r := H
                              have A46 := Aside0.mk A460
                              clear A460
                              by_cases c47 : t238 = 0
                              · rw [if_pos c47] at H
                                have c47b0 : (t238 == 0) = true := beq_iff_eq.mpr c47
                                have c47b1 : (t238 != 0) = false := bne_eq_false_iff_eq.mpr c47
                                clear c47
                                replace H := Option.bind_eq_some_iff.mp H
                                obtain ⟨t248, A480, H⟩ := H
                                replace H : (if t248 = true then (if t236 = t242 then (if (t237 == t243) = true then (if (t237 == (decide (t236 < (ji40)))) = true then ((ringworklaw25_awake.f).bind fun t249 => (some t249)) else (some false)) else (some false)) else (some false)) else (some false)) = some r := H
                                have A48 := Aside0.mk A480
                                clear A480
                                by_cases c49 : t248 = true
                                · subst c49
                                  have H1 : (if t236 = t242 then (if (t237 == t243) = true then (if (t237 == (decide (t236 < (ji40)))) = true then ((ringworklaw25_awake.f).bind fun t249 => (some t249)) else (some false)) else (some false)) else (some false)) = some r := by rw [if_pos rfl] at H; exact H
                                  clear H
                                  have H := H1
                                  clear H1
                                  by_cases c50 : t236 = t242
                                  · rw [if_pos c50] at H
                                    have c50b0 : (t236 == t242) = true := beq_iff_eq.mpr c50
                                    have c50b1 : (t236 != t242) = false := bne_eq_false_iff_eq.mpr c50
                                    clear c50
                                    by_cases c51 : (t237 == t243) = true
                                    · rw [if_pos c51] at H
                                      have c51b0 : (t237 == t243) = true := c51
                                      (try (have c51b1 : decide (t237 = t243) = true := by simpa using c51))
                                      (try (have c51b2 : (t237 == t243) = true := by simpa using c51))
                                      clear c51
                                      by_cases c52 : (t237 == (decide (t236 < (ji40)))) = true
                                      · rw [if_pos c52] at H
                                        have c52b0 : (t237 == (decide (t236 < (ji40)))) = true := c52
                                        (try (have c52b1 : decide (t237 = (decide (t236 < (ji40)))) = true := by simpa using c52))
                                        (try (have c52b2 : (t237 == (decide (t236 < (ji40)))) = true := by simpa using c52))
                                        clear c52
                                        replace H := Option.bind_eq_some_iff.mp H
                                        obtain ⟨t249, A530, H⟩ := H
                                        replace H : (some t249) = some r := H
                                        have A53 := Aside0.mk A530
                                        clear A530
                                        obtain rfl := Option.some.inj H
                                        go_wp2_with (first | ((with_reducible refine gate_callee (f := 23) rfl ?_); refine goesL_ (some 109) rfl rfl Try.func23 (by kernel_rfl) rfl #[.string (t221.extract 0 ((ji40) : Int).toNat)] rfl (by (try simp only [List.map_toArray, List.map_cons, List.map_nil]); first | done | (simp only [hji40]; rfl) | rfl | (simp only [List.length_drop, List.length_take]; rfl)) ?_; (with_reducible refine (journal_Decode.calls (t221.extract 0 ((ji40) : Int).toNat) t235 t236 t237 t238 _ A43.out).mono ?_); rintro e w54 ⟨v239, rfl, ho0, hb⟩; refine ⟨_, rfl, ?_⟩; have n0_ := Aside0.mk (Kd.R_lower ho0 (below_size (by repeat (first | (with_reducible first | exact HB.out | apply below_alloc | apply pw_below_drewN | apply below_drew1) | exact HB.out)))); have n1_ := Aside0.mk (below_step (by repeat (first | (with_reducible first | exact HB.out | apply below_alloc | apply pw_below_drewN | apply below_drew1) | exact HB.out)) hb); clear HB; have HO240 := n0_; have HB := n1_; clear n0_ n1_; (try clear hb); (try clear hb2); (try clear hk); (try clear hi); (try clear ho0)) | ((with_reducible refine gate_callee (f := 24) rfl ?_); refine goesL_ (some 118) rfl rfl Try.func24 (by kernel_rfl) rfl #[.string (t221.extract 0 ((ji40) : Int).toNat)] rfl (by (try simp only [List.map_toArray, List.map_cons, List.map_nil]); first | done | (simp only [hji40]; rfl) | rfl | (simp only [List.length_drop, List.length_take]; rfl)) ?_; (with_reducible refine (ringworkref25_Decode.calls kj30 (t221.extract 0 ((ji40) : Int).toNat) t241 t242 t243 t244 t245 _ A46.out).mono ?_); rintro e w55 ⟨v246, rfl, ho0, hb⟩; refine ⟨_, rfl, ?_⟩; have n0_ := Aside0.mk (Kd.R_elder' (by (with_reducible repeat (first | apply Kd.R_alloc | apply Kd.R_drewN | apply Kd.R_drew)); exact HO240.out) (Kd.R_base ho0) hb); have n1_ := Aside0.mk (Kd.R_lower (Kd.R_new' ho0 (Kd.R_lt (by (with_reducible repeat (first | apply Kd.R_alloc | apply Kd.R_drewN | apply Kd.R_drew)); exact HO240.out))) (below_size (by repeat (first | (with_reducible first | exact HB.out | apply below_alloc | apply pw_below_drewN | apply below_drew1) | exact HB.out)))); have n2_ := Aside0.mk (below_step (by repeat (first | (with_reducible first | exact HB.out | apply below_alloc | apply pw_below_drewN | apply below_drew1) | exact HB.out)) hb); clear HO240; clear HB; have HO240 := n0_; have HO247 := n1_; have HB := n2_; clear n0_ n1_ n2_; (try clear hb); (try clear hb2); (try clear hk); (try clear hi); (try clear ho0); obtain ⟨Ao56, co56, eo56⟩ := Kd.R_slice HO240.out; subst eo56; obtain ⟨Ao57, co57, eo57⟩ := Kd.R_slice HO247.out; subst eo57) | (go_at_call 25; (with_reducible refine (ringworkref25_SameNotes.calls kj30 _ _ t235 _ _ t241 true _ ?side1 ?side2 ?side3 ?side4 A48.out).mono ?_); (case side1 => repeat (first | exact (Kd.R_reads' HO240.out).2.2 | (with_reducible refine Kd.C_alloc ?_ _) | (with_reducible refine Kd.C_drewN ?_ _) | (with_reducible refine Kd.C_drew ?_))); (case side2 => exact (Kd.R_reads' HO240.out).2.1); (case side3 => repeat (first | exact (Kd.R_reads' HO247.out).2.2 | (with_reducible refine Kd.C_alloc ?_ _) | (with_reducible refine Kd.C_drewN ?_ _) | (with_reducible refine Kd.C_drew ?_))); (case side4 => exact (Kd.R_reads' HO247.out).2.1); rintro e w' ⟨rfl, ⟨nd, rfl⟩⟩) | (go_at_call 12; (with_reducible refine (ringworklaw25_awake.calls  t249 _ A53.out).mono ?_); rintro e w58 ⟨rfl, hb⟩; have n0_ := Aside0.mk (Kd.R_below (by (with_reducible repeat (first | apply Kd.R_alloc | apply Kd.R_drewN | apply Kd.R_drew)); exact HO240.out) hb); have n1_ := Aside0.mk (Kd.R_below (by (with_reducible repeat (first | apply Kd.R_alloc | apply Kd.R_drewN | apply Kd.R_drew)); exact HO247.out) hb); have n2_ := Aside0.mk (below_step (by repeat (first | (with_reducible first | exact HB.out | apply below_alloc | apply pw_below_drewN | apply below_drew1) | exact HB.out)) hb); clear HO240; clear HO247; clear HB; have HO240 := n0_; have HO247 := n1_; have HB := n2_; clear n0_ n1_ n2_; (try clear hb); (try clear hb2); (try clear hk); (try clear hi)))
                                        go_ret
                                        exact ⟨by first | rfl | (simp [errW_none, errW_some] <;> rfl) | (simp only [← hji40]; first | rfl | (simp [errW_none, errW_some] <;> rfl)) | (simp [*, errW_none, errW_some] <;> rfl), by repeat (first | (with_reducible first | exact HB.out | apply below_alloc | apply pw_below_drewN | apply below_drew1) | exact HB.out)⟩
                                      · rw [if_neg c52] at H
                                        have c52b0 : (t237 == (decide (t236 < (ji40)))) = false := by simpa using c52
                                        (try (have c52b1 : decide (t237 = (decide (t236 < (ji40)))) = false := by simpa using c52))
                                        (try (have c52b2 : (t237 == (decide (t236 < (ji40)))) = false := by simpa using c52))
                                        (try (have c52b3 : ¬ (t237 = (decide (t236 < (ji40)))) := by simpa using c52))
                                        clear c52
                                        obtain rfl := Option.some.inj H
                                        go_wp2_with (first | ((with_reducible refine gate_callee (f := 23) rfl ?_); refine goesL_ (some 109) rfl rfl Try.func23 (by kernel_rfl) rfl #[.string (t221.extract 0 ((ji40) : Int).toNat)] rfl (by (try simp only [List.map_toArray, List.map_cons, List.map_nil]); first | done | (simp only [hji40]; rfl) | rfl | (simp only [List.length_drop, List.length_take]; rfl)) ?_; (with_reducible refine (journal_Decode.calls (t221.extract 0 ((ji40) : Int).toNat) t235 t236 t237 t238 _ A43.out).mono ?_); rintro e w59 ⟨v239, rfl, ho0, hb⟩; refine ⟨_, rfl, ?_⟩; have n0_ := Aside0.mk (Kd.R_lower ho0 (below_size (by repeat (first | (with_reducible first | exact HB.out | apply below_alloc | apply pw_below_drewN | apply below_drew1) | exact HB.out)))); have n1_ := Aside0.mk (below_step (by repeat (first | (with_reducible first | exact HB.out | apply below_alloc | apply pw_below_drewN | apply below_drew1) | exact HB.out)) hb); clear HB; have HO240 := n0_; have HB := n1_; clear n0_ n1_; (try clear hb); (try clear hb2); (try clear hk); (try clear hi); (try clear ho0)) | ((with_reducible refine gate_callee (f := 24) rfl ?_); refine goesL_ (some 118) rfl rfl Try.func24 (by kernel_rfl) rfl #[.string (t221.extract 0 ((ji40) : Int).toNat)] rfl (by (try simp only [List.map_toArray, List.map_cons, List.map_nil]); first | done | (simp only [hji40]; rfl) | rfl | (simp only [List.length_drop, List.length_take]; rfl)) ?_; (with_reducible refine (ringworkref25_Decode.calls kj30 (t221.extract 0 ((ji40) : Int).toNat) t241 t242 t243 t244 t245 _ A46.out).mono ?_); rintro e w60 ⟨v246, rfl, ho0, hb⟩; refine ⟨_, rfl, ?_⟩; have n0_ := Aside0.mk (Kd.R_elder' (by (with_reducible repeat (first | apply Kd.R_alloc | apply Kd.R_drewN | apply Kd.R_drew)); exact HO240.out) (Kd.R_base ho0) hb); have n1_ := Aside0.mk (Kd.R_lower (Kd.R_new' ho0 (Kd.R_lt (by (with_reducible repeat (first | apply Kd.R_alloc | apply Kd.R_drewN | apply Kd.R_drew)); exact HO240.out))) (below_size (by repeat (first | (with_reducible first | exact HB.out | apply below_alloc | apply pw_below_drewN | apply below_drew1) | exact HB.out)))); have n2_ := Aside0.mk (below_step (by repeat (first | (with_reducible first | exact HB.out | apply below_alloc | apply pw_below_drewN | apply below_drew1) | exact HB.out)) hb); clear HO240; clear HB; have HO240 := n0_; have HO247 := n1_; have HB := n2_; clear n0_ n1_ n2_; (try clear hb); (try clear hb2); (try clear hk); (try clear hi); (try clear ho0); obtain ⟨Ao61, co61, eo61⟩ := Kd.R_slice HO240.out; subst eo61; obtain ⟨Ao62, co62, eo62⟩ := Kd.R_slice HO247.out; subst eo62) | (go_at_call 25; (with_reducible refine (ringworkref25_SameNotes.calls kj30 _ _ t235 _ _ t241 true _ ?side1 ?side2 ?side3 ?side4 A48.out).mono ?_); (case side1 => repeat (first | exact (Kd.R_reads' HO240.out).2.2 | (with_reducible refine Kd.C_alloc ?_ _) | (with_reducible refine Kd.C_drewN ?_ _) | (with_reducible refine Kd.C_drew ?_))); (case side2 => exact (Kd.R_reads' HO240.out).2.1); (case side3 => repeat (first | exact (Kd.R_reads' HO247.out).2.2 | (with_reducible refine Kd.C_alloc ?_ _) | (with_reducible refine Kd.C_drewN ?_ _) | (with_reducible refine Kd.C_drew ?_))); (case side4 => exact (Kd.R_reads' HO247.out).2.1); rintro e w' ⟨rfl, ⟨nd, rfl⟩⟩))
                                        go_ret
                                        exact ⟨by first | rfl | (simp [errW_none, errW_some] <;> rfl) | (simp only [← hji40]; first | rfl | (simp [errW_none, errW_some] <;> rfl)) | (simp [*, errW_none, errW_some] <;> rfl), by repeat (first | (with_reducible first | exact HB.out | apply below_alloc | apply pw_below_drewN | apply below_drew1) | exact HB.out)⟩
                                    · rw [if_neg c51] at H
                                      have c51b0 : (t237 == t243) = false := by simpa using c51
                                      (try (have c51b1 : decide (t237 = t243) = false := by simpa using c51))
                                      (try (have c51b2 : (t237 == t243) = false := by simpa using c51))
                                      (try (have c51b3 : ¬ (t237 = t243) := by simpa using c51))
                                      clear c51
                                      obtain rfl := Option.some.inj H
                                      go_wp2_with (first | ((with_reducible refine gate_callee (f := 23) rfl ?_); refine goesL_ (some 109) rfl rfl Try.func23 (by kernel_rfl) rfl #[.string (t221.extract 0 ((ji40) : Int).toNat)] rfl (by (try simp only [List.map_toArray, List.map_cons, List.map_nil]); first | done | (simp only [hji40]; rfl) | rfl | (simp only [List.length_drop, List.length_take]; rfl)) ?_; (with_reducible refine (journal_Decode.calls (t221.extract 0 ((ji40) : Int).toNat) t235 t236 t237 t238 _ A43.out).mono ?_); rintro e w63 ⟨v239, rfl, ho0, hb⟩; refine ⟨_, rfl, ?_⟩; have n0_ := Aside0.mk (Kd.R_lower ho0 (below_size (by repeat (first | (with_reducible first | exact HB.out | apply below_alloc | apply pw_below_drewN | apply below_drew1) | exact HB.out)))); have n1_ := Aside0.mk (below_step (by repeat (first | (with_reducible first | exact HB.out | apply below_alloc | apply pw_below_drewN | apply below_drew1) | exact HB.out)) hb); clear HB; have HO240 := n0_; have HB := n1_; clear n0_ n1_; (try clear hb); (try clear hb2); (try clear hk); (try clear hi); (try clear ho0)) | ((with_reducible refine gate_callee (f := 24) rfl ?_); refine goesL_ (some 118) rfl rfl Try.func24 (by kernel_rfl) rfl #[.string (t221.extract 0 ((ji40) : Int).toNat)] rfl (by (try simp only [List.map_toArray, List.map_cons, List.map_nil]); first | done | (simp only [hji40]; rfl) | rfl | (simp only [List.length_drop, List.length_take]; rfl)) ?_; (with_reducible refine (ringworkref25_Decode.calls kj30 (t221.extract 0 ((ji40) : Int).toNat) t241 t242 t243 t244 t245 _ A46.out).mono ?_); rintro e w64 ⟨v246, rfl, ho0, hb⟩; refine ⟨_, rfl, ?_⟩; have n0_ := Aside0.mk (Kd.R_elder' (by (with_reducible repeat (first | apply Kd.R_alloc | apply Kd.R_drewN | apply Kd.R_drew)); exact HO240.out) (Kd.R_base ho0) hb); have n1_ := Aside0.mk (Kd.R_lower (Kd.R_new' ho0 (Kd.R_lt (by (with_reducible repeat (first | apply Kd.R_alloc | apply Kd.R_drewN | apply Kd.R_drew)); exact HO240.out))) (below_size (by repeat (first | (with_reducible first | exact HB.out | apply below_alloc | apply pw_below_drewN | apply below_drew1) | exact HB.out)))); have n2_ := Aside0.mk (below_step (by repeat (first | (with_reducible first | exact HB.out | apply below_alloc | apply pw_below_drewN | apply below_drew1) | exact HB.out)) hb); clear HO240; clear HB; have HO240 := n0_; have HO247 := n1_; have HB := n2_; clear n0_ n1_ n2_; (try clear hb); (try clear hb2); (try clear hk); (try clear hi); (try clear ho0); obtain ⟨Ao65, co65, eo65⟩ := Kd.R_slice HO240.out; subst eo65; obtain ⟨Ao66, co66, eo66⟩ := Kd.R_slice HO247.out; subst eo66) | (go_at_call 25; (with_reducible refine (ringworkref25_SameNotes.calls kj30 _ _ t235 _ _ t241 true _ ?side1 ?side2 ?side3 ?side4 A48.out).mono ?_); (case side1 => repeat (first | exact (Kd.R_reads' HO240.out).2.2 | (with_reducible refine Kd.C_alloc ?_ _) | (with_reducible refine Kd.C_drewN ?_ _) | (with_reducible refine Kd.C_drew ?_))); (case side2 => exact (Kd.R_reads' HO240.out).2.1); (case side3 => repeat (first | exact (Kd.R_reads' HO247.out).2.2 | (with_reducible refine Kd.C_alloc ?_ _) | (with_reducible refine Kd.C_drewN ?_ _) | (with_reducible refine Kd.C_drew ?_))); (case side4 => exact (Kd.R_reads' HO247.out).2.1); rintro e w' ⟨rfl, ⟨nd, rfl⟩⟩))
                                      go_ret
                                      exact ⟨by first | rfl | (simp [errW_none, errW_some] <;> rfl) | (simp only [← hji40]; first | rfl | (simp [errW_none, errW_some] <;> rfl)) | (simp [*, errW_none, errW_some] <;> rfl), by repeat (first | (with_reducible first | exact HB.out | apply below_alloc | apply pw_below_drewN | apply below_drew1) | exact HB.out)⟩
                                  · rw [if_neg c50] at H
                                    have c50b0 : (t236 == t242) = false := beq_eq_false_iff_ne.mpr c50
                                    have c50b1 : (t236 != t242) = true := bne_iff_ne.mpr c50
                                    obtain rfl := Option.some.inj H
                                    go_wp2_with (first | ((with_reducible refine gate_callee (f := 23) rfl ?_); refine goesL_ (some 109) rfl rfl Try.func23 (by kernel_rfl) rfl #[.string (t221.extract 0 ((ji40) : Int).toNat)] rfl (by (try simp only [List.map_toArray, List.map_cons, List.map_nil]); first | done | (simp only [hji40]; rfl) | rfl | (simp only [List.length_drop, List.length_take]; rfl)) ?_; (with_reducible refine (journal_Decode.calls (t221.extract 0 ((ji40) : Int).toNat) t235 t236 t237 t238 _ A43.out).mono ?_); rintro e w67 ⟨v239, rfl, ho0, hb⟩; refine ⟨_, rfl, ?_⟩; have n0_ := Aside0.mk (Kd.R_lower ho0 (below_size (by repeat (first | (with_reducible first | exact HB.out | apply below_alloc | apply pw_below_drewN | apply below_drew1) | exact HB.out)))); have n1_ := Aside0.mk (below_step (by repeat (first | (with_reducible first | exact HB.out | apply below_alloc | apply pw_below_drewN | apply below_drew1) | exact HB.out)) hb); clear HB; have HO240 := n0_; have HB := n1_; clear n0_ n1_; (try clear hb); (try clear hb2); (try clear hk); (try clear hi); (try clear ho0)) | ((with_reducible refine gate_callee (f := 24) rfl ?_); refine goesL_ (some 118) rfl rfl Try.func24 (by kernel_rfl) rfl #[.string (t221.extract 0 ((ji40) : Int).toNat)] rfl (by (try simp only [List.map_toArray, List.map_cons, List.map_nil]); first | done | (simp only [hji40]; rfl) | rfl | (simp only [List.length_drop, List.length_take]; rfl)) ?_; (with_reducible refine (ringworkref25_Decode.calls kj30 (t221.extract 0 ((ji40) : Int).toNat) t241 t242 t243 t244 t245 _ A46.out).mono ?_); rintro e w68 ⟨v246, rfl, ho0, hb⟩; refine ⟨_, rfl, ?_⟩; have n0_ := Aside0.mk (Kd.R_elder' (by (with_reducible repeat (first | apply Kd.R_alloc | apply Kd.R_drewN | apply Kd.R_drew)); exact HO240.out) (Kd.R_base ho0) hb); have n1_ := Aside0.mk (Kd.R_lower (Kd.R_new' ho0 (Kd.R_lt (by (with_reducible repeat (first | apply Kd.R_alloc | apply Kd.R_drewN | apply Kd.R_drew)); exact HO240.out))) (below_size (by repeat (first | (with_reducible first | exact HB.out | apply below_alloc | apply pw_below_drewN | apply below_drew1) | exact HB.out)))); have n2_ := Aside0.mk (below_step (by repeat (first | (with_reducible first | exact HB.out | apply below_alloc | apply pw_below_drewN | apply below_drew1) | exact HB.out)) hb); clear HO240; clear HB; have HO240 := n0_; have HO247 := n1_; have HB := n2_; clear n0_ n1_ n2_; (try clear hb); (try clear hb2); (try clear hk); (try clear hi); (try clear ho0); obtain ⟨Ao69, co69, eo69⟩ := Kd.R_slice HO240.out; subst eo69; obtain ⟨Ao70, co70, eo70⟩ := Kd.R_slice HO247.out; subst eo70) | (go_at_call 25; (with_reducible refine (ringworkref25_SameNotes.calls kj30 _ _ t235 _ _ t241 true _ ?side1 ?side2 ?side3 ?side4 A48.out).mono ?_); (case side1 => repeat (first | exact (Kd.R_reads' HO240.out).2.2 | (with_reducible refine Kd.C_alloc ?_ _) | (with_reducible refine Kd.C_drewN ?_ _) | (with_reducible refine Kd.C_drew ?_))); (case side2 => exact (Kd.R_reads' HO240.out).2.1); (case side3 => repeat (first | exact (Kd.R_reads' HO247.out).2.2 | (with_reducible refine Kd.C_alloc ?_ _) | (with_reducible refine Kd.C_drewN ?_ _) | (with_reducible refine Kd.C_drew ?_))); (case side4 => exact (Kd.R_reads' HO247.out).2.1); rintro e w' ⟨rfl, ⟨nd, rfl⟩⟩))
                                    go_ret
                                    exact ⟨by first | rfl | (simp [errW_none, errW_some] <;> rfl) | (simp only [← hji40]; first | rfl | (simp [errW_none, errW_some] <;> rfl)) | (simp [*, errW_none, errW_some] <;> rfl), by repeat (first | (with_reducible first | exact HB.out | apply below_alloc | apply pw_below_drewN | apply below_drew1) | exact HB.out)⟩
                                · replace c49 := Bool.eq_false_iff.mpr c49
                                  subst c49
                                  have H1 : (some false) = some r := by rw [if_neg (show ¬ (false = true) by decide)] at H; exact H
                                  clear H
                                  have H := H1
                                  clear H1
                                  obtain rfl := Option.some.inj H
                                  go_wp2_with (first | ((with_reducible refine gate_callee (f := 23) rfl ?_); refine goesL_ (some 109) rfl rfl Try.func23 (by kernel_rfl) rfl #[.string (t221.extract 0 ((ji40) : Int).toNat)] rfl (by (try simp only [List.map_toArray, List.map_cons, List.map_nil]); first | done | (simp only [hji40]; rfl) | rfl | (simp only [List.length_drop, List.length_take]; rfl)) ?_; (with_reducible refine (journal_Decode.calls (t221.extract 0 ((ji40) : Int).toNat) t235 t236 t237 t238 _ A43.out).mono ?_); rintro e w71 ⟨v239, rfl, ho0, hb⟩; refine ⟨_, rfl, ?_⟩; have n0_ := Aside0.mk (Kd.R_lower ho0 (below_size (by repeat (first | (with_reducible first | exact HB.out | apply below_alloc | apply pw_below_drewN | apply below_drew1) | exact HB.out)))); have n1_ := Aside0.mk (below_step (by repeat (first | (with_reducible first | exact HB.out | apply below_alloc | apply pw_below_drewN | apply below_drew1) | exact HB.out)) hb); clear HB; have HO240 := n0_; have HB := n1_; clear n0_ n1_; (try clear hb); (try clear hb2); (try clear hk); (try clear hi); (try clear ho0)) | ((with_reducible refine gate_callee (f := 24) rfl ?_); refine goesL_ (some 118) rfl rfl Try.func24 (by kernel_rfl) rfl #[.string (t221.extract 0 ((ji40) : Int).toNat)] rfl (by (try simp only [List.map_toArray, List.map_cons, List.map_nil]); first | done | (simp only [hji40]; rfl) | rfl | (simp only [List.length_drop, List.length_take]; rfl)) ?_; (with_reducible refine (ringworkref25_Decode.calls kj30 (t221.extract 0 ((ji40) : Int).toNat) t241 t242 t243 t244 t245 _ A46.out).mono ?_); rintro e w72 ⟨v246, rfl, ho0, hb⟩; refine ⟨_, rfl, ?_⟩; have n0_ := Aside0.mk (Kd.R_elder' (by (with_reducible repeat (first | apply Kd.R_alloc | apply Kd.R_drewN | apply Kd.R_drew)); exact HO240.out) (Kd.R_base ho0) hb); have n1_ := Aside0.mk (Kd.R_lower (Kd.R_new' ho0 (Kd.R_lt (by (with_reducible repeat (first | apply Kd.R_alloc | apply Kd.R_drewN | apply Kd.R_drew)); exact HO240.out))) (below_size (by repeat (first | (with_reducible first | exact HB.out | apply below_alloc | apply pw_below_drewN | apply below_drew1) | exact HB.out)))); have n2_ := Aside0.mk (below_step (by repeat (first | (with_reducible first | exact HB.out | apply below_alloc | apply pw_below_drewN | apply below_drew1) | exact HB.out)) hb); clear HO240; clear HB; have HO240 := n0_; have HO247 := n1_; have HB := n2_; clear n0_ n1_ n2_; (try clear hb); (try clear hb2); (try clear hk); (try clear hi); (try clear ho0); obtain ⟨Ao73, co73, eo73⟩ := Kd.R_slice HO240.out; subst eo73; obtain ⟨Ao74, co74, eo74⟩ := Kd.R_slice HO247.out; subst eo74) | (go_at_call 25; (with_reducible refine (ringworkref25_SameNotes.calls kj30 _ _ t235 _ _ t241 false _ ?side1 ?side2 ?side3 ?side4 A48.out).mono ?_); (case side1 => repeat (first | exact (Kd.R_reads' HO240.out).2.2 | (with_reducible refine Kd.C_alloc ?_ _) | (with_reducible refine Kd.C_drewN ?_ _) | (with_reducible refine Kd.C_drew ?_))); (case side2 => exact (Kd.R_reads' HO240.out).2.1); (case side3 => repeat (first | exact (Kd.R_reads' HO247.out).2.2 | (with_reducible refine Kd.C_alloc ?_ _) | (with_reducible refine Kd.C_drewN ?_ _) | (with_reducible refine Kd.C_drew ?_))); (case side4 => exact (Kd.R_reads' HO247.out).2.1); rintro e w' ⟨rfl, ⟨nd, rfl⟩⟩))
                                  go_ret
                                  exact ⟨by first | rfl | (simp [errW_none, errW_some] <;> rfl) | (simp only [← hji40]; first | rfl | (simp [errW_none, errW_some] <;> rfl)) | (simp [*, errW_none, errW_some] <;> rfl), by repeat (first | (with_reducible first | exact HB.out | apply below_alloc | apply pw_below_drewN | apply below_drew1) | exact HB.out)⟩
                              · rw [if_neg c47] at H
                                have c47b0 : (t238 == 0) = false := beq_eq_false_iff_ne.mpr c47
                                have c47b1 : (t238 != 0) = true := bne_iff_ne.mpr c47
                                obtain rfl := Option.some.inj H
                                go_wp2_with (first | ((with_reducible refine gate_callee (f := 23) rfl ?_); refine goesL_ (some 109) rfl rfl Try.func23 (by kernel_rfl) rfl #[.string (t221.extract 0 ((ji40) : Int).toNat)] rfl (by (try simp only [List.map_toArray, List.map_cons, List.map_nil]); first | done | (simp only [hji40]; rfl) | rfl | (simp only [List.length_drop, List.length_take]; rfl)) ?_; (with_reducible refine (journal_Decode.calls (t221.extract 0 ((ji40) : Int).toNat) t235 t236 t237 t238 _ A43.out).mono ?_); rintro e w75 ⟨v239, rfl, ho0, hb⟩; refine ⟨_, rfl, ?_⟩; have n0_ := Aside0.mk (Kd.R_lower ho0 (below_size (by repeat (first | (with_reducible first | exact HB.out | apply below_alloc | apply pw_below_drewN | apply below_drew1) | exact HB.out)))); have n1_ := Aside0.mk (below_step (by repeat (first | (with_reducible first | exact HB.out | apply below_alloc | apply pw_below_drewN | apply below_drew1) | exact HB.out)) hb); clear HB; have HO240 := n0_; have HB := n1_; clear n0_ n1_; (try clear hb); (try clear hb2); (try clear hk); (try clear hi); (try clear ho0)) | ((with_reducible refine gate_callee (f := 24) rfl ?_); refine goesL_ (some 118) rfl rfl Try.func24 (by kernel_rfl) rfl #[.string (t221.extract 0 ((ji40) : Int).toNat)] rfl (by (try simp only [List.map_toArray, List.map_cons, List.map_nil]); first | done | (simp only [hji40]; rfl) | rfl | (simp only [List.length_drop, List.length_take]; rfl)) ?_; (with_reducible refine (ringworkref25_Decode.calls kj30 (t221.extract 0 ((ji40) : Int).toNat) t241 t242 t243 t244 t245 _ A46.out).mono ?_); rintro e w76 ⟨v246, rfl, ho0, hb⟩; refine ⟨_, rfl, ?_⟩; have n0_ := Aside0.mk (Kd.R_elder' (by (with_reducible repeat (first | apply Kd.R_alloc | apply Kd.R_drewN | apply Kd.R_drew)); exact HO240.out) (Kd.R_base ho0) hb); have n1_ := Aside0.mk (Kd.R_lower (Kd.R_new' ho0 (Kd.R_lt (by (with_reducible repeat (first | apply Kd.R_alloc | apply Kd.R_drewN | apply Kd.R_drew)); exact HO240.out))) (below_size (by repeat (first | (with_reducible first | exact HB.out | apply below_alloc | apply pw_below_drewN | apply below_drew1) | exact HB.out)))); have n2_ := Aside0.mk (below_step (by repeat (first | (with_reducible first | exact HB.out | apply below_alloc | apply pw_below_drewN | apply below_drew1) | exact HB.out)) hb); clear HO240; clear HB; have HO240 := n0_; have HO247 := n1_; have HB := n2_; clear n0_ n1_ n2_; (try clear hb); (try clear hb2); (try clear hk); (try clear hi); (try clear ho0)))
                                go_ret
                                exact ⟨by first | rfl | (simp [errW_none, errW_some] <;> rfl) | (simp only [← hji40]; first | rfl | (simp [errW_none, errW_some] <;> rfl)) | (simp [*, errW_none, errW_some] <;> rfl), by repeat (first | (with_reducible first | exact HB.out | apply below_alloc | apply pw_below_drewN | apply below_drew1) | exact HB.out)⟩
                            · rw [if_neg c42] at H
                              exact absurd H (by simp)
                          · rw [if_neg c41] at H
                            exact absurd H (by simp)
                · rw [if_neg c29] at H
                  have c29b0 : (t222 == 0) = false := beq_eq_false_iff_ne.mpr c29
                  have c29b1 : (t222 != 0) = true := bne_iff_ne.mpr c29
                  replace H := Option.bind_eq_some_iff.mp H
                  obtain ⟨t227, A770, H⟩ := H
                  replace H : (some t227) = some r := H
                  have A77 := Aside0.mk A770
                  clear A770
                  obtain rfl := Option.some.inj H
                  go_wp2_with (first | ((with_reducible refine gate_callee (f := 12) rfl ?_); refine goesL_ (some 72) rfl rfl Try.func12 (by kernel_rfl) rfl #[] rfl (by (try simp only [List.map_toArray, List.map_cons, List.map_nil]); first | done | rfl | (simp only [List.length_drop, List.length_take]; rfl)) ?_; (with_reducible refine (ringworklaw25_awake.calls  t227 _ A77.out).mono ?_); rintro e w78 ⟨rfl, hb⟩; refine ⟨_, rfl, ?_⟩; have n0_ := Aside0.mk (below_step (by repeat (first | (with_reducible first | exact HB.out | apply below_alloc | apply pw_below_drewN | apply below_drew1) | exact HB.out)) hb); clear HB; have HB := n0_; clear n0_; (try clear hb); (try clear hb2); (try clear hk); (try clear hi)))
                  go_ret
                  exact ⟨by first | rfl | (simp [errW_none, errW_some] <;> rfl) | (simp [*, errW_none, errW_some] <;> rfl), by repeat (first | (with_reducible first | exact HB.out | apply below_alloc | apply pw_below_drewN | apply below_drew1) | exact HB.out)⟩
  · replace c5 := Bool.eq_false_iff.mpr c5
    subst c5
    have H1 : ((ringworklaw25_awake.f).bind fun t216 => (some t216)) = some r := by rw [if_neg (show ¬ (false = true) by decide)] at H; exact H
    clear H
    have H := H1
    clear H1
    replace H := Option.bind_eq_some_iff.mp H
    obtain ⟨t216, A790, H⟩ := H
    replace H : (some t216) = some r := H
    have A79 := Aside0.mk A790
    clear A790
    obtain rfl := Option.some.inj H
    go_enter Try.func8, Try.ntmps8
    go_wp2_with (first | ((with_reducible refine gate_callee (f := 10) rfl ?_); refine goesL_ (some 23) rfl rfl Try.func10 (by kernel_rfl) rfl #[.slice A0 l0.length c0] rfl (by (try simp only [List.map_toArray, List.map_cons, List.map_nil]); first | done | rfl | (simp only [List.length_drop, List.length_take]; rfl)) ?_; (with_reducible refine (ringworklaw25_Notes.calls k _ _ l0 false _ ?side1 ?side2 A4.out).mono ?_); (case side1 => repeat (first | exact HR0.out | (with_reducible refine Kd.C_alloc ?_ _) | (with_reducible refine Kd.C_drewN ?_ _) | (with_reducible refine Kd.C_drew ?_))); (case side2 => exact HC0.out); rintro e w' ⟨rfl, ⟨nd, rfl⟩⟩; refine ⟨_, rfl, ?_⟩) | ((with_reducible refine gate_callee (f := 12) rfl ?_); refine goesL_ (some 25) rfl rfl Try.func12 (by kernel_rfl) rfl #[] rfl (by (try simp only [List.map_toArray, List.map_cons, List.map_nil]); first | done | rfl | (simp only [List.length_drop, List.length_take]; rfl)) ?_; (with_reducible refine (ringworklaw25_awake.calls  t216 _ A79.out).mono ?_); rintro e w80 ⟨rfl, hb⟩; refine ⟨_, rfl, ?_⟩; have n0_ := Aside0.mk (below_step (by repeat (first | (with_reducible first | exact HB.out | apply below_alloc | apply pw_below_drewN | apply below_drew1) | exact HB.out)) hb); clear HB; have HB := n0_; clear n0_; (try clear hb); (try clear hb2); (try clear hk); (try clear hi)))
    go_ret
    exact ⟨by first | rfl | (simp [errW_none, errW_some] <;> rfl) | (simp [*, errW_none, errW_some] <;> rfl), by repeat (first | (with_reducible first | exact HB.out | apply below_alloc | apply pw_below_drewN | apply below_drew1) | exact HB.out)⟩

end Go.Proofs.Yteblpjnkinghoaa.J
/- JournalBytes, the plain law. -/
set_option linter.unusedVariables false
set_option linter.unusedSimpArgs false
namespace Go.Proofs.Yteblpjnkinghoaa.J
open Go.RowKit Go.Proofs.YteblpjnkinghoaaW.PrintWords Go.Proofs.YteblpjnkinghoaaW.PrintLast Go.Proofs.YteblpjnkinghoaaW.PrintMore
theorem valid_prog (n : S39) : journal_Valid.f n.f0 n.f1 n.f2 n.f3 n.f4 = some (vld n) := by
  obtain ⟨r, hr⟩ := journal_Valid.some n.f0 n.f1 n.f2 n.f3 n.f4
  rw [hr]
  unfold vld
  rw [hr]
  rfl
theorem enc_prog (l : List S39) : journal_Encode.f l = some (encV l) := by
  unfold journal_Encode.f journal_valid.f encV
  rw [Option.bind_some]
  by_cases h : (decide (l.length ≤ 1000) && l.all vld) = true
  · rw [if_pos h, if_pos h]
    have h2 := h
    rw [Bool.and_eq_true, decide_eq_true_eq] at h2
    unfold journal_written.f
    rw [if_pos h2, Option.bind_some]
    split <;> rfl
  · rw [if_neg h, if_neg h]
theorem encV_ok {l : List S39} (h : (encV l).2 = 0) : (∀ n ∈ l, vld n = true) ∧ (encV l).1 = allB 0 l ∧ (allB 0 l).size ≤ 65536 := by
  unfold encV at h ⊢
  by_cases hc : (decide (l.length ≤ 1000) && l.all vld) = true
  · rw [if_pos hc] at h ⊢
    rw [Bool.and_eq_true] at hc
    by_cases hs : ((allB 0 l).size : Int) > 65536
    · rw [if_pos hs] at h; exact absurd h (by decide)
    · rw [if_neg hs]
      exact ⟨fun n hn => List.all_eq_true.1 hc.2 n hn, rfl, by omega⟩
  · rw [if_neg hc] at h; exact absurd h (by decide)
theorem bytes_j2 (l : List S39) (a1 : Int) (h : (encV l).2 = 0) : Ev (fun k => ringworklaw25_JournalBytes.j2 k a1 (encV l).1 false) true := by
  obtain ⟨hv, he, hsz⟩ := encV_ok h
  rw [he]
  obtain ⟨s, hs⟩ : ∃ s, allB 0 l = s := ⟨_, rfl⟩
  rw [hs]
  rw [hs] at hsz
  obtain ⟨q, hq, hqe⟩ := place a1 (s.size + 1) (by omega) (by omega)
  have hw : wrap64 ((s.size : Int) + 1) = ((s.size + 1 : Nat) : Int) := by unfold wrap64; omega
  have hz : ¬ IntKind.u64.wrap ((s.size + 1 : Nat) : Int) = 0 := by rw [wrap_size (by omega)]; omega
  refine Ev.step (fun k => by rw [ringworklaw25_JournalBytes.j2, if_neg (by decide), hw, if_neg hz]) ?_
  simp only [hqe, if_pos (show (0 : Int) ≤ (q : Int) by omega), if_pos (show (q : Int) ≤ (s.size : Int) by omega), Int.toNat_natCast]
  have hp : (s.extract 0 q).size = q := by rw [ByteArray.size_extract]; omega
  have hpre := Pre.of s q (by omega)
  generalize s.extract 0 q = p at hp hpre
  have hfull := dec_enc l hv 0 ⟨#[]⟩ (s.size + 1) (by rw [hs]; omega)
  rw [empty_append, hs] at hfull
  have hfull : decGo s (s.size + 1) 0 0 = (l, (s.size : Int), lastS 0 l, false, 0) := hfull
  have key := dec_pre hpre (p.size + 1) 0 0 (s.size + 1) (by omega) (by omega) (by omega) (by omega)
  have hzero : (decGo p (p.size + 1) 0 0).2.2.2.2 = 0 := key.2.2 (by rw [hfull])
  have htorn := dec_torn p (p.size + 1) 0 0 (by omega) (by omega) (by omega) hzero
  have hlen := decGo_len p (p.size + 1) 0 0 (by omega) (by omega)
  simp only [dec_prog p (by omega), Option.bind_some]
  refine Ev.bind (dec_ref p (by omega)) ?_
  simp only [if_pos hzero]
  refine Ev.bind (same_notes _ (by omega)) ?_
  have hb : ((decGo p (p.size + 1) 0 0).2.2.2.1 == decide ((decGo p (p.size + 1) 0 0).2.1 < (q : Int))) = true := by rw [htorn, hp]; exact beq_self_eq_true _
  simp only [if_true, beq_self_eq_true, hb, awake_true, Option.bind_some]
  exact Ev.val _
theorem bytes_j1 (l : List S39) (a1 : Int) : Ev (fun k => ringworklaw25_JournalBytes.j1 k l a1 (encV l).1 (encV l).2 false) true := by
  by_cases h : (encV l).2 = 0
  · obtain ⟨hv, he, hsz⟩ := encV_ok h
    have hfull := dec_enc l hv 0 ⟨#[]⟩ ((encV l).1.size + 1) (by rw [he]; omega)
    rw [empty_append, ← he] at hfull
    have hfull : decGo (encV l).1 ((encV l).1.size + 1) 0 0 = (l, ((encV l).1.size : Int), lastS 0 l, false, 0) := hfull
    have hl : l.length ≤ 9223372036854775807 := by
      have := decGo_len (encV l).1 ((encV l).1.size + 1) 0 0 (by omega) (by omega)
      rw [hfull] at this
      simp only at this
      rw [he] at this
      omega
    refine Ev.step (fun k => by rw [ringworklaw25_JournalBytes.j1, if_neg (by decide), if_pos h, dec_prog _ (by rw [he]; omega), Option.bind_some]) ?_
    simp only [hfull, if_true, Bool.false_eq_true, if_false]
    refine Ev.bind (same_notes l hl) ?_
    exact bytes_j2 l a1 h
  · refine Ev.step (fun k => by rw [ringworklaw25_JournalBytes.j1, if_neg (by decide), if_neg h, awake_true, Option.bind_some]) (Ev.val _)
theorem encV_small (l : List S39) : (encV l).1.size ≤ 65536 := by
  by_cases h : (encV l).2 = 0
  · exact encV_size l h
  · unfold encV at h ⊢
    split
    · rename_i hc
      rw [if_pos hc] at h
      split
      · exact Nat.zero_le _
      · rename_i hs; rw [if_neg hs] at h; exact absurd rfl h
    · exact Nat.zero_le _
theorem bytes_from (l : List S39) (hl : l.length ≤ 9223372036854775807) (a1 a2 : Int) : ∀ (d i : Nat), d = l.length - i → i ≤ l.length → Ev (fun k => ringworklaw25_JournalBytes.l0 k l a1 a2 (i : Int)) true
  | 0, i, hd, hi => by
    refine Ev.step (fun k => by rw [ringworklaw25_JournalBytes.l0, if_neg (by omega), enc_prog, Option.bind_some]) ?_
    refine Ev.bind (ref_Encode l hl) ?_
    have hsz := encV_small l
    have s1 : journal_Sum.f a2 (encV l).1 = some (sumF a2 (encV l).1) := by unfold journal_Sum.f; rw [if_pos (by omega)]
    have s2 : ringworkref25_Sum.f a2 (encV l).1 = some (sumF a2 (encV l).1) := by unfold ringworkref25_Sum.f; rw [if_pos (by omega)]
    simp only [if_true, s1, s2, Option.bind_some, bne_self_eq_false]
    exact bytes_j1 l a1
  | d + 1, i, hd, hi => by
    have hlt : i < l.length := by omega
    refine Ev.step (fun k => by rw [ringworklaw25_JournalBytes.l0, if_pos (by omega), if_pos (by omega), valid_prog, Option.bind_some]) ?_
    refine Ev.bind (ref_Valid _) ?_
    simp only [bne_self_eq_false, Bool.false_eq_true, if_false]
    rw [wrap_nx hlt hl]
    exact bytes_from l hl a1 a2 d (i + 1) (by omega) (by omega)
theorem bytes_law (l : List S39) (a1 a2 : Int) (hl : l.length ≤ 9223372036854775807) : Ev (fun k => ringworklaw25_JournalBytes.f k l a1 a2) true := by
  unfold ringworklaw25_JournalBytes.f
  obtain ⟨b, hb, _⟩ := notes_guard l hl
  refine Ev.bind hb ?_
  cases b with
  | false =>
    simp only [Bool.false_eq_true, if_false, awake_true, Option.bind_some]
    exact Ev.val _
  | true =>
    simp only [if_true]
    exact bytes_from l hl a1 a2 l.length 0 (by omega) (by omega)
end Go.Proofs.Yteblpjnkinghoaa.J
/- A slice of images, or of notes, that reads as data: its cells. -/
namespace Go.Proofs.Yteblpjnkinghoaa.J
open Go.RowKit Go.Deep Go.ChangeShapes Go.WideShapes Go.Proofs.YteblpjnkinghoaaW.PrintWords
section
variable {H : Type} {enc : TypeId × Value → H} {w : World} {base : Nat} {spare : Nat → Bool} {held : Bool}
set_option maxRecDepth 100000 in
theorem reads39 {fuel : Nat} {A : Option Addr} {n c : Nat} {x : DataW H × List MemPlace} (h : DataW.trod enc Try.prog w base spare held fuel 23 [.slice A n c] = some x) : ∃ l : List S39, l.length = n ∧ n ≤ c ∧ Kd.C k39 w A n l := by
  rcases open_slice Try.underlying23 h with ⟨hc, _⟩ | ⟨a, len, cap, m, q, D, Pl, hc, hb, hl, hm, hmm, _, hx⟩
  · simp at hc
    obtain ⟨rfl, rfl, rfl⟩ := hc
    exact ⟨[], rfl, Nat.le_refl _, Kd.C_nil _ _⟩
  · simp at hc
    obtain ⟨rfl, rfl, rfl⟩ := hc
    have hlm : n ≤ m := by rw [hmm]; split <;> omega
    have each : ∀ i, i < n → ∃ y : S39, w.cell? (a.add (i * 5)) = some (.int .i64 y.f0) ∧ w.cell? (a.add (i * 5 + 1)) = some (.int .i64 y.f1) ∧ w.cell? (a.add (i * 5 + 2)) = some (.string y.f2) ∧ w.cell? (a.add (i * 5 + 3)) = some (.bool y.f3) ∧ w.cell? (a.add (i * 5 + 4)) = some (.string y.f4) := fun i hi => by
      obtain ⟨cs', h1, h2⟩ := hx i (by omega)
      have ce : Try.prog.cellsOf 39 = 5 := by kernel_rfl
      rw [ce] at h1
      obtain ⟨_, hlen, hcell⟩ := World.cells?_some h1
      obtain ⟨xs, k, _, _, _, hxl, hf⟩ := DataW.trod_struct Try.underlying39 h2
      match xs, hxl, cs', hlen with
      | [y0, y1, y2, y3, y4], _, [v0, v1, v2, v3, v4], _ =>
        have c9 : Try.prog.cellsOf 9 = 1 := by kernel_rfl
        have c4 : Try.prog.cellsOf 4 = 1 := by kernel_rfl
        have c3 : Try.prog.cellsOf 3 = 1 := by kernel_rfl
        have g0 := hf 0 _ rfl
        have g1 := hf 1 _ rfl
        have g2 := hf 2 _ rfl
        have g3 := hf 3 _ rfl
        have g4 := hf 4 _ rfl
        simp [c9, c4, c3] at g0 g1 g2 g3 g4
        obtain ⟨s0, e0, _⟩ := DataW.trod_int Try.underlying3 g0
        obtain ⟨s1, e1, _⟩ := DataW.trod_int Try.underlying3 g1
        obtain ⟨s2, e2, _⟩ := DataW.trod_string Try.underlying9 g2
        obtain ⟨s3, e3, _⟩ := DataW.trod_bool Try.underlying4 g3
        obtain ⟨s4, e4, _⟩ := DataW.trod_string Try.underlying9 g4
        cases e0; cases e1; cases e2; cases e3; cases e4
        have q0 := hcell 0 (by omega)
        have q1 := hcell 1 (by omega)
        have q2 := hcell 2 (by omega)
        have q3 := hcell 3 (by omega)
        have q4 := hcell 4 (by omega)
        rw [Deep.add_add] at q0 q1 q2 q3 q4
        exact ⟨⟨s0, s1, s2, s3, s4⟩, by simpa using q0, by simpa using q1, by simpa using q2, by simpa using q3, by simpa using q4⟩
    haveI : Inhabited S39 := ⟨⟨0, 0, ⟨#[]⟩, false, ⟨#[]⟩⟩⟩
    obtain ⟨f, hf⟩ := choose_lt each
    refine ⟨(List.range n).map f, by simp, hl, by simp, by simp only [maxLen] at hm; omega, fun _ => ⟨a, rfl, fun j p hj => ?_⟩⟩
    rw [List.getElem?_map] at hj
    obtain ⟨j', hj', rfl⟩ := Option.map_eq_some_iff.1 hj
    have hjn : j < n := by have := (List.getElem?_eq_some_iff.1 hj').1; simpa using this
    have : j' = j := by rw [List.getElem?_range hjn] at hj'; exact (Option.some.inj hj').symm
    subst this
    obtain ⟨q0, q1, q2, q3, q4⟩ := hf j' hjn
    refine ⟨_, rfl, k39_mk w (f j'), fun i u hu => ?_⟩
    have : i = 0 ∨ i = 1 ∨ i = 2 ∨ i = 3 ∨ i = 4 := by have := (List.getElem?_eq_some_iff.1 hu).1; simp at this; omega
    rcases this with rfl | rfl | rfl | rfl | rfl <;> cases hu
    · exact q0
    · exact q1
    · exact q2
    · exact q3
    · exact q4
end
end Go.Proofs.Yteblpjnkinghoaa.J
/- the law JournalBytes holds of every input: it returns true, and its arguments read behind the call as they read before. Conditions: none. -/
namespace Go.Proofs.Yteblpjnkinghoaa.journalBytes
open Go.ChangeShapes Go.WideShapes Go.ChangeAt Go.RowKit Go.Proofs.Yteblpjnkinghoaa.J
open Go.ChangeMaps (open_string shut_string)
theorem own : ownKnob Try.prog.godebug = none := by kernel_rfl
theorem laidOut : laidOutB Try.prog = true := by kernel_rfl
set_option maxRecDepth 100000 in
theorem lifted (os : Os) (started : os.Started) (H : Type) (enc : TypeId × Value → H) :
    ReturnsInHanded {} Try.checked os 8 .any (Rows.journalBytesSpec.pre6 enc Try.prog Try.f8 Rows.journalBytesRow.domain false) (Rows.journalBytesSpec.post enc Try.prog Try.f8 false true false false) := by
  refine returnsInHanded_of_change_sized (C := Try.checked) own started (by kernel_rfl) Try.func8
    (ChangeSpec.witness6 (enc := enc) (C := Try.checked) false ⟨#[], #[.slice none 0 0, .int .i64 0, .int .u64 0], []⟩ 8 (by kernel_rfl) (by kernel_rfl) (by kernel_rfl) (by kernel_rfl)) ?_
  intro W base args ds gs before hval0 hW hcnd hsz0 _
  have hsz : (DataW.weightsEach Try.prog (Try.f8.params.toList ++ Rows.journalBytesSpec.plain.varTypes Try.prog) (ds ++ gs)).all (· ≤ reachBytes) = true := hsz0
  have hval : ∀ (j : Nat) t v, Try.f8.params[j]? = some t → args[j]? = some v → Value.okWide Try.prog W .any base t v := hval0
  have hW' := hW
  obtain ⟨p, q, hA0, hV, rfl, hfz, hnd⟩ := hW
  have hA : DataW.TrodAll enc Try.prog W 0 (fun _ => true) true Try.f8.params.toList args.toList ds p := hA0
  rw [Try.params8] at hA hval hsz
  obtain ⟨v0, vs0, d0, ds0, p0, q0, hargs, rfl, rfl, h0, r0⟩ := trodAll_cons hA
  obtain ⟨v1, vs1, d1, ds1, p1, q1, rfl, rfl, rfl, h1, r1⟩ := trodAll_cons r0
  obtain ⟨v2, vs2, d2, ds2, p2, q2, rfl, rfl, rfl, h2, r2⟩ := trodAll_cons r1
  obtain ⟨rfl, rfl, rfl⟩ := trodAll_nil r2
  obtain rfl : args = #[v0, v1, v2] := by cases args; simp_all
  obtain ⟨rfl, rfl⟩ := trodVars_none hV
  obtain ⟨a0, len0, cap0, rfl⟩ := okWide_slice Try.underlying23 (hval 0 23 v0 rfl rfl)
  have k0 := h0
  have lt0 : ∀ x ∈ p0, x.block < W.heap.size := by obtain ⟨m, hm⟩ := k0; exact DataW.trod_lt m _ _ _ hm
  obtain ⟨l0, rfl, hc0, hr0⟩ : ∃ l, List.length l = len0 ∧ len0 ≤ cap0 ∧ Go.Proofs.YteblpjnkinghoaaW.PrintWords.Kd.C k39 W a0 len0 l := by obtain ⟨fuel, hf⟩ := h0; exact reads39 hf
  obtain ⟨a1, rfl, rfl, rfl, w1⟩ := open_int Try.underlying3 (hval 1 3 v1 rfl rfl) h1
  obtain ⟨a2, rfl, rfl, rfl, w2⟩ := open_int Try.underlying45 (hval 2 45 v2 rfl rfl) h2
  clear hA0 hval0 hsz0 hsz
  obtain ⟨k, hk⟩ := (bytes_law l0 a1 a2 (Go.Proofs.YteblpjnkinghoaaW.PrintWords.Kd.C_max hr0)).ex
  refine (ringworklaw25_JournalBytes.calls k a0 cap0 l0 a1 a2 true W hr0 hc0 hk).mono fun e W' ⟨he, bel⟩ => ?_
  subst he
  exact ⟨_, rfl, _, _, _, [], _, [], hW', trodAll_mk1 (shut_bool Try.underlying4 _), (trodAll_cons_mk (Below.trod laidOut (by kernel_rfl) (of_decide_eq_true (by kernel_rfl)) k0 bel lt0) (trodAll_cons_mk (shut_int Try.underlying3 w1) (trodAll_cons_mk (shut_int Try.underlying45 w2) trodAll_mk0))), rfl, bel.frame _, fun h => by cases h⟩
theorem over : Rows.journalBytesRow.holds Try.pinned (OpenSpec.ofChange Rows.journalBytesSpec) :=
  OpenClaim.holds_of_wide 8 Try.f8 rfl rfl rfl rfl rfl rfl rfl ⟨rfl, rfl, rfl, rfl, rfl⟩ rfl rfl rfl rfl rfl (by kernel_rfl) Try.func8 (by kernel_rfl)
    (of_decide_eq_true (by kernel_rfl)) (by unfold Func.isWrapper; first | (rw [if_pos (by decide +kernel)]; kernel_rfl) | (rw [if_neg (by decide +kernel)]; exact ⟨rfl, rfl⟩))
    (fun os started H enc _ => lifted os started H enc)
theorem proved : Rows.JournalBytesSaid := over
#print axioms proved
end Go.Proofs.Yteblpjnkinghoaa.journalBytes
namespace Go.Proofs.Yteblpjnkinghoaa
/-- The row, under a short name, for the claim. -/
theorem journalBytes_holds : Rows.JournalBytesSaid := journalBytes.proved
end Go.Proofs.Yteblpjnkinghoaa

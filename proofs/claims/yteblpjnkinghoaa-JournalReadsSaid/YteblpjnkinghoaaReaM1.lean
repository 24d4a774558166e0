/- Lemmas and contracts (part 1) on which the claim's last text leans: The statement JournalReads: Decode is that of 25.1, for all bytes. No condition. -/
import Derived.Test.YteblpjnkinghoaaProg
import Derived.Below
import Derived.Deep.Draws
import Derived.Deep.AppendLies
import Derived.Maps.AppendAt
import Derived.OwnWalk
import Derived.Laws.BytesArg
import Derived.Laws.MakeOwn
import Derived.Laws.OwnMore
import Derived.Deep.OwnRows
import Derived.Tactics
import Derived.Lib.ConvBytes
import Derived.Laws.Slices
import Derived.WalkKit
import Derived.KernelRfl
import Derived.RowKit3
import Derived.Deep.LoopGhost
import Derived.Deep.QuietTactic
import Derived.BigQuiet
import Derived.WideLaws
import Derived.Deep.DeepCutAuto
import Derived.Deep.CutBlock
import Derived.Deep.RegionHeld3
import Derived.Laws.Rows
import Derived.Lib.AppendStr
import Derived.ArgAppend
import Derived.Laws.IdiomCopy
import Derived.OrdersHeld
import Derived.Laws.BitsLemmas
import Derived.RowKit
import Derived.Recover
import Derived.WalkLawsBesides
import Derived.Maps.OwnSet
import Derived.Maps.RangeWalk
import Derived.WideKeyEntry
import Derived.Shelf.Spec.SlicesInsert
import Derived.Laws.CopyOwn
import Derived.StillTailTactics
import Derived.Deep.RegionLaw
import Derived.Lib.Bytealg
import Derived.Lib.SliceRun
import Derived.Laws.EntriesVeiled
import Derived.Test.YteblpjnkinghoaaReaM0
set_option linter.unusedVariables false
set_option linter.unusedSimpArgs false
namespace Go.Proofs.Yteblpjnkinghoaa.J
open Go.RowKit Go.Proofs.YteblpjnkinghoaaW.PrintWords Go.Proofs.YteblpjnkinghoaaW.PrintLast Go.Proofs.YteblpjnkinghoaaW.PrintMore
attribute [local go_sem] max2_int min2_int max_two min_two max_three min_three max_four min_four   -- for this text's walks alone
set_option linter.unusedVariables false
set_option linter.unusedSimpArgs false
def errW : Option Int → Value
  | none => .nilIface
  | some c => .iface 0 (.int .i64 c)
theorem errW_none : errW none = .nilIface := rfl
theorem errW_some (c : Int) : errW (some c) = .iface 0 (.int .i64 c) := rfl

theorem info5 : (Try.prog.info? 5).map (fun i => (i.zero, i.size, i.bytes)) = some (some (.int .u8 0), 1, 1) := by kernel_rfl
theorem info39 : (Try.prog.info? 39).map (fun i => (i.zero, i.size, i.bytes)) = some (some (.agg #[(.int .i64 0), (.int .i64 0), (.string ⟨#[]⟩), (.bool false), (.string ⟨#[]⟩)]), 5, 56) := by kernel_rfl
theorem info41 : (Try.prog.info? 41).map (fun i => (i.zero, i.size, i.bytes)) = some (some (.agg #[(.string ⟨#[]⟩), (.bool false), (.string ⟨#[]⟩)]), 3, 40) := by kernel_rfl
/-! #### struct type 39 -/
structure S39 where
  f0 : Int
  f1 : Int
  f2 : ByteArray
  f3 : Bool
  f4 : ByteArray
def z39 : S39 := ⟨(0 : Int), (0 : Int), (⟨#[]⟩ : ByteArray), false, (⟨#[]⟩ : ByteArray)⟩
def k39 : Kd S39 := Kd.iso (Kd.pair (Kd.int .i64) (Kd.pair (Kd.int .i64) (Kd.pair Kd.string (Kd.pair Kd.bool Kd.string)))) (fun x : S39 => (x.f0, x.f1, x.f2, x.f3, x.f4))
theorem k39_open {w : World} {x : S39} {cs : List Value} (h : k39.K w x cs) : cs = [.int .i64 x.f0, .int .i64 x.f1, .string x.f2, .bool x.f3, .string x.f4] := by
  obtain ⟨_, _, rfl, rfl, ⟨_, _, rfl, rfl, ⟨_, _, rfl, rfl, ⟨_, _, rfl, rfl, rfl⟩⟩⟩⟩ := h
  exact rfl
theorem k39_mkM (w : World) (base : Nat) (ok : Nat → Prop) (x : S39)  : k39.M w base ok x [.int .i64 x.f0, .int .i64 x.f1, .string x.f2, .bool x.f3, .string x.f4] := ⟨[.int .i64 x.f0], [.int .i64 x.f1, .string x.f2, .bool x.f3, .string x.f4], rfl, rfl, ⟨[.int .i64 x.f1], [.string x.f2, .bool x.f3, .string x.f4], rfl, rfl, ⟨[.string x.f2], [.bool x.f3, .string x.f4], rfl, rfl, ⟨[.bool x.f3], [.string x.f4], rfl, rfl, rfl⟩⟩⟩⟩
def rd_T39 (xs : List S39) (i : Int) : S39 := xs.getD i.toNat z39
theorem at_T39 {w : World} {A : Option Addr} {n : Nat} {xs : List S39} (h : Kd.C k39 w A n xs) (i : Int) (h0 : 0 ≤ i) (h1 : i < n) : ∃ ad , A = some ad ∧ w.cell? (ad.add (i.toNat * 5)) = some (.int .i64 (rd_T39 xs i).f0) ∧ w.cell? ⟨(ad.add (i.toNat * 5)).block, (ad.add (i.toNat * 5)).off + 1, none⟩ = some (.int .i64 (rd_T39 xs i).f1) ∧ w.cell? ⟨(ad.add (i.toNat * 5)).block, (ad.add (i.toNat * 5)).off + 2, none⟩ = some (.string (rd_T39 xs i).f2) ∧ w.cell? ⟨(ad.add (i.toNat * 5)).block, (ad.add (i.toNat * 5)).off + 3, none⟩ = some (.bool (rd_T39 xs i).f3) ∧ w.cell? ⟨(ad.add (i.toNat * 5)).block, (ad.add (i.toNat * 5)).off + 4, none⟩ = some (.string (rd_T39 xs i).f4) := by
  obtain ⟨ad, c, e, _, hK, hc0⟩ := Kd.C_get h z39 i h0 h1
  have hc : ∀ j u, c[j]? = some u → w.cell? (ad.add (i.toNat * 5 + j)) = some u := hc0
  obtain rfl := k39_open hK
  exact ⟨ad, e, hc 0 _ rfl, by rw [← add_field _ _ 1 (by omega)]; exact hc 1 _ rfl, by rw [← add_field _ _ 2 (by omega)]; exact hc 2 _ rfl, by rw [← add_field _ _ 3 (by omega)]; exact hc 3 _ rfl, by rw [← add_field _ _ 4 (by omega)]; exact hc 4 _ rfl⟩

/-! #### struct type 41 -/
structure S41 where
  f0 : ByteArray
  f1 : Bool
  f2 : ByteArray
def z41 : S41 := ⟨(⟨#[]⟩ : ByteArray), false, (⟨#[]⟩ : ByteArray)⟩
def k41 : Kd S41 := Kd.iso (Kd.pair Kd.string (Kd.pair Kd.bool Kd.string)) (fun x : S41 => (x.f0, x.f1, x.f2))
theorem k41_open {w : World} {x : S41} {cs : List Value} (h : k41.K w x cs) : cs = [.string x.f0, .bool x.f1, .string x.f2] := by
  obtain ⟨_, _, rfl, rfl, ⟨_, _, rfl, rfl, rfl⟩⟩ := h
  exact rfl
theorem k41_openM {w : World} {base : Nat} {ok : Nat → Prop} {x : S41} {cs : List Value} (h : k41.M w base ok x cs) : cs = [.string x.f0, .bool x.f1, .string x.f2] := by
  obtain ⟨_, _, rfl, rfl, ⟨_, _, rfl, rfl, rfl⟩⟩ := h
  exact rfl
theorem k41_mk (w : World) (x : S41)  : k41.K w x [.string x.f0, .bool x.f1, .string x.f2] := ⟨[.string x.f0], [.bool x.f1, .string x.f2], rfl, rfl, ⟨[.bool x.f1], [.string x.f2], rfl, rfl, rfl⟩⟩
theorem k41_mkM (w : World) (base : Nat) (ok : Nat → Prop) (x : S41)  : k41.M w base ok x [.string x.f0, .bool x.f1, .string x.f2] := ⟨[.string x.f0], [.bool x.f1, .string x.f2], rfl, rfl, ⟨[.bool x.f1], [.string x.f2], rfl, rfl, rfl⟩⟩
def rd_T41 (xs : List S41) (i : Int) : S41 := xs.getD i.toNat z41
theorem at_T41 {w : World} {A : Option Addr} {n : Nat} {xs : List S41} (h : Kd.C k41 w A n xs) (i : Int) (h0 : 0 ≤ i) (h1 : i < n) : ∃ ad , A = some ad ∧ w.cell? (ad.add (i.toNat * 3)) = some (.string (rd_T41 xs i).f0) ∧ w.cell? ⟨(ad.add (i.toNat * 3)).block, (ad.add (i.toNat * 3)).off + 1, none⟩ = some (.bool (rd_T41 xs i).f1) ∧ w.cell? ⟨(ad.add (i.toNat * 3)).block, (ad.add (i.toNat * 3)).off + 2, none⟩ = some (.string (rd_T41 xs i).f2) := by
  obtain ⟨ad, c, e, _, hK, hc0⟩ := Kd.C_get h z41 i h0 h1
  have hc : ∀ j u, c[j]? = some u → w.cell? (ad.add (i.toNat * 3 + j)) = some u := hc0
  obtain rfl := k41_open hK
  exact ⟨ad, e, hc 0 _ rfl, by rw [← add_field _ _ 1 (by omega)]; exact hc 1 _ rfl, by rw [← add_field _ _ 2 (by omega)]; exact hc 2 _ rfl⟩

end Go.Proofs.Yteblpjnkinghoaa.J
namespace Go.Proofs.Yteblpjnkinghoaa.J
open Go.RowKit Go.Proofs.YteblpjnkinghoaaW.PrintWords Go.Proofs.YteblpjnkinghoaaW.PrintLast Go.Proofs.YteblpjnkinghoaaW.PrintMore
attribute [local go_sem] max2_int min2_int max_two min_two max_three min_three max_four min_four   -- for this text's walks alone
set_option linter.unusedVariables false
set_option linter.unusedSimpArgs false
theorem eqA39 (d : Nat) (w : World) (x0 y0 : Int) (x1 y1 : Int) (x2 y2 : ByteArray) (x3 y3 : Bool) (x4 y4 : ByteArray) :
    (Op.equalIn (d + 2) 39 (.agg #[.int .i64 x0, .int .i64 x1, .string x2, .bool x3, .string x4]) (.agg #[.int .i64 y0, .int .i64 y1, .string y2, .bool y3, .string y4])).run Try.prog w = .ok (x0 == y0 && (x1 == y1 && (x2.toList == y2.toList && (x3 == y3 && (x4.toList == y4.toList))))) w := by
  refine eqA_of Try.underlying39 (by kernel_rfl) ?_
  refine eqf_cons (by rfl) (by go_simp; rfl) (by go_simp; rfl) (by go_simp) ?_
  refine eqf_cons (by rfl) (by go_simp; rfl) (by go_simp; rfl) (by go_simp) ?_
  refine eqf_cons (by rfl) (by go_simp; rfl) (by go_simp; rfl) (by go_simp) ?_
  refine eqf_cons (by rfl) (by go_simp; rfl) (by go_simp; rfl) (by go_simp) ?_
  exact eqf_last (by rfl) (by go_simp; rfl) (by go_simp; rfl) (by go_simp)
end Go.Proofs.Yteblpjnkinghoaa.J
namespace Go.Proofs.Yteblpjnkinghoaa.J
open Go.RowKit Go.Proofs.YteblpjnkinghoaaW.PrintWords Go.Proofs.YteblpjnkinghoaaW.PrintLast Go.Proofs.YteblpjnkinghoaaW.PrintMore
attribute [local go_sem] max2_int min2_int max_two min_two max_three min_three max_four min_four   -- for this text's walks alone
set_option linter.unusedVariables false
set_option linter.unusedSimpArgs false
/-! ### journal_unit: function 65 -/
def journal_unit.f (a0 : Int) : Option (Bool) := if a0 ≥ 1 then (some (decide (a0 ≤ 1000))) else (some false)
set_option maxHeartbeats 8000000 in
set_option maxRecDepth 100000 in
theorem journal_unit.calls (a0 : Int) (r : Bool) (w : World) (h : journal_unit.f a0 = some r) :
    Calls Try.prog 65 #[.int .i64 a0] w fun e w' => e = .returned (.bool r) ∧ Drawn0 w w' := by
  have H : (if a0 ≥ 1 then (some (decide (a0 ≤ 1000))) else (some false)) = some r := h
  clear h
  by_cases c2 : a0 ≥ 1
  · rw [if_pos c2] at H
    have c2b0 : decide (1 ≤ a0) = true := decide_eq_true c2
    clear c2
    obtain rfl := Option.some.inj H
    go_enter Try.func65, Try.ntmps65
    go_wp2
    go_ret
    exact ⟨by first | rfl | (simp; done) | (simp [*]; done), by repeat (first | exact Drawn0.refl _ | apply Drawn0.step)⟩
  · rw [if_neg c2] at H
    have c2b0 : decide (1 ≤ a0) = false := decide_eq_false c2
    clear c2
    obtain rfl := Option.some.inj H
    go_enter Try.func65, Try.ntmps65
    go_wp2
    go_ret
    exact ⟨by first | rfl | (simp; done) | (simp [*]; done), by repeat (first | exact Drawn0.refl _ | apply Drawn0.step)⟩

/-! ### journal_plain: function 75 -/
def journal_plain.f (a0_0 : Int) (a0_1 : Int) (a0_2 : ByteArray) (a0_3 : Bool) (a0_4 : ByteArray) : Option (Bool) := (journal_unit.f a0_1).bind fun t102 => (if t102 = true then (if a0_2.toList = ([] : List UInt8) then (if a0_3 = true then (some false) else (some (a0_4.toList == ([] : List UInt8)))) else (some false)) else (some false))
set_option maxHeartbeats 8000000 in
set_option maxRecDepth 100000 in
theorem journal_plain.calls (a0_0 : Int) (a0_1 : Int) (a0_2 : ByteArray) (a0_3 : Bool) (a0_4 : ByteArray) (r : Bool) (w : World) (h : journal_plain.f a0_0 a0_1 a0_2 a0_3 a0_4 = some r) :
    Calls Try.prog 75 #[.agg #[.int .i64 a0_0, .int .i64 a0_1, .string a0_2, .bool a0_3, .string a0_4]] w fun e w' => e = .returned (.bool r) ∧ Below w.heap.size w w' := by
  have hu39 := Try.underlying39
  have HB := Aside0.mk (Below.refl w.heap.size w)
  have H : ((journal_unit.f a0_1).bind fun t102 => (if t102 = true then (if a0_2.toList = ([] : List UInt8) then (if a0_3 = true then (some false) else (some (a0_4.toList == ([] : List UInt8)))) else (some false)) else (some false))) = some r := h
  clear h
  replace H := Option.bind_eq_some_iff.mp H
  obtain ⟨t102, A20, H⟩ := H
  replace H : (if t102 = true then (if a0_2.toList = ([] : List UInt8) then (if a0_3 = true then (some false) else (some (a0_4.toList == ([] : List UInt8)))) else (some false)) else (some false)) = some r := H
  have A2 := Aside0.mk A20
  clear A20
  by_cases c3 : t102 = true
  · subst c3
    have H1 : (if a0_2.toList = ([] : List UInt8) then (if a0_3 = true then (some false) else (some (a0_4.toList == ([] : List UInt8)))) else (some false)) = some r := by rw [if_pos rfl] at H; exact H
    clear H
    have H := H1
    clear H1
    by_cases c4 : a0_2.toList = ([] : List UInt8)
    · rw [if_pos c4] at H
      have c4b0 : (a0_2.toList == ([] : List UInt8)) = true := beq_iff_eq.mpr c4
      have c4b1 : (a0_2.toList != ([] : List UInt8)) = false := bne_eq_false_iff_eq.mpr c4
      clear c4
      by_cases c5 : a0_3 = true
      · subst c5
        have H1 : (some false) = some r := by rw [if_pos rfl] at H; exact H
        clear H
        have H := H1
        clear H1
        obtain rfl := Option.some.inj H
        go_enter Try.func75, Try.ntmps75
        go_wp2_with (first | ((with_reducible refine gate_dst (N := 1) rfl ?_); refine box_event ?hg (N := 1) ?hd (cs := #[.int .i64 a0_0, .int .i64 a0_1, .string a0_2, .bool true, .string a0_4]) (t := 39) ?hr ?_; (case hd => rfl); (case hg => rfl); (case hr => first | (go_simp; done) | (go_simp; rfl)); intro gb101 hg w6 hbox hb; have n0_ := Aside0.mk (below_step (by repeat (first | (with_reducible first | exact HB.out | apply below_alloc | apply pw_below_drewN | apply below_drew1) | exact HB.out)) hb); have n1_ := Aside0.mk (hbox); have n2_ := Aside0.mk ((by rw [hg]; exact (below_size (by repeat (first | (with_reducible first | exact HB.out | apply below_alloc | apply pw_below_drewN | apply below_drew1) | exact HB.out))) : w.heap.size ≤ gb101)); have n3_ := Aside0.mk ((by rw [hg]; exact (below_size (by repeat (first | (with_reducible first | exact HB.out | apply below_alloc | apply pw_below_drewN | apply below_drew1) | exact HB.out))) : w.heap.size ≤ gb101)); clear HB; have HB := n0_; have BK101 := n1_; have GW101 := n2_; have GE101 := n3_; clear n0_ n1_ n2_ n3_; clear hb hbox hg; have hcz7_0 : w6.cell? ⟨gb101, 0, none⟩ = some (.int .i64 a0_0) := (blk_cell BK101.out 0).trans rfl; have hcz7_1 : w6.cell? ⟨gb101, 1, none⟩ = some (.int .i64 a0_1) := (blk_cell BK101.out 1).trans rfl; have hcz7_2 : w6.cell? ⟨gb101, 2, none⟩ = some (.string a0_2) := (blk_cell BK101.out 2).trans rfl; have hcz7_3 : w6.cell? ⟨gb101, 3, none⟩ = some (.bool true) := (blk_cell BK101.out 3).trans rfl; have hcz7_4 : w6.cell? ⟨gb101, 4, none⟩ = some (.string a0_4) := (blk_cell BK101.out 4).trans rfl; have hfz7_0 := blk_frozen BK101.out 0; have hfz7_1 := blk_frozen BK101.out 1; have hfz7_2 := blk_frozen BK101.out 2; have hfz7_3 := blk_frozen BK101.out 3; have hfz7_4 := blk_frozen BK101.out 4) | ((with_reducible refine gate_callee (f := 65) rfl ?_); refine goesL_ (some 5) rfl rfl Try.func65 (by kernel_rfl) rfl #[.int .i64 a0_1] rfl (by (try simp only [List.map_toArray, List.map_cons, List.map_nil]); first | done | rfl | (simp only [List.length_drop, List.length_take]; rfl)) ?_; (with_reducible refine (journal_unit.calls a0_1 true _ A2.out).mono ?_); rintro e w' ⟨rfl, ⟨nd, rfl⟩⟩; refine ⟨_, rfl, ?_⟩))
        go_ret
        exact ⟨by first | rfl | (simp [errW_none, errW_some] <;> rfl) | (simp [*, errW_none, errW_some] <;> rfl), by repeat (first | (with_reducible first | exact HB.out | apply below_alloc | apply pw_below_drewN | apply below_drew1 | refine below_set ?_ GE101.out) | exact HB.out)⟩
      · replace c5 := Bool.eq_false_iff.mpr c5
        subst c5
        have H1 : (some (a0_4.toList == ([] : List UInt8))) = some r := by rw [if_neg (show ¬ (false = true) by decide)] at H; exact H
        clear H
        have H := H1
        clear H1
        obtain rfl := Option.some.inj H
        go_enter Try.func75, Try.ntmps75
        go_wp2_with (first | ((with_reducible refine gate_dst (N := 1) rfl ?_); refine box_event ?hg (N := 1) ?hd (cs := #[.int .i64 a0_0, .int .i64 a0_1, .string a0_2, .bool false, .string a0_4]) (t := 39) ?hr ?_; (case hd => rfl); (case hg => rfl); (case hr => first | (go_simp; done) | (go_simp; rfl)); intro gb101 hg w8 hbox hb; have n0_ := Aside0.mk (below_step (by repeat (first | (with_reducible first | exact HB.out | apply below_alloc | apply pw_below_drewN | apply below_drew1) | exact HB.out)) hb); have n1_ := Aside0.mk (hbox); have n2_ := Aside0.mk ((by rw [hg]; exact (below_size (by repeat (first | (with_reducible first | exact HB.out | apply below_alloc | apply pw_below_drewN | apply below_drew1) | exact HB.out))) : w.heap.size ≤ gb101)); have n3_ := Aside0.mk ((by rw [hg]; exact (below_size (by repeat (first | (with_reducible first | exact HB.out | apply below_alloc | apply pw_below_drewN | apply below_drew1) | exact HB.out))) : w.heap.size ≤ gb101)); clear HB; have HB := n0_; have BK101 := n1_; have GW101 := n2_; have GE101 := n3_; clear n0_ n1_ n2_ n3_; clear hb hbox hg; have hcz9_0 : w8.cell? ⟨gb101, 0, none⟩ = some (.int .i64 a0_0) := (blk_cell BK101.out 0).trans rfl; have hcz9_1 : w8.cell? ⟨gb101, 1, none⟩ = some (.int .i64 a0_1) := (blk_cell BK101.out 1).trans rfl; have hcz9_2 : w8.cell? ⟨gb101, 2, none⟩ = some (.string a0_2) := (blk_cell BK101.out 2).trans rfl; have hcz9_3 : w8.cell? ⟨gb101, 3, none⟩ = some (.bool false) := (blk_cell BK101.out 3).trans rfl; have hcz9_4 : w8.cell? ⟨gb101, 4, none⟩ = some (.string a0_4) := (blk_cell BK101.out 4).trans rfl; have hfz9_0 := blk_frozen BK101.out 0; have hfz9_1 := blk_frozen BK101.out 1; have hfz9_2 := blk_frozen BK101.out 2; have hfz9_3 := blk_frozen BK101.out 3; have hfz9_4 := blk_frozen BK101.out 4) | ((with_reducible refine gate_callee (f := 65) rfl ?_); refine goesL_ (some 5) rfl rfl Try.func65 (by kernel_rfl) rfl #[.int .i64 a0_1] rfl (by (try simp only [List.map_toArray, List.map_cons, List.map_nil]); first | done | rfl | (simp only [List.length_drop, List.length_take]; rfl)) ?_; (with_reducible refine (journal_unit.calls a0_1 true _ A2.out).mono ?_); rintro e w' ⟨rfl, ⟨nd, rfl⟩⟩; refine ⟨_, rfl, ?_⟩))
        go_ret
        exact ⟨by first | rfl | (simp [errW_none, errW_some] <;> rfl) | (simp [*, errW_none, errW_some] <;> rfl), by repeat (first | (with_reducible first | exact HB.out | apply below_alloc | apply pw_below_drewN | apply below_drew1 | refine below_set ?_ GE101.out) | exact HB.out)⟩
    · rw [if_neg c4] at H
      have c4b0 : (a0_2.toList == ([] : List UInt8)) = false := beq_eq_false_iff_ne.mpr c4
      have c4b1 : (a0_2.toList != ([] : List UInt8)) = true := bne_iff_ne.mpr c4
      obtain rfl := Option.some.inj H
      go_enter Try.func75, Try.ntmps75
      go_wp2_with (first | ((with_reducible refine gate_dst (N := 1) rfl ?_); refine box_event ?hg (N := 1) ?hd (cs := #[.int .i64 a0_0, .int .i64 a0_1, .string a0_2, .bool a0_3, .string a0_4]) (t := 39) ?hr ?_; (case hd => rfl); (case hg => rfl); (case hr => first | (go_simp; done) | (go_simp; rfl)); intro gb101 hg w10 hbox hb; have n0_ := Aside0.mk (below_step (by repeat (first | (with_reducible first | exact HB.out | apply below_alloc | apply pw_below_drewN | apply below_drew1) | exact HB.out)) hb); have n1_ := Aside0.mk (hbox); have n2_ := Aside0.mk ((by rw [hg]; exact (below_size (by repeat (first | (with_reducible first | exact HB.out | apply below_alloc | apply pw_below_drewN | apply below_drew1) | exact HB.out))) : w.heap.size ≤ gb101)); have n3_ := Aside0.mk ((by rw [hg]; exact (below_size (by repeat (first | (with_reducible first | exact HB.out | apply below_alloc | apply pw_below_drewN | apply below_drew1) | exact HB.out))) : w.heap.size ≤ gb101)); clear HB; have HB := n0_; have BK101 := n1_; have GW101 := n2_; have GE101 := n3_; clear n0_ n1_ n2_ n3_; clear hb hbox hg; have hcz11_0 : w10.cell? ⟨gb101, 0, none⟩ = some (.int .i64 a0_0) := (blk_cell BK101.out 0).trans rfl; have hcz11_1 : w10.cell? ⟨gb101, 1, none⟩ = some (.int .i64 a0_1) := (blk_cell BK101.out 1).trans rfl; have hcz11_2 : w10.cell? ⟨gb101, 2, none⟩ = some (.string a0_2) := (blk_cell BK101.out 2).trans rfl; have hcz11_3 : w10.cell? ⟨gb101, 3, none⟩ = some (.bool a0_3) := (blk_cell BK101.out 3).trans rfl; have hcz11_4 : w10.cell? ⟨gb101, 4, none⟩ = some (.string a0_4) := (blk_cell BK101.out 4).trans rfl; have hfz11_0 := blk_frozen BK101.out 0; have hfz11_1 := blk_frozen BK101.out 1; have hfz11_2 := blk_frozen BK101.out 2; have hfz11_3 := blk_frozen BK101.out 3; have hfz11_4 := blk_frozen BK101.out 4) | ((with_reducible refine gate_callee (f := 65) rfl ?_); refine goesL_ (some 5) rfl rfl Try.func65 (by kernel_rfl) rfl #[.int .i64 a0_1] rfl (by (try simp only [List.map_toArray, List.map_cons, List.map_nil]); first | done | rfl | (simp only [List.length_drop, List.length_take]; rfl)) ?_; (with_reducible refine (journal_unit.calls a0_1 true _ A2.out).mono ?_); rintro e w' ⟨rfl, ⟨nd, rfl⟩⟩; refine ⟨_, rfl, ?_⟩))
      go_ret
      exact ⟨by first | rfl | (simp [errW_none, errW_some] <;> rfl) | (simp [*, errW_none, errW_some] <;> rfl), by repeat (first | (with_reducible first | exact HB.out | apply below_alloc | apply pw_below_drewN | apply below_drew1 | refine below_set ?_ GE101.out) | exact HB.out)⟩
  · replace c3 := Bool.eq_false_iff.mpr c3
    subst c3
    have H1 : (some false) = some r := by rw [if_neg (show ¬ (false = true) by decide)] at H; exact H
    clear H
    have H := H1
    clear H1
    obtain rfl := Option.some.inj H
    go_enter Try.func75, Try.ntmps75
    go_wp2_with (first | ((with_reducible refine gate_dst (N := 1) rfl ?_); refine box_event ?hg (N := 1) ?hd (cs := #[.int .i64 a0_0, .int .i64 a0_1, .string a0_2, .bool a0_3, .string a0_4]) (t := 39) ?hr ?_; (case hd => rfl); (case hg => rfl); (case hr => first | (go_simp; done) | (go_simp; rfl)); intro gb101 hg w12 hbox hb; have n0_ := Aside0.mk (below_step (by repeat (first | (with_reducible first | exact HB.out | apply below_alloc | apply pw_below_drewN | apply below_drew1) | exact HB.out)) hb); have n1_ := Aside0.mk (hbox); have n2_ := Aside0.mk ((by rw [hg]; exact (below_size (by repeat (first | (with_reducible first | exact HB.out | apply below_alloc | apply pw_below_drewN | apply below_drew1) | exact HB.out))) : w.heap.size ≤ gb101)); have n3_ := Aside0.mk ((by rw [hg]; exact (below_size (by repeat (first | (with_reducible first | exact HB.out | apply below_alloc | apply pw_below_drewN | apply below_drew1) | exact HB.out))) : w.heap.size ≤ gb101)); clear HB; have HB := n0_; have BK101 := n1_; have GW101 := n2_; have GE101 := n3_; clear n0_ n1_ n2_ n3_; clear hb hbox hg; have hcz13_0 : w12.cell? ⟨gb101, 0, none⟩ = some (.int .i64 a0_0) := (blk_cell BK101.out 0).trans rfl; have hcz13_1 : w12.cell? ⟨gb101, 1, none⟩ = some (.int .i64 a0_1) := (blk_cell BK101.out 1).trans rfl; have hcz13_2 : w12.cell? ⟨gb101, 2, none⟩ = some (.string a0_2) := (blk_cell BK101.out 2).trans rfl; have hcz13_3 : w12.cell? ⟨gb101, 3, none⟩ = some (.bool a0_3) := (blk_cell BK101.out 3).trans rfl; have hcz13_4 : w12.cell? ⟨gb101, 4, none⟩ = some (.string a0_4) := (blk_cell BK101.out 4).trans rfl; have hfz13_0 := blk_frozen BK101.out 0; have hfz13_1 := blk_frozen BK101.out 1; have hfz13_2 := blk_frozen BK101.out 2; have hfz13_3 := blk_frozen BK101.out 3; have hfz13_4 := blk_frozen BK101.out 4) | ((with_reducible refine gate_callee (f := 65) rfl ?_); refine goesL_ (some 5) rfl rfl Try.func65 (by kernel_rfl) rfl #[.int .i64 a0_1] rfl (by (try simp only [List.map_toArray, List.map_cons, List.map_nil]); first | done | rfl | (simp only [List.length_drop, List.length_take]; rfl)) ?_; (with_reducible refine (journal_unit.calls a0_1 false _ A2.out).mono ?_); rintro e w' ⟨rfl, ⟨nd, rfl⟩⟩; refine ⟨_, rfl, ?_⟩))
    go_ret
    exact ⟨by first | rfl | (simp [errW_none, errW_some] <;> rfl) | (simp [*, errW_none, errW_some] <;> rfl), by repeat (first | (with_reducible first | exact HB.out | apply below_alloc | apply pw_below_drewN | apply below_drew1 | refine below_set ?_ GE101.out) | exact HB.out)⟩

/-! ### journal_imaged: function 76 -/
def journal_imaged.f (a0_0 : Int) (a0_1 : Int) (a0_2 : ByteArray) (a0_3 : Bool) (a0_4 : ByteArray) : Option (Bool) := (journal_unit.f a0_1).bind fun t104 => (if t104 = true then (if a0_2.toList = ([] : List UInt8) then (some false) else (if (a0_2.size : Int) ≤ 40 then (if (a0_4.size : Int) ≤ 4000 then (if a0_3 = true then (some true) else (some (a0_4.toList == ([] : List UInt8)))) else (some false)) else (some false))) else (some false))
set_option maxHeartbeats 8000000 in
set_option maxRecDepth 100000 in
theorem journal_imaged.calls (a0_0 : Int) (a0_1 : Int) (a0_2 : ByteArray) (a0_3 : Bool) (a0_4 : ByteArray) (r : Bool) (w : World) (h : journal_imaged.f a0_0 a0_1 a0_2 a0_3 a0_4 = some r) :
    Calls Try.prog 76 #[.agg #[.int .i64 a0_0, .int .i64 a0_1, .string a0_2, .bool a0_3, .string a0_4]] w fun e w' => e = .returned (.bool r) ∧ Below w.heap.size w w' := by
  have hu39 := Try.underlying39
  have HB := Aside0.mk (Below.refl w.heap.size w)
  have H : ((journal_unit.f a0_1).bind fun t104 => (if t104 = true then (if a0_2.toList = ([] : List UInt8) then (some false) else (if (a0_2.size : Int) ≤ 40 then (if (a0_4.size : Int) ≤ 4000 then (if a0_3 = true then (some true) else (some (a0_4.toList == ([] : List UInt8)))) else (some false)) else (some false))) else (some false))) = some r := h
  clear h
  replace H := Option.bind_eq_some_iff.mp H
  obtain ⟨t104, A20, H⟩ := H
  replace H : (if t104 = true then (if a0_2.toList = ([] : List UInt8) then (some false) else (if (a0_2.size : Int) ≤ 40 then (if (a0_4.size : Int) ≤ 4000 then (if a0_3 = true then (some true) else (some (a0_4.toList == ([] : List UInt8)))) else (some false)) else (some false))) else (some false)) = some r := H
  have A2 := Aside0.mk A20
  clear A20
  by_cases c3 : t104 = true
  · subst c3
    have H1 : (if a0_2.toList = ([] : List UInt8) then (some false) else (if (a0_2.size : Int) ≤ 40 then (if (a0_4.size : Int) ≤ 4000 then (if a0_3 = true then (some true) else (some (a0_4.toList == ([] : List UInt8)))) else (some false)) else (some false))) = some r := by rw [if_pos rfl] at H; exact H
    clear H
    have H := H1
    clear H1
    by_cases c4 : a0_2.toList = ([] : List UInt8)
    · rw [if_pos c4] at H
      have c4b0 : (a0_2.toList == ([] : List UInt8)) = true := beq_iff_eq.mpr c4
      have c4b1 : (a0_2.toList != ([] : List UInt8)) = false := bne_eq_false_iff_eq.mpr c4
      clear c4
      obtain rfl := Option.some.inj H
      go_enter Try.func76, Try.ntmps76
      go_wp2_with (first | ((with_reducible refine gate_dst (N := 1) rfl ?_); (try (refine gate_guard (by rfl) ?_; dsimp only)); refine box_event ?hg (N := 1) ?hd (cs := #[.int .i64 a0_0, .int .i64 a0_1, .string a0_2, .bool a0_3, .string a0_4]) (t := 39) ?hr ?_; (case hd => rfl); (case hg => rfl); (case hr => first | (go_simp; done) | (go_simp; rfl)); intro gb103 hg w5 hbox hb; have n0_ := Aside0.mk (below_step (by repeat (first | (with_reducible first | exact HB.out | apply below_alloc | apply pw_below_drewN | apply below_drew1) | exact HB.out)) hb); have n1_ := Aside0.mk (hbox); have n2_ := Aside0.mk ((by rw [hg]; exact (below_size (by repeat (first | (with_reducible first | exact HB.out | apply below_alloc | apply pw_below_drewN | apply below_drew1) | exact HB.out))) : w.heap.size ≤ gb103)); have n3_ := Aside0.mk ((by rw [hg]; exact (below_size (by repeat (first | (with_reducible first | exact HB.out | apply below_alloc | apply pw_below_drewN | apply below_drew1) | exact HB.out))) : w.heap.size ≤ gb103)); clear HB; have HB := n0_; have BK103 := n1_; have GW103 := n2_; have GE103 := n3_; clear n0_ n1_ n2_ n3_; clear hb hbox hg; have hcz6_0 : w5.cell? ⟨gb103, 0, none⟩ = some (.int .i64 a0_0) := (blk_cell BK103.out 0).trans rfl; have hcz6_1 : w5.cell? ⟨gb103, 1, none⟩ = some (.int .i64 a0_1) := (blk_cell BK103.out 1).trans rfl; have hcz6_2 : w5.cell? ⟨gb103, 2, none⟩ = some (.string a0_2) := (blk_cell BK103.out 2).trans rfl; have hcz6_3 : w5.cell? ⟨gb103, 3, none⟩ = some (.bool a0_3) := (blk_cell BK103.out 3).trans rfl; have hcz6_4 : w5.cell? ⟨gb103, 4, none⟩ = some (.string a0_4) := (blk_cell BK103.out 4).trans rfl; have hfz6_0 := blk_frozen BK103.out 0; have hfz6_1 := blk_frozen BK103.out 1; have hfz6_2 := blk_frozen BK103.out 2; have hfz6_3 := blk_frozen BK103.out 3; have hfz6_4 := blk_frozen BK103.out 4) | ((with_reducible refine gate_callee (f := 65) rfl ?_); refine goesL_ (some 5) rfl rfl Try.func65 (by kernel_rfl) rfl #[.int .i64 a0_1] rfl (by (try simp only [List.map_toArray, List.map_cons, List.map_nil]); first | done | rfl | (simp only [List.length_drop, List.length_take]; rfl)) ?_; (with_reducible refine (journal_unit.calls a0_1 true _ A2.out).mono ?_); rintro e w' ⟨rfl, ⟨nd, rfl⟩⟩; refine ⟨_, rfl, ?_⟩))
      go_ret
      exact ⟨by first | rfl | (simp [errW_none, errW_some] <;> rfl) | (simp [*, errW_none, errW_some] <;> rfl), by repeat (first | (with_reducible first | exact HB.out | apply below_alloc | apply pw_below_drewN | apply below_drew1 | refine below_set ?_ GE103.out) | exact HB.out)⟩
    · rw [if_neg c4] at H
      have c4b0 : (a0_2.toList == ([] : List UInt8)) = false := beq_eq_false_iff_ne.mpr c4
      have c4b1 : (a0_2.toList != ([] : List UInt8)) = true := bne_iff_ne.mpr c4
      by_cases c7 : (a0_2.size : Int) ≤ 40
      · rw [if_pos c7] at H
        have c7b0 : decide ((a0_2.size : Int) ≤ 40) = true := decide_eq_true c7
        have c7b1 : decide (a0_2.size ≤ 40) = true := decide_eq_true (by omega)
        clear c7
        by_cases c8 : (a0_4.size : Int) ≤ 4000
        · rw [if_pos c8] at H
          have c8b0 : decide ((a0_4.size : Int) ≤ 4000) = true := decide_eq_true c8
          have c8b1 : decide (a0_4.size ≤ 4000) = true := decide_eq_true (by omega)
          clear c8
          by_cases c9 : a0_3 = true
          · subst c9
            have H1 : (some true) = some r := by rw [if_pos rfl] at H; exact H
            clear H
            have H := H1
            clear H1
            obtain rfl := Option.some.inj H
            go_enter Try.func76, Try.ntmps76
            go_wp2_with (first | ((with_reducible refine gate_dst (N := 1) rfl ?_); (try (refine gate_guard (by rfl) ?_; dsimp only)); refine box_event ?hg (N := 1) ?hd (cs := #[.int .i64 a0_0, .int .i64 a0_1, .string a0_2, .bool true, .string a0_4]) (t := 39) ?hr ?_; (case hd => rfl); (case hg => rfl); (case hr => first | (go_simp; done) | (go_simp; rfl)); intro gb103 hg w10 hbox hb; have n0_ := Aside0.mk (below_step (by repeat (first | (with_reducible first | exact HB.out | apply below_alloc | apply pw_below_drewN | apply below_drew1) | exact HB.out)) hb); have n1_ := Aside0.mk (hbox); have n2_ := Aside0.mk ((by rw [hg]; exact (below_size (by repeat (first | (with_reducible first | exact HB.out | apply below_alloc | apply pw_below_drewN | apply below_drew1) | exact HB.out))) : w.heap.size ≤ gb103)); have n3_ := Aside0.mk ((by rw [hg]; exact (below_size (by repeat (first | (with_reducible first | exact HB.out | apply below_alloc | apply pw_below_drewN | apply below_drew1) | exact HB.out))) : w.heap.size ≤ gb103)); clear HB; have HB := n0_; have BK103 := n1_; have GW103 := n2_; have GE103 := n3_; clear n0_ n1_ n2_ n3_; clear hb hbox hg; have hcz11_0 : w10.cell? ⟨gb103, 0, none⟩ = some (.int .i64 a0_0) := (blk_cell BK103.out 0).trans rfl; have hcz11_1 : w10.cell? ⟨gb103, 1, none⟩ = some (.int .i64 a0_1) := (blk_cell BK103.out 1).trans rfl; have hcz11_2 : w10.cell? ⟨gb103, 2, none⟩ = some (.string a0_2) := (blk_cell BK103.out 2).trans rfl; have hcz11_3 : w10.cell? ⟨gb103, 3, none⟩ = some (.bool true) := (blk_cell BK103.out 3).trans rfl; have hcz11_4 : w10.cell? ⟨gb103, 4, none⟩ = some (.string a0_4) := (blk_cell BK103.out 4).trans rfl; have hfz11_0 := blk_frozen BK103.out 0; have hfz11_1 := blk_frozen BK103.out 1; have hfz11_2 := blk_frozen BK103.out 2; have hfz11_3 := blk_frozen BK103.out 3; have hfz11_4 := blk_frozen BK103.out 4) | ((with_reducible refine gate_callee (f := 65) rfl ?_); refine goesL_ (some 5) rfl rfl Try.func65 (by kernel_rfl) rfl #[.int .i64 a0_1] rfl (by (try simp only [List.map_toArray, List.map_cons, List.map_nil]); first | done | rfl | (simp only [List.length_drop, List.length_take]; rfl)) ?_; (with_reducible refine (journal_unit.calls a0_1 true _ A2.out).mono ?_); rintro e w' ⟨rfl, ⟨nd, rfl⟩⟩; refine ⟨_, rfl, ?_⟩))
            go_ret
            exact ⟨by first | rfl | (simp [errW_none, errW_some] <;> rfl) | (simp [*, errW_none, errW_some] <;> rfl), by repeat (first | (with_reducible first | exact HB.out | apply below_alloc | apply pw_below_drewN | apply below_drew1 | refine below_set ?_ GE103.out) | exact HB.out)⟩
          · replace c9 := Bool.eq_false_iff.mpr c9
            subst c9
            have H1 : (some (a0_4.toList == ([] : List UInt8))) = some r := by rw [if_neg (show ¬ (false = true) by decide)] at H; exact H
            clear H
            have H := H1
            clear H1
            obtain rfl := Option.some.inj H
            go_enter Try.func76, Try.ntmps76
            go_wp2_with (first | ((with_reducible refine gate_dst (N := 1) rfl ?_); (try (refine gate_guard (by rfl) ?_; dsimp only)); refine box_event ?hg (N := 1) ?hd (cs := #[.int .i64 a0_0, .int .i64 a0_1, .string a0_2, .bool false, .string a0_4]) (t := 39) ?hr ?_; (case hd => rfl); (case hg => rfl); (case hr => first | (go_simp; done) | (go_simp; rfl)); intro gb103 hg w12 hbox hb; have n0_ := Aside0.mk (below_step (by repeat (first | (with_reducible first | exact HB.out | apply below_alloc | apply pw_below_drewN | apply below_drew1) | exact HB.out)) hb); have n1_ := Aside0.mk (hbox); have n2_ := Aside0.mk ((by rw [hg]; exact (below_size (by repeat (first | (with_reducible first | exact HB.out | apply below_alloc | apply pw_below_drewN | apply below_drew1) | exact HB.out))) : w.heap.size ≤ gb103)); have n3_ := Aside0.mk ((by rw [hg]; exact (below_size (by repeat (first | (with_reducible first | exact HB.out | apply below_alloc | apply pw_below_drewN | apply below_drew1) | exact HB.out))) : w.heap.size ≤ gb103)); clear HB; have HB := n0_; have BK103 := n1_; have GW103 := n2_; have GE103 := n3_; clear n0_ n1_ n2_ n3_; clear hb hbox hg; have hcz13_0 : w12.cell? ⟨gb103, 0, none⟩ = some (.int .i64 a0_0) := (blk_cell BK103.out 0).trans rfl; have hcz13_1 : w12.cell? ⟨gb103, 1, none⟩ = some (.int .i64 a0_1) := (blk_cell BK103.out 1).trans rfl; have hcz13_2 : w12.cell? ⟨gb103, 2, none⟩ = some (.string a0_2) := (blk_cell BK103.out 2).trans rfl; have hcz13_3 : w12.cell? ⟨gb103, 3, none⟩ = some (.bool false) := (blk_cell BK103.out 3).trans rfl; have hcz13_4 : w12.cell? ⟨gb103, 4, none⟩ = some (.string a0_4) := (blk_cell BK103.out 4).trans rfl; have hfz13_0 := blk_frozen BK103.out 0; have hfz13_1 := blk_frozen BK103.out 1; have hfz13_2 := blk_frozen BK103.out 2; have hfz13_3 := blk_frozen BK103.out 3; have hfz13_4 := blk_frozen BK103.out 4) | ((with_reducible refine gate_callee (f := 65) rfl ?_); refine goesL_ (some 5) rfl rfl Try.func65 (by kernel_rfl) rfl #[.int .i64 a0_1] rfl (by (try simp only [List.map_toArray, List.map_cons, List.map_nil]); first | done | rfl | (simp only [List.length_drop, List.length_take]; rfl)) ?_; (with_reducible refine (journal_unit.calls a0_1 true _ A2.out).mono ?_); rintro e w' ⟨rfl, ⟨nd, rfl⟩⟩; refine ⟨_, rfl, ?_⟩))
            go_ret
            exact ⟨by first | rfl | (simp [errW_none, errW_some] <;> rfl) | (simp [*, errW_none, errW_some] <;> rfl), by repeat (first | (with_reducible first | exact HB.out | apply below_alloc | apply pw_below_drewN | apply below_drew1 | refine below_set ?_ GE103.out) | exact HB.out)⟩
        · rw [if_neg c8] at H
          have c8b0 : decide ((a0_4.size : Int) ≤ 4000) = false := decide_eq_false c8
          have c8b1 : decide (a0_4.size ≤ 4000) = false := decide_eq_false (by omega)
          clear c8
          obtain rfl := Option.some.inj H
          go_enter Try.func76, Try.ntmps76
          go_wp2_with (first | ((with_reducible refine gate_dst (N := 1) rfl ?_); (try (refine gate_guard (by rfl) ?_; dsimp only)); refine box_event ?hg (N := 1) ?hd (cs := #[.int .i64 a0_0, .int .i64 a0_1, .string a0_2, .bool a0_3, .string a0_4]) (t := 39) ?hr ?_; (case hd => rfl); (case hg => rfl); (case hr => first | (go_simp; done) | (go_simp; rfl)); intro gb103 hg w14 hbox hb; have n0_ := Aside0.mk (below_step (by repeat (first | (with_reducible first | exact HB.out | apply below_alloc | apply pw_below_drewN | apply below_drew1) | exact HB.out)) hb); have n1_ := Aside0.mk (hbox); have n2_ := Aside0.mk ((by rw [hg]; exact (below_size (by repeat (first | (with_reducible first | exact HB.out | apply below_alloc | apply pw_below_drewN | apply below_drew1) | exact HB.out))) : w.heap.size ≤ gb103)); have n3_ := Aside0.mk ((by rw [hg]; exact (below_size (by repeat (first | (with_reducible first | exact HB.out | apply below_alloc | apply pw_below_drewN | apply below_drew1) | exact HB.out))) : w.heap.size ≤ gb103)); clear HB; have HB := n0_; have BK103 := n1_; have GW103 := n2_; have GE103 := n3_; clear n0_ n1_ n2_ n3_; clear hb hbox hg; have hcz15_0 : w14.cell? ⟨gb103, 0, none⟩ = some (.int .i64 a0_0) := (blk_cell BK103.out 0).trans rfl; have hcz15_1 : w14.cell? ⟨gb103, 1, none⟩ = some (.int .i64 a0_1) := (blk_cell BK103.out 1).trans rfl; have hcz15_2 : w14.cell? ⟨gb103, 2, none⟩ = some (.string a0_2) := (blk_cell BK103.out 2).trans rfl; have hcz15_3 : w14.cell? ⟨gb103, 3, none⟩ = some (.bool a0_3) := (blk_cell BK103.out 3).trans rfl; have hcz15_4 : w14.cell? ⟨gb103, 4, none⟩ = some (.string a0_4) := (blk_cell BK103.out 4).trans rfl; have hfz15_0 := blk_frozen BK103.out 0; have hfz15_1 := blk_frozen BK103.out 1; have hfz15_2 := blk_frozen BK103.out 2; have hfz15_3 := blk_frozen BK103.out 3; have hfz15_4 := blk_frozen BK103.out 4) | ((with_reducible refine gate_callee (f := 65) rfl ?_); refine goesL_ (some 5) rfl rfl Try.func65 (by kernel_rfl) rfl #[.int .i64 a0_1] rfl (by (try simp only [List.map_toArray, List.map_cons, List.map_nil]); first | done | rfl | (simp only [List.length_drop, List.length_take]; rfl)) ?_; (with_reducible refine (journal_unit.calls a0_1 true _ A2.out).mono ?_); rintro e w' ⟨rfl, ⟨nd, rfl⟩⟩; refine ⟨_, rfl, ?_⟩))
          go_ret
          exact ⟨by first | rfl | (simp [errW_none, errW_some] <;> rfl) | (simp [*, errW_none, errW_some] <;> rfl), by repeat (first | (with_reducible first | exact HB.out | apply below_alloc | apply pw_below_drewN | apply below_drew1 | refine below_set ?_ GE103.out) | exact HB.out)⟩
      · rw [if_neg c7] at H
        have c7b0 : decide ((a0_2.size : Int) ≤ 40) = false := decide_eq_false c7
        have c7b1 : decide (a0_2.size ≤ 40) = false := decide_eq_false (by omega)
        clear c7
        obtain rfl := Option.some.inj H
        go_enter Try.func76, Try.ntmps76
        go_wp2_with (first | ((with_reducible refine gate_dst (N := 1) rfl ?_); (try (refine gate_guard (by rfl) ?_; dsimp only)); refine box_event ?hg (N := 1) ?hd (cs := #[.int .i64 a0_0, .int .i64 a0_1, .string a0_2, .bool a0_3, .string a0_4]) (t := 39) ?hr ?_; (case hd => rfl); (case hg => rfl); (case hr => first | (go_simp; done) | (go_simp; rfl)); intro gb103 hg w16 hbox hb; have n0_ := Aside0.mk (below_step (by repeat (first | (with_reducible first | exact HB.out | apply below_alloc | apply pw_below_drewN | apply below_drew1) | exact HB.out)) hb); have n1_ := Aside0.mk (hbox); have n2_ := Aside0.mk ((by rw [hg]; exact (below_size (by repeat (first | (with_reducible first | exact HB.out | apply below_alloc | apply pw_below_drewN | apply below_drew1) | exact HB.out))) : w.heap.size ≤ gb103)); have n3_ := Aside0.mk ((by rw [hg]; exact (below_size (by repeat (first | (with_reducible first | exact HB.out | apply below_alloc | apply pw_below_drewN | apply below_drew1) | exact HB.out))) : w.heap.size ≤ gb103)); clear HB; have HB := n0_; have BK103 := n1_; have GW103 := n2_; have GE103 := n3_; clear n0_ n1_ n2_ n3_; clear hb hbox hg; have hcz17_0 : w16.cell? ⟨gb103, 0, none⟩ = some (.int .i64 a0_0) := (blk_cell BK103.out 0).trans rfl; have hcz17_1 : w16.cell? ⟨gb103, 1, none⟩ = some (.int .i64 a0_1) := (blk_cell BK103.out 1).trans rfl; have hcz17_2 : w16.cell? ⟨gb103, 2, none⟩ = some (.string a0_2) := (blk_cell BK103.out 2).trans rfl; have hcz17_3 : w16.cell? ⟨gb103, 3, none⟩ = some (.bool a0_3) := (blk_cell BK103.out 3).trans rfl; have hcz17_4 : w16.cell? ⟨gb103, 4, none⟩ = some (.string a0_4) := (blk_cell BK103.out 4).trans rfl; have hfz17_0 := blk_frozen BK103.out 0; have hfz17_1 := blk_frozen BK103.out 1; have hfz17_2 := blk_frozen BK103.out 2; have hfz17_3 := blk_frozen BK103.out 3; have hfz17_4 := blk_frozen BK103.out 4) | ((with_reducible refine gate_callee (f := 65) rfl ?_); refine goesL_ (some 5) rfl rfl Try.func65 (by kernel_rfl) rfl #[.int .i64 a0_1] rfl (by (try simp only [List.map_toArray, List.map_cons, List.map_nil]); first | done | rfl | (simp only [List.length_drop, List.length_take]; rfl)) ?_; (with_reducible refine (journal_unit.calls a0_1 true _ A2.out).mono ?_); rintro e w' ⟨rfl, ⟨nd, rfl⟩⟩; refine ⟨_, rfl, ?_⟩))
        go_ret
        exact ⟨by first | rfl | (simp [errW_none, errW_some] <;> rfl) | (simp [*, errW_none, errW_some] <;> rfl), by repeat (first | (with_reducible first | exact HB.out | apply below_alloc | apply pw_below_drewN | apply below_drew1 | refine below_set ?_ GE103.out) | exact HB.out)⟩
  · replace c3 := Bool.eq_false_iff.mpr c3
    subst c3
    have H1 : (some false) = some r := by rw [if_neg (show ¬ (false = true) by decide)] at H; exact H
    clear H
    have H := H1
    clear H1
    obtain rfl := Option.some.inj H
    go_enter Try.func76, Try.ntmps76
    go_wp2_with (first | ((with_reducible refine gate_dst (N := 1) rfl ?_); (try (refine gate_guard (by rfl) ?_; dsimp only)); refine box_event ?hg (N := 1) ?hd (cs := #[.int .i64 a0_0, .int .i64 a0_1, .string a0_2, .bool a0_3, .string a0_4]) (t := 39) ?hr ?_; (case hd => rfl); (case hg => rfl); (case hr => first | (go_simp; done) | (go_simp; rfl)); intro gb103 hg w18 hbox hb; have n0_ := Aside0.mk (below_step (by repeat (first | (with_reducible first | exact HB.out | apply below_alloc | apply pw_below_drewN | apply below_drew1) | exact HB.out)) hb); have n1_ := Aside0.mk (hbox); have n2_ := Aside0.mk ((by rw [hg]; exact (below_size (by repeat (first | (with_reducible first | exact HB.out | apply below_alloc | apply pw_below_drewN | apply below_drew1) | exact HB.out))) : w.heap.size ≤ gb103)); have n3_ := Aside0.mk ((by rw [hg]; exact (below_size (by repeat (first | (with_reducible first | exact HB.out | apply below_alloc | apply pw_below_drewN | apply below_drew1) | exact HB.out))) : w.heap.size ≤ gb103)); clear HB; have HB := n0_; have BK103 := n1_; have GW103 := n2_; have GE103 := n3_; clear n0_ n1_ n2_ n3_; clear hb hbox hg; have hcz19_0 : w18.cell? ⟨gb103, 0, none⟩ = some (.int .i64 a0_0) := (blk_cell BK103.out 0).trans rfl; have hcz19_1 : w18.cell? ⟨gb103, 1, none⟩ = some (.int .i64 a0_1) := (blk_cell BK103.out 1).trans rfl; have hcz19_2 : w18.cell? ⟨gb103, 2, none⟩ = some (.string a0_2) := (blk_cell BK103.out 2).trans rfl; have hcz19_3 : w18.cell? ⟨gb103, 3, none⟩ = some (.bool a0_3) := (blk_cell BK103.out 3).trans rfl; have hcz19_4 : w18.cell? ⟨gb103, 4, none⟩ = some (.string a0_4) := (blk_cell BK103.out 4).trans rfl; have hfz19_0 := blk_frozen BK103.out 0; have hfz19_1 := blk_frozen BK103.out 1; have hfz19_2 := blk_frozen BK103.out 2; have hfz19_3 := blk_frozen BK103.out 3; have hfz19_4 := blk_frozen BK103.out 4) | ((with_reducible refine gate_callee (f := 65) rfl ?_); refine goesL_ (some 5) rfl rfl Try.func65 (by kernel_rfl) rfl #[.int .i64 a0_1] rfl (by (try simp only [List.map_toArray, List.map_cons, List.map_nil]); first | done | rfl | (simp only [List.length_drop, List.length_take]; rfl)) ?_; (with_reducible refine (journal_unit.calls a0_1 false _ A2.out).mono ?_); rintro e w' ⟨rfl, ⟨nd, rfl⟩⟩; refine ⟨_, rfl, ?_⟩))
    go_ret
    exact ⟨by first | rfl | (simp [errW_none, errW_some] <;> rfl) | (simp [*, errW_none, errW_some] <;> rfl), by repeat (first | (with_reducible first | exact HB.out | apply below_alloc | apply pw_below_drewN | apply below_drew1 | refine below_set ?_ GE103.out) | exact HB.out)⟩

/-! ### journal_named: function 77 -/
def journal_named.f (a0_0 : Int) (a0_1 : Int) (a0_2 : ByteArray) (a0_3 : Bool) (a0_4 : ByteArray) : Option (Bool) := if a0_1 = 0 then (if a0_2.toList = ([] : List UInt8) then (if a0_3 = true then (some false) else (if a0_4.toList = ([] : List UInt8) then (some false) else (some (decide ((a0_4.size : Int) ≤ 40))))) else (some false)) else (some false)
set_option maxHeartbeats 8000000 in
set_option maxRecDepth 100000 in
theorem journal_named.calls (a0_0 : Int) (a0_1 : Int) (a0_2 : ByteArray) (a0_3 : Bool) (a0_4 : ByteArray) (r : Bool) (w : World) (h : journal_named.f a0_0 a0_1 a0_2 a0_3 a0_4 = some r) :
    Calls Try.prog 77 #[.agg #[.int .i64 a0_0, .int .i64 a0_1, .string a0_2, .bool a0_3, .string a0_4]] w fun e w' => e = .returned (.bool r) ∧ Below w.heap.size w w' := by
  have hu39 := Try.underlying39
  have HB := Aside0.mk (Below.refl w.heap.size w)
  have H : (if a0_1 = 0 then (if a0_2.toList = ([] : List UInt8) then (if a0_3 = true then (some false) else (if a0_4.toList = ([] : List UInt8) then (some false) else (some (decide ((a0_4.size : Int) ≤ 40))))) else (some false)) else (some false)) = some r := h
  clear h
  by_cases c2 : a0_1 = 0
  · rw [if_pos c2] at H
    have c2b0 : (a0_1 == 0) = true := beq_iff_eq.mpr c2
    have c2b1 : (a0_1 != 0) = false := bne_eq_false_iff_eq.mpr c2
    clear c2
    by_cases c3 : a0_2.toList = ([] : List UInt8)
    · rw [if_pos c3] at H
      have c3b0 : (a0_2.toList == ([] : List UInt8)) = true := beq_iff_eq.mpr c3
      have c3b1 : (a0_2.toList != ([] : List UInt8)) = false := bne_eq_false_iff_eq.mpr c3
      clear c3
      by_cases c4 : a0_3 = true
      · subst c4
        have H1 : (some false) = some r := by rw [if_pos rfl] at H; exact H
        clear H
        have H := H1
        clear H1
        obtain rfl := Option.some.inj H
        go_enter Try.func77, Try.ntmps77
        go_wp2_with (first | ((with_reducible refine gate_dst (N := 1) rfl ?_); (try (refine gate_guard (by rfl) ?_; dsimp only)); refine box_event ?hg (N := 1) ?hd (cs := #[.int .i64 a0_0, .int .i64 a0_1, .string a0_2, .bool true, .string a0_4]) (t := 39) ?hr ?_; (case hd => rfl); (case hg => rfl); (case hr => first | (go_simp; done) | (go_simp; rfl)); intro gb105 hg w5 hbox hb; have n0_ := Aside0.mk (below_step (by repeat (first | (with_reducible first | exact HB.out | apply below_alloc | apply pw_below_drewN | apply below_drew1) | exact HB.out)) hb); have n1_ := Aside0.mk (hbox); have n2_ := Aside0.mk ((by rw [hg]; exact (below_size (by repeat (first | (with_reducible first | exact HB.out | apply below_alloc | apply pw_below_drewN | apply below_drew1) | exact HB.out))) : w.heap.size ≤ gb105)); have n3_ := Aside0.mk ((by rw [hg]; exact (below_size (by repeat (first | (with_reducible first | exact HB.out | apply below_alloc | apply pw_below_drewN | apply below_drew1) | exact HB.out))) : w.heap.size ≤ gb105)); clear HB; have HB := n0_; have BK105 := n1_; have GW105 := n2_; have GE105 := n3_; clear n0_ n1_ n2_ n3_; clear hb hbox hg; have hcz6_0 : w5.cell? ⟨gb105, 0, none⟩ = some (.int .i64 a0_0) := (blk_cell BK105.out 0).trans rfl; have hcz6_1 : w5.cell? ⟨gb105, 1, none⟩ = some (.int .i64 a0_1) := (blk_cell BK105.out 1).trans rfl; have hcz6_2 : w5.cell? ⟨gb105, 2, none⟩ = some (.string a0_2) := (blk_cell BK105.out 2).trans rfl; have hcz6_3 : w5.cell? ⟨gb105, 3, none⟩ = some (.bool true) := (blk_cell BK105.out 3).trans rfl; have hcz6_4 : w5.cell? ⟨gb105, 4, none⟩ = some (.string a0_4) := (blk_cell BK105.out 4).trans rfl; have hfz6_0 := blk_frozen BK105.out 0; have hfz6_1 := blk_frozen BK105.out 1; have hfz6_2 := blk_frozen BK105.out 2; have hfz6_3 := blk_frozen BK105.out 3; have hfz6_4 := blk_frozen BK105.out 4))
        go_ret
        exact ⟨by first | rfl | (simp [errW_none, errW_some] <;> rfl) | (simp [*, errW_none, errW_some] <;> rfl), by repeat (first | (with_reducible first | exact HB.out | apply below_alloc | apply pw_below_drewN | apply below_drew1 | refine below_set ?_ GE105.out) | exact HB.out)⟩
      · replace c4 := Bool.eq_false_iff.mpr c4
        subst c4
        have H1 : (if a0_4.toList = ([] : List UInt8) then (some false) else (some (decide ((a0_4.size : Int) ≤ 40)))) = some r := by rw [if_neg (show ¬ (false = true) by decide)] at H; exact H
        clear H
        have H := H1
        clear H1
        by_cases c7 : a0_4.toList = ([] : List UInt8)
        · rw [if_pos c7] at H
          have c7b0 : (a0_4.toList == ([] : List UInt8)) = true := beq_iff_eq.mpr c7
          have c7b1 : (a0_4.toList != ([] : List UInt8)) = false := bne_eq_false_iff_eq.mpr c7
          clear c7
          obtain rfl := Option.some.inj H
          go_enter Try.func77, Try.ntmps77
          go_wp2_with (first | ((with_reducible refine gate_dst (N := 1) rfl ?_); (try (refine gate_guard (by rfl) ?_; dsimp only)); refine box_event ?hg (N := 1) ?hd (cs := #[.int .i64 a0_0, .int .i64 a0_1, .string a0_2, .bool false, .string a0_4]) (t := 39) ?hr ?_; (case hd => rfl); (case hg => rfl); (case hr => first | (go_simp; done) | (go_simp; rfl)); intro gb105 hg w8 hbox hb; have n0_ := Aside0.mk (below_step (by repeat (first | (with_reducible first | exact HB.out | apply below_alloc | apply pw_below_drewN | apply below_drew1) | exact HB.out)) hb); have n1_ := Aside0.mk (hbox); have n2_ := Aside0.mk ((by rw [hg]; exact (below_size (by repeat (first | (with_reducible first | exact HB.out | apply below_alloc | apply pw_below_drewN | apply below_drew1) | exact HB.out))) : w.heap.size ≤ gb105)); have n3_ := Aside0.mk ((by rw [hg]; exact (below_size (by repeat (first | (with_reducible first | exact HB.out | apply below_alloc | apply pw_below_drewN | apply below_drew1) | exact HB.out))) : w.heap.size ≤ gb105)); clear HB; have HB := n0_; have BK105 := n1_; have GW105 := n2_; have GE105 := n3_; clear n0_ n1_ n2_ n3_; clear hb hbox hg; have hcz9_0 : w8.cell? ⟨gb105, 0, none⟩ = some (.int .i64 a0_0) := (blk_cell BK105.out 0).trans rfl; have hcz9_1 : w8.cell? ⟨gb105, 1, none⟩ = some (.int .i64 a0_1) := (blk_cell BK105.out 1).trans rfl; have hcz9_2 : w8.cell? ⟨gb105, 2, none⟩ = some (.string a0_2) := (blk_cell BK105.out 2).trans rfl; have hcz9_3 : w8.cell? ⟨gb105, 3, none⟩ = some (.bool false) := (blk_cell BK105.out 3).trans rfl; have hcz9_4 : w8.cell? ⟨gb105, 4, none⟩ = some (.string a0_4) := (blk_cell BK105.out 4).trans rfl; have hfz9_0 := blk_frozen BK105.out 0; have hfz9_1 := blk_frozen BK105.out 1; have hfz9_2 := blk_frozen BK105.out 2; have hfz9_3 := blk_frozen BK105.out 3; have hfz9_4 := blk_frozen BK105.out 4))
          go_ret
          exact ⟨by first | rfl | (simp [errW_none, errW_some] <;> rfl) | (simp [*, errW_none, errW_some] <;> rfl), by repeat (first | (with_reducible first | exact HB.out | apply below_alloc | apply pw_below_drewN | apply below_drew1 | refine below_set ?_ GE105.out) | exact HB.out)⟩
        · rw [if_neg c7] at H
          have c7b0 : (a0_4.toList == ([] : List UInt8)) = false := beq_eq_false_iff_ne.mpr c7
          have c7b1 : (a0_4.toList != ([] : List UInt8)) = true := bne_iff_ne.mpr c7
          obtain rfl := Option.some.inj H
          go_enter Try.func77, Try.ntmps77
          go_wp2_with (first | ((with_reducible refine gate_dst (N := 1) rfl ?_); (try (refine gate_guard (by rfl) ?_; dsimp only)); refine box_event ?hg (N := 1) ?hd (cs := #[.int .i64 a0_0, .int .i64 a0_1, .string a0_2, .bool false, .string a0_4]) (t := 39) ?hr ?_; (case hd => rfl); (case hg => rfl); (case hr => first | (go_simp; done) | (go_simp; rfl)); intro gb105 hg w10 hbox hb; have n0_ := Aside0.mk (below_step (by repeat (first | (with_reducible first | exact HB.out | apply below_alloc | apply pw_below_drewN | apply below_drew1) | exact HB.out)) hb); have n1_ := Aside0.mk (hbox); have n2_ := Aside0.mk ((by rw [hg]; exact (below_size (by repeat (first | (with_reducible first | exact HB.out | apply below_alloc | apply pw_below_drewN | apply below_drew1) | exact HB.out))) : w.heap.size ≤ gb105)); have n3_ := Aside0.mk ((by rw [hg]; exact (below_size (by repeat (first | (with_reducible first | exact HB.out | apply below_alloc | apply pw_below_drewN | apply below_drew1) | exact HB.out))) : w.heap.size ≤ gb105)); clear HB; have HB := n0_; have BK105 := n1_; have GW105 := n2_; have GE105 := n3_; clear n0_ n1_ n2_ n3_; clear hb hbox hg; have hcz11_0 : w10.cell? ⟨gb105, 0, none⟩ = some (.int .i64 a0_0) := (blk_cell BK105.out 0).trans rfl; have hcz11_1 : w10.cell? ⟨gb105, 1, none⟩ = some (.int .i64 a0_1) := (blk_cell BK105.out 1).trans rfl; have hcz11_2 : w10.cell? ⟨gb105, 2, none⟩ = some (.string a0_2) := (blk_cell BK105.out 2).trans rfl; have hcz11_3 : w10.cell? ⟨gb105, 3, none⟩ = some (.bool false) := (blk_cell BK105.out 3).trans rfl; have hcz11_4 : w10.cell? ⟨gb105, 4, none⟩ = some (.string a0_4) := (blk_cell BK105.out 4).trans rfl; have hfz11_0 := blk_frozen BK105.out 0; have hfz11_1 := blk_frozen BK105.out 1; have hfz11_2 := blk_frozen BK105.out 2; have hfz11_3 := blk_frozen BK105.out 3; have hfz11_4 := blk_frozen BK105.out 4))
          go_ret
          exact ⟨by first | rfl | (simp [errW_none, errW_some] <;> rfl) | (simp [*, errW_none, errW_some] <;> rfl), by repeat (first | (with_reducible first | exact HB.out | apply below_alloc | apply pw_below_drewN | apply below_drew1 | refine below_set ?_ GE105.out) | exact HB.out)⟩
    · rw [if_neg c3] at H
      have c3b0 : (a0_2.toList == ([] : List UInt8)) = false := beq_eq_false_iff_ne.mpr c3
      have c3b1 : (a0_2.toList != ([] : List UInt8)) = true := bne_iff_ne.mpr c3
      obtain rfl := Option.some.inj H
      go_enter Try.func77, Try.ntmps77
      go_wp2_with (first | ((with_reducible refine gate_dst (N := 1) rfl ?_); (try (refine gate_guard (by rfl) ?_; dsimp only)); refine box_event ?hg (N := 1) ?hd (cs := #[.int .i64 a0_0, .int .i64 a0_1, .string a0_2, .bool a0_3, .string a0_4]) (t := 39) ?hr ?_; (case hd => rfl); (case hg => rfl); (case hr => first | (go_simp; done) | (go_simp; rfl)); intro gb105 hg w12 hbox hb; have n0_ := Aside0.mk (below_step (by repeat (first | (with_reducible first | exact HB.out | apply below_alloc | apply pw_below_drewN | apply below_drew1) | exact HB.out)) hb); have n1_ := Aside0.mk (hbox); have n2_ := Aside0.mk ((by rw [hg]; exact (below_size (by repeat (first | (with_reducible first | exact HB.out | apply below_alloc | apply pw_below_drewN | apply below_drew1) | exact HB.out))) : w.heap.size ≤ gb105)); have n3_ := Aside0.mk ((by rw [hg]; exact (below_size (by repeat (first | (with_reducible first | exact HB.out | apply below_alloc | apply pw_below_drewN | apply below_drew1) | exact HB.out))) : w.heap.size ≤ gb105)); clear HB; have HB := n0_; have BK105 := n1_; have GW105 := n2_; have GE105 := n3_; clear n0_ n1_ n2_ n3_; clear hb hbox hg; have hcz13_0 : w12.cell? ⟨gb105, 0, none⟩ = some (.int .i64 a0_0) := (blk_cell BK105.out 0).trans rfl; have hcz13_1 : w12.cell? ⟨gb105, 1, none⟩ = some (.int .i64 a0_1) := (blk_cell BK105.out 1).trans rfl; have hcz13_2 : w12.cell? ⟨gb105, 2, none⟩ = some (.string a0_2) := (blk_cell BK105.out 2).trans rfl; have hcz13_3 : w12.cell? ⟨gb105, 3, none⟩ = some (.bool a0_3) := (blk_cell BK105.out 3).trans rfl; have hcz13_4 : w12.cell? ⟨gb105, 4, none⟩ = some (.string a0_4) := (blk_cell BK105.out 4).trans rfl; have hfz13_0 := blk_frozen BK105.out 0; have hfz13_1 := blk_frozen BK105.out 1; have hfz13_2 := blk_frozen BK105.out 2; have hfz13_3 := blk_frozen BK105.out 3; have hfz13_4 := blk_frozen BK105.out 4))
      go_ret
      exact ⟨by first | rfl | (simp [errW_none, errW_some] <;> rfl) | (simp [*, errW_none, errW_some] <;> rfl), by repeat (first | (with_reducible first | exact HB.out | apply below_alloc | apply pw_below_drewN | apply below_drew1 | refine below_set ?_ GE105.out) | exact HB.out)⟩
  · rw [if_neg c2] at H
    have c2b0 : (a0_1 == 0) = false := beq_eq_false_iff_ne.mpr c2
    have c2b1 : (a0_1 != 0) = true := bne_iff_ne.mpr c2
    obtain rfl := Option.some.inj H
    go_enter Try.func77, Try.ntmps77
    go_wp2_with (first | ((with_reducible refine gate_dst (N := 1) rfl ?_); (try (refine gate_guard (by rfl) ?_; dsimp only)); refine box_event ?hg (N := 1) ?hd (cs := #[.int .i64 a0_0, .int .i64 a0_1, .string a0_2, .bool a0_3, .string a0_4]) (t := 39) ?hr ?_; (case hd => rfl); (case hg => rfl); (case hr => first | (go_simp; done) | (go_simp; rfl)); intro gb105 hg w14 hbox hb; have n0_ := Aside0.mk (below_step (by repeat (first | (with_reducible first | exact HB.out | apply below_alloc | apply pw_below_drewN | apply below_drew1) | exact HB.out)) hb); have n1_ := Aside0.mk (hbox); have n2_ := Aside0.mk ((by rw [hg]; exact (below_size (by repeat (first | (with_reducible first | exact HB.out | apply below_alloc | apply pw_below_drewN | apply below_drew1) | exact HB.out))) : w.heap.size ≤ gb105)); have n3_ := Aside0.mk ((by rw [hg]; exact (below_size (by repeat (first | (with_reducible first | exact HB.out | apply below_alloc | apply pw_below_drewN | apply below_drew1) | exact HB.out))) : w.heap.size ≤ gb105)); clear HB; have HB := n0_; have BK105 := n1_; have GW105 := n2_; have GE105 := n3_; clear n0_ n1_ n2_ n3_; clear hb hbox hg; have hcz15_0 : w14.cell? ⟨gb105, 0, none⟩ = some (.int .i64 a0_0) := (blk_cell BK105.out 0).trans rfl; have hcz15_1 : w14.cell? ⟨gb105, 1, none⟩ = some (.int .i64 a0_1) := (blk_cell BK105.out 1).trans rfl; have hcz15_2 : w14.cell? ⟨gb105, 2, none⟩ = some (.string a0_2) := (blk_cell BK105.out 2).trans rfl; have hcz15_3 : w14.cell? ⟨gb105, 3, none⟩ = some (.bool a0_3) := (blk_cell BK105.out 3).trans rfl; have hcz15_4 : w14.cell? ⟨gb105, 4, none⟩ = some (.string a0_4) := (blk_cell BK105.out 4).trans rfl; have hfz15_0 := blk_frozen BK105.out 0; have hfz15_1 := blk_frozen BK105.out 1; have hfz15_2 := blk_frozen BK105.out 2; have hfz15_3 := blk_frozen BK105.out 3; have hfz15_4 := blk_frozen BK105.out 4))
    go_ret
    exact ⟨by first | rfl | (simp [errW_none, errW_some] <;> rfl) | (simp [*, errW_none, errW_some] <;> rfl), by repeat (first | (with_reducible first | exact HB.out | apply below_alloc | apply pw_below_drewN | apply below_drew1 | refine below_set ?_ GE105.out) | exact HB.out)⟩

/-! ### journal_image: function 44 -/
def journal_image.f (a0_0 : ByteArray) (a0_1 : Bool) (a0_2 : ByteArray) : Option (Bool) := if a0_0.toList = ([] : List UInt8) then (some false) else (if (a0_0.size : Int) ≤ 40 then (if (a0_2.size : Int) ≤ 4000 then (if a0_1 = true then (some true) else (some (a0_2.toList == ([] : List UInt8)))) else (some false)) else (some false))
set_option maxHeartbeats 8000000 in
set_option maxRecDepth 100000 in
theorem journal_image.calls (a0_0 : ByteArray) (a0_1 : Bool) (a0_2 : ByteArray) (r : Bool) (w : World) (h : journal_image.f a0_0 a0_1 a0_2 = some r) :
    Calls Try.prog 44 #[.agg #[.string a0_0, .bool a0_1, .string a0_2]] w fun e w' => e = .returned (.bool r) ∧ Below w.heap.size w w' := by
  have hu41 := Try.underlying41
  have HB := Aside0.mk (Below.refl w.heap.size w)
  have H : (if a0_0.toList = ([] : List UInt8) then (some false) else (if (a0_0.size : Int) ≤ 40 then (if (a0_2.size : Int) ≤ 4000 then (if a0_1 = true then (some true) else (some (a0_2.toList == ([] : List UInt8)))) else (some false)) else (some false))) = some r := h
  clear h
  by_cases c2 : a0_0.toList = ([] : List UInt8)
  · rw [if_pos c2] at H
    have c2b0 : (a0_0.toList == ([] : List UInt8)) = true := beq_iff_eq.mpr c2
    have c2b1 : (a0_0.toList != ([] : List UInt8)) = false := bne_eq_false_iff_eq.mpr c2
    clear c2
    obtain rfl := Option.some.inj H
    go_enter Try.func44, Try.ntmps44
    go_wp2_with (first | ((with_reducible refine gate_dst (N := 1) rfl ?_); (try (refine gate_guard (by rfl) ?_; dsimp only)); refine box_event ?hg (N := 1) ?hd (cs := #[.string a0_0, .bool a0_1, .string a0_2]) (t := 41) ?hr ?_; (case hd => rfl); (case hg => rfl); (case hr => first | (go_simp; done) | (go_simp; rfl)); intro gb108 hg w3 hbox hb; have n0_ := Aside0.mk (below_step (by repeat (first | (with_reducible first | exact HB.out | apply below_alloc | apply pw_below_drewN | apply below_drew1) | exact HB.out)) hb); have n1_ := Aside0.mk (hbox); have n2_ := Aside0.mk ((by rw [hg]; exact (below_size (by repeat (first | (with_reducible first | exact HB.out | apply below_alloc | apply pw_below_drewN | apply below_drew1) | exact HB.out))) : w.heap.size ≤ gb108)); have n3_ := Aside0.mk ((by rw [hg]; exact (below_size (by repeat (first | (with_reducible first | exact HB.out | apply below_alloc | apply pw_below_drewN | apply below_drew1) | exact HB.out))) : w.heap.size ≤ gb108)); clear HB; have HB := n0_; have BK108 := n1_; have GW108 := n2_; have GE108 := n3_; clear n0_ n1_ n2_ n3_; clear hb hbox hg; have hcz4_0 : w3.cell? ⟨gb108, 0, none⟩ = some (.string a0_0) := (blk_cell BK108.out 0).trans rfl; have hcz4_1 : w3.cell? ⟨gb108, 1, none⟩ = some (.bool a0_1) := (blk_cell BK108.out 1).trans rfl; have hcz4_2 : w3.cell? ⟨gb108, 2, none⟩ = some (.string a0_2) := (blk_cell BK108.out 2).trans rfl; have hfz4_0 := blk_frozen BK108.out 0; have hfz4_1 := blk_frozen BK108.out 1; have hfz4_2 := blk_frozen BK108.out 2))
    go_ret
    exact ⟨by first | rfl | (simp [errW_none, errW_some] <;> rfl) | (simp [*, errW_none, errW_some] <;> rfl), by repeat (first | (with_reducible first | exact HB.out | apply below_alloc | apply pw_below_drewN | apply below_drew1 | refine below_set ?_ GE108.out) | exact HB.out)⟩
  · rw [if_neg c2] at H
    have c2b0 : (a0_0.toList == ([] : List UInt8)) = false := beq_eq_false_iff_ne.mpr c2
    have c2b1 : (a0_0.toList != ([] : List UInt8)) = true := bne_iff_ne.mpr c2
    by_cases c5 : (a0_0.size : Int) ≤ 40
    · rw [if_pos c5] at H
      have c5b0 : decide ((a0_0.size : Int) ≤ 40) = true := decide_eq_true c5
      have c5b1 : decide (a0_0.size ≤ 40) = true := decide_eq_true (by omega)
      clear c5
      by_cases c6 : (a0_2.size : Int) ≤ 4000
      · rw [if_pos c6] at H
        have c6b0 : decide ((a0_2.size : Int) ≤ 4000) = true := decide_eq_true c6
        have c6b1 : decide (a0_2.size ≤ 4000) = true := decide_eq_true (by omega)
        clear c6
        by_cases c7 : a0_1 = true
        · subst c7
          have H1 : (some true) = some r := by rw [if_pos rfl] at H; exact H
          clear H
          have H := H1
          clear H1
          obtain rfl := Option.some.inj H
          go_enter Try.func44, Try.ntmps44
          go_wp2_with (first | ((with_reducible refine gate_dst (N := 1) rfl ?_); (try (refine gate_guard (by rfl) ?_; dsimp only)); refine box_event ?hg (N := 1) ?hd (cs := #[.string a0_0, .bool true, .string a0_2]) (t := 41) ?hr ?_; (case hd => rfl); (case hg => rfl); (case hr => first | (go_simp; done) | (go_simp; rfl)); intro gb108 hg w8 hbox hb; have n0_ := Aside0.mk (below_step (by repeat (first | (with_reducible first | exact HB.out | apply below_alloc | apply pw_below_drewN | apply below_drew1) | exact HB.out)) hb); have n1_ := Aside0.mk (hbox); have n2_ := Aside0.mk ((by rw [hg]; exact (below_size (by repeat (first | (with_reducible first | exact HB.out | apply below_alloc | apply pw_below_drewN | apply below_drew1) | exact HB.out))) : w.heap.size ≤ gb108)); have n3_ := Aside0.mk ((by rw [hg]; exact (below_size (by repeat (first | (with_reducible first | exact HB.out | apply below_alloc | apply pw_below_drewN | apply below_drew1) | exact HB.out))) : w.heap.size ≤ gb108)); clear HB; have HB := n0_; have BK108 := n1_; have GW108 := n2_; have GE108 := n3_; clear n0_ n1_ n2_ n3_; clear hb hbox hg; have hcz9_0 : w8.cell? ⟨gb108, 0, none⟩ = some (.string a0_0) := (blk_cell BK108.out 0).trans rfl; have hcz9_1 : w8.cell? ⟨gb108, 1, none⟩ = some (.bool true) := (blk_cell BK108.out 1).trans rfl; have hcz9_2 : w8.cell? ⟨gb108, 2, none⟩ = some (.string a0_2) := (blk_cell BK108.out 2).trans rfl; have hfz9_0 := blk_frozen BK108.out 0; have hfz9_1 := blk_frozen BK108.out 1; have hfz9_2 := blk_frozen BK108.out 2))
          go_ret
          exact ⟨by first | rfl | (simp [errW_none, errW_some] <;> rfl) | (simp [*, errW_none, errW_some] <;> rfl), by repeat (first | (with_reducible first | exact HB.out | apply below_alloc | apply pw_below_drewN | apply below_drew1 | refine below_set ?_ GE108.out) | exact HB.out)⟩
        · replace c7 := Bool.eq_false_iff.mpr c7
          subst c7
          have H1 : (some (a0_2.toList == ([] : List UInt8))) = some r := by rw [if_neg (show ¬ (false = true) by decide)] at H; exact H
          clear H
          have H := H1
          clear H1
          obtain rfl := Option.some.inj H
          go_enter Try.func44, Try.ntmps44
          go_wp2_with (first | ((with_reducible refine gate_dst (N := 1) rfl ?_); (try (refine gate_guard (by rfl) ?_; dsimp only)); refine box_event ?hg (N := 1) ?hd (cs := #[.string a0_0, .bool false, .string a0_2]) (t := 41) ?hr ?_; (case hd => rfl); (case hg => rfl); (case hr => first | (go_simp; done) | (go_simp; rfl)); intro gb108 hg w10 hbox hb; have n0_ := Aside0.mk (below_step (by repeat (first | (with_reducible first | exact HB.out | apply below_alloc | apply pw_below_drewN | apply below_drew1) | exact HB.out)) hb); have n1_ := Aside0.mk (hbox); have n2_ := Aside0.mk ((by rw [hg]; exact (below_size (by repeat (first | (with_reducible first | exact HB.out | apply below_alloc | apply pw_below_drewN | apply below_drew1) | exact HB.out))) : w.heap.size ≤ gb108)); have n3_ := Aside0.mk ((by rw [hg]; exact (below_size (by repeat (first | (with_reducible first | exact HB.out | apply below_alloc | apply pw_below_drewN | apply below_drew1) | exact HB.out))) : w.heap.size ≤ gb108)); clear HB; have HB := n0_; have BK108 := n1_; have GW108 := n2_; have GE108 := n3_; clear n0_ n1_ n2_ n3_; clear hb hbox hg; have hcz11_0 : w10.cell? ⟨gb108, 0, none⟩ = some (.string a0_0) := (blk_cell BK108.out 0).trans rfl; have hcz11_1 : w10.cell? ⟨gb108, 1, none⟩ = some (.bool false) := (blk_cell BK108.out 1).trans rfl; have hcz11_2 : w10.cell? ⟨gb108, 2, none⟩ = some (.string a0_2) := (blk_cell BK108.out 2).trans rfl; have hfz11_0 := blk_frozen BK108.out 0; have hfz11_1 := blk_frozen BK108.out 1; have hfz11_2 := blk_frozen BK108.out 2))
          go_ret
          exact ⟨by first | rfl | (simp [errW_none, errW_some] <;> rfl) | (simp [*, errW_none, errW_some] <;> rfl), by repeat (first | (with_reducible first | exact HB.out | apply below_alloc | apply pw_below_drewN | apply below_drew1 | refine below_set ?_ GE108.out) | exact HB.out)⟩
      · rw [if_neg c6] at H
        have c6b0 : decide ((a0_2.size : Int) ≤ 4000) = false := decide_eq_false c6
        have c6b1 : decide (a0_2.size ≤ 4000) = false := decide_eq_false (by omega)
        clear c6
        obtain rfl := Option.some.inj H
        go_enter Try.func44, Try.ntmps44
        go_wp2_with (first | ((with_reducible refine gate_dst (N := 1) rfl ?_); (try (refine gate_guard (by rfl) ?_; dsimp only)); refine box_event ?hg (N := 1) ?hd (cs := #[.string a0_0, .bool a0_1, .string a0_2]) (t := 41) ?hr ?_; (case hd => rfl); (case hg => rfl); (case hr => first | (go_simp; done) | (go_simp; rfl)); intro gb108 hg w12 hbox hb; have n0_ := Aside0.mk (below_step (by repeat (first | (with_reducible first | exact HB.out | apply below_alloc | apply pw_below_drewN | apply below_drew1) | exact HB.out)) hb); have n1_ := Aside0.mk (hbox); have n2_ := Aside0.mk ((by rw [hg]; exact (below_size (by repeat (first | (with_reducible first | exact HB.out | apply below_alloc | apply pw_below_drewN | apply below_drew1) | exact HB.out))) : w.heap.size ≤ gb108)); have n3_ := Aside0.mk ((by rw [hg]; exact (below_size (by repeat (first | (with_reducible first | exact HB.out | apply below_alloc | apply pw_below_drewN | apply below_drew1) | exact HB.out))) : w.heap.size ≤ gb108)); clear HB; have HB := n0_; have BK108 := n1_; have GW108 := n2_; have GE108 := n3_; clear n0_ n1_ n2_ n3_; clear hb hbox hg; have hcz13_0 : w12.cell? ⟨gb108, 0, none⟩ = some (.string a0_0) := (blk_cell BK108.out 0).trans rfl; have hcz13_1 : w12.cell? ⟨gb108, 1, none⟩ = some (.bool a0_1) := (blk_cell BK108.out 1).trans rfl; have hcz13_2 : w12.cell? ⟨gb108, 2, none⟩ = some (.string a0_2) := (blk_cell BK108.out 2).trans rfl; have hfz13_0 := blk_frozen BK108.out 0; have hfz13_1 := blk_frozen BK108.out 1; have hfz13_2 := blk_frozen BK108.out 2))
        go_ret
        exact ⟨by first | rfl | (simp [errW_none, errW_some] <;> rfl) | (simp [*, errW_none, errW_some] <;> rfl), by repeat (first | (with_reducible first | exact HB.out | apply below_alloc | apply pw_below_drewN | apply below_drew1 | refine below_set ?_ GE108.out) | exact HB.out)⟩
    · rw [if_neg c5] at H
      have c5b0 : decide ((a0_0.size : Int) ≤ 40) = false := decide_eq_false c5
      have c5b1 : decide (a0_0.size ≤ 40) = false := decide_eq_false (by omega)
      clear c5
      obtain rfl := Option.some.inj H
      go_enter Try.func44, Try.ntmps44
      go_wp2_with (first | ((with_reducible refine gate_dst (N := 1) rfl ?_); (try (refine gate_guard (by rfl) ?_; dsimp only)); refine box_event ?hg (N := 1) ?hd (cs := #[.string a0_0, .bool a0_1, .string a0_2]) (t := 41) ?hr ?_; (case hd => rfl); (case hg => rfl); (case hr => first | (go_simp; done) | (go_simp; rfl)); intro gb108 hg w14 hbox hb; have n0_ := Aside0.mk (below_step (by repeat (first | (with_reducible first | exact HB.out | apply below_alloc | apply pw_below_drewN | apply below_drew1) | exact HB.out)) hb); have n1_ := Aside0.mk (hbox); have n2_ := Aside0.mk ((by rw [hg]; exact (below_size (by repeat (first | (with_reducible first | exact HB.out | apply below_alloc | apply pw_below_drewN | apply below_drew1) | exact HB.out))) : w.heap.size ≤ gb108)); have n3_ := Aside0.mk ((by rw [hg]; exact (below_size (by repeat (first | (with_reducible first | exact HB.out | apply below_alloc | apply pw_below_drewN | apply below_drew1) | exact HB.out))) : w.heap.size ≤ gb108)); clear HB; have HB := n0_; have BK108 := n1_; have GW108 := n2_; have GE108 := n3_; clear n0_ n1_ n2_ n3_; clear hb hbox hg; have hcz15_0 : w14.cell? ⟨gb108, 0, none⟩ = some (.string a0_0) := (blk_cell BK108.out 0).trans rfl; have hcz15_1 : w14.cell? ⟨gb108, 1, none⟩ = some (.bool a0_1) := (blk_cell BK108.out 1).trans rfl; have hcz15_2 : w14.cell? ⟨gb108, 2, none⟩ = some (.string a0_2) := (blk_cell BK108.out 2).trans rfl; have hfz15_0 := blk_frozen BK108.out 0; have hfz15_1 := blk_frozen BK108.out 1; have hfz15_2 := blk_frozen BK108.out 2))
      go_ret
      exact ⟨by first | rfl | (simp [errW_none, errW_some] <;> rfl) | (simp [*, errW_none, errW_some] <;> rfl), by repeat (first | (with_reducible first | exact HB.out | apply below_alloc | apply pw_below_drewN | apply below_drew1 | refine below_set ?_ GE108.out) | exact HB.out)⟩

end Go.Proofs.Yteblpjnkinghoaa.J
namespace Go.Proofs.Yteblpjnkinghoaa.J
open Go.RowKit Go.Proofs.YteblpjnkinghoaaW.PrintWords Go.Proofs.YteblpjnkinghoaaW.PrintLast Go.Proofs.YteblpjnkinghoaaW.PrintMore
attribute [local go_sem] max2_int min2_int max_two min_two max_three min_three max_four min_four   -- for this text's walks alone
set_option linter.unusedVariables false
set_option linter.unusedSimpArgs false
attribute [local go_sem high] eqA39
/-! ### ringworkref25_SameNotes: function 25 -/
def ringworkref25_SameNotes.l0 : Nat → List (S39) → List (S39) → Int → Option (Bool)
  | 0, _, _, _ => none
  | k + 1, x0, x1, x5 => if x5 < (x0.length : Int) then (if 0 ≤ x5 then (if x5 < (x1.length : Int) then (if (!(((rd_T39 x0 x5).f0) == ((rd_T39 x1 x5).f0)) || (!(((rd_T39 x0 x5).f1) == ((rd_T39 x1 x5).f1)) || (!((((rd_T39 x0 x5).f2).toList) == (((rd_T39 x1 x5).f2).toList)) || (!(((rd_T39 x0 x5).f3) == ((rd_T39 x1 x5).f3)) || (!((((rd_T39 x0 x5).f4).toList) == (((rd_T39 x1 x5).f4).toList))))))) = true then (some false) else (ringworkref25_SameNotes.l0 k x0 x1 (wrap64 (x5 + 1)))) else (none)) else (none)) else (some true)
def ringworkref25_SameNotes.f (k : Nat) (l0 : List (S39)) (l1 : List (S39)) : Option (Bool) := if (l0.length : Int) = (l1.length : Int) then (ringworkref25_SameNotes.l0 k l0 l1 0) else (some false)
set_option maxHeartbeats 8000000 in
set_option maxRecDepth 100000 in
theorem ringworkref25_SameNotes.calls (k : Nat) (A0 : Option Addr) (c0 : Nat) (l0 : List (S39)) (A1 : Option Addr) (c1 : Nat) (l1 : List (S39)) (r : Bool) (w : World) (hr0 : Kd.C k39 w A0 l0.length l0) (hc0 : l0.length ≤ c0) (hr1 : Kd.C k39 w A1 l1.length l1) (hc1 : l1.length ≤ c1) (h : ringworkref25_SameNotes.f k l0 l1 = some r) :
    Calls Try.prog 25 #[.slice A0 l0.length c0, .slice A1 l1.length c1] w fun e w' => e = .returned (.bool r) ∧ Drawn0 w w' := by
  have hu39 := Try.underlying39
  have HR0 := Aside0.mk hr0
  have HC0 := Aside0.mk hc0
  clear hr0 hc0
  have HR1 := Aside0.mk hr1
  have HC1 := Aside0.mk hc1
  clear hr1 hc1
  have H : (if (l0.length : Int) = (l1.length : Int) then (ringworkref25_SameNotes.l0 k l0 l1 0) else (some false)) = some r := h
  clear h
  by_cases c3 : (l0.length : Int) = (l1.length : Int)
  · rw [if_pos c3] at H
    have c3b0 : ((l0.length : Int) == (l1.length : Int)) = true := beq_iff_eq.mpr c3
    have c3b1 : ((l0.length : Int) != (l1.length : Int)) = false := bne_eq_false_iff_eq.mpr c3
    have c3b2 : (l0.length == l1.length) = true := by first | simpa using c3 | (simp at c3 ⊢; omega)
    clear c3
    have H' := Aside0.mk H
    clear H
    go_enter Try.func25, Try.ntmps25
    go_wp2
    repeat (go_quiet (fail); try go_wp2)
    go_loopg [5] k (fun kq v5 w' => ∃ (x5_1 : Int), v5 = .int .i64 x5_1 ∧ Aside0 (ringworkref25_SameNotes.l0 kq l0 l1 x5_1 = some r) ∧ Aside0 (kq ≤ k) ∧ Drawn0 w w')
    case atStart => exact ⟨(0), (by first | rfl | (simp; done) | (simp [*]; done)), H', ⟨Nat.le_refl _⟩, by repeat (first | exact Drawn0.refl _ | apply Drawn0.step)⟩
    case round =>
      clear H'
      try clear c1
      try clear c2
      try clear p2
      try clear c3
      try clear c3b0
      try clear c3b1
      try clear c3b2
      obtain ⟨x5_1, rfl, HA, HK1, ⟨m1, rfl⟩⟩ := hrel
      cases gk with
      | zero => exact absurd HA.out (by simp [ringworkref25_SameNotes.l0])
      | succ k1 =>
        have H := HA.out
        clear HA
        simp only [ringworkref25_SameNotes.l0] at H
        by_cases c4 : x5_1 < (l0.length : Int)
        · rw [if_pos c4] at H
          have c4b0 : decide (x5_1 < (l0.length : Int)) = true := decide_eq_true c4
          clear c4
          by_cases c5 : 0 ≤ x5_1
          · rw [if_pos c5] at H
            have c5b0 : decide (0 ≤ x5_1) = true := decide_eq_true c5
            clear c5
            by_cases c6 : x5_1 < (l1.length : Int)
            · rw [if_pos c6] at H
              have c6b0 : decide (x5_1 < (l1.length : Int)) = true := decide_eq_true c6
              clear c6
              by_cases c7 : (!(((rd_T39 l0 x5_1).f0) == ((rd_T39 l1 x5_1).f0)) || (!(((rd_T39 l0 x5_1).f1) == ((rd_T39 l1 x5_1).f1)) || (!((((rd_T39 l0 x5_1).f2).toList) == (((rd_T39 l1 x5_1).f2).toList)) || (!(((rd_T39 l0 x5_1).f3) == ((rd_T39 l1 x5_1).f3)) || (!((((rd_T39 l0 x5_1).f4).toList) == (((rd_T39 l1 x5_1).f4).toList))))))) = true
              · rw [if_pos c7] at H
                have c7b0 : (!(((rd_T39 l0 x5_1).f0) == ((rd_T39 l1 x5_1).f0)) || (!(((rd_T39 l0 x5_1).f1) == ((rd_T39 l1 x5_1).f1)) || (!((((rd_T39 l0 x5_1).f2).toList) == (((rd_T39 l1 x5_1).f2).toList)) || (!(((rd_T39 l0 x5_1).f3) == ((rd_T39 l1 x5_1).f3)) || (!((((rd_T39 l0 x5_1).f4).toList) == (((rd_T39 l1 x5_1).f4).toList))))))) = true := c7
                clear c7
                obtain rfl := Option.some.inj H
                have p112 : 0 ≤ (x5_1 : Int) := of_decide_eq_true (by first | (with_reducible assumption) | assumption)
                have q112 : x5_1 < (l0.length : Int) := of_decide_eq_true (by first | (with_reducible assumption) | assumption)
                obtain ⟨ad112, e112, hx112_0, hx112_1, hx112_2, hx112_3, hx112_4⟩ := at_T39 HR0.out x5_1 p112 q112
                cases e112
                replace p112 := eq_true p112
                replace q112 := eq_true q112
                have p113 : 0 ≤ (x5_1 : Int) := of_decide_eq_true (by first | (with_reducible assumption) | assumption)
                have q113 : x5_1 < (l1.length : Int) := of_decide_eq_true (by first | (with_reducible assumption) | assumption)
                obtain ⟨ad113, e113, hx113_0, hx113_1, hx113_2, hx113_3, hx113_4⟩ := at_T39 HR1.out x5_1 p113 q113
                cases e113
                replace p113 := eq_true p113
                replace q113 := eq_true q113
                go_wp2
                repeat (go_quiet (fail); try go_wp2)
                go_ret
                exact ⟨by first | rfl | (simp; done) | (simp [*]; done), by repeat (first | exact Drawn0.refl _ | apply Drawn0.step)⟩
              · rw [if_neg c7] at H
                have c7b0 : (!(((rd_T39 l0 x5_1).f0) == ((rd_T39 l1 x5_1).f0)) || (!(((rd_T39 l0 x5_1).f1) == ((rd_T39 l1 x5_1).f1)) || (!((((rd_T39 l0 x5_1).f2).toList) == (((rd_T39 l1 x5_1).f2).toList)) || (!(((rd_T39 l0 x5_1).f3) == ((rd_T39 l1 x5_1).f3)) || (!((((rd_T39 l0 x5_1).f4).toList) == (((rd_T39 l1 x5_1).f4).toList))))))) = false := by simpa using c7
                clear c7
                have H' := Aside0.mk H
                clear H
                have p112 : 0 ≤ (x5_1 : Int) := of_decide_eq_true (by first | (with_reducible assumption) | assumption)
                have q112 : x5_1 < (l0.length : Int) := of_decide_eq_true (by first | (with_reducible assumption) | assumption)
                obtain ⟨ad112, e112, hx112_0, hx112_1, hx112_2, hx112_3, hx112_4⟩ := at_T39 HR0.out x5_1 p112 q112
                cases e112
                replace p112 := eq_true p112
                replace q112 := eq_true q112
                have p113 : 0 ≤ (x5_1 : Int) := of_decide_eq_true (by first | (with_reducible assumption) | assumption)
                have q113 : x5_1 < (l1.length : Int) := of_decide_eq_true (by first | (with_reducible assumption) | assumption)
                obtain ⟨ad113, e113, hx113_0, hx113_1, hx113_2, hx113_3, hx113_4⟩ := at_T39 HR1.out x5_1 p113 q113
                cases e113
                replace p113 := eq_true p113
                replace q113 := eq_true q113
                go_wp2
                repeat (go_quiet (fail); try go_wp2)
                go_roundg k1
                case measure => have := HK1.out; omega
                case rel => exact ⟨(wrap64 (x5_1 + 1)), (by first | rfl | (simp; done) | (simp [*]; done)), H', ⟨by have := HK1.out; omega⟩, by repeat (first | exact Drawn0.refl _ | apply Drawn0.step)⟩
            · rw [if_neg c6] at H
              exact absurd H (by simp)
          · rw [if_neg c5] at H
            exact absurd H (by simp)
        · rw [if_neg c4] at H
          have c4b0 : decide (x5_1 < (l0.length : Int)) = false := decide_eq_false c4
          clear c4
          obtain rfl := Option.some.inj H
          go_wp2
          repeat (go_quiet (fail); try go_wp2)
          go_ret
          exact ⟨by first | rfl | (simp; done) | (simp [*]; done), by repeat (first | exact Drawn0.refl _ | apply Drawn0.step)⟩
  · rw [if_neg c3] at H
    have c3b0 : ((l0.length : Int) == (l1.length : Int)) = false := beq_eq_false_iff_ne.mpr c3
    have c3b1 : ((l0.length : Int) != (l1.length : Int)) = true := bne_iff_ne.mpr c3
    have c3b2 : (l0.length == l1.length) = false := by first | simpa using c3 | (simp at c3 ⊢; omega)
    obtain rfl := Option.some.inj H
    go_enter Try.func25, Try.ntmps25
    go_wp2
    repeat (go_quiet (fail); try go_wp2)
    go_ret
    exact ⟨by first | rfl | (simp; done) | (simp [*]; done), by repeat (first | exact Drawn0.refl _ | apply Drawn0.step)⟩

end Go.Proofs.Yteblpjnkinghoaa.J
namespace Go.Proofs.Yteblpjnkinghoaa.J
open Go.RowKit Go.Proofs.YteblpjnkinghoaaW.PrintWords Go.Proofs.YteblpjnkinghoaaW.PrintLast Go.Proofs.YteblpjnkinghoaaW.PrintMore
/-- A world behind w: what lay in w lies as it lay. -/
structure Past (w : World) where
  W : World
  h : Below w.heap.size w W
instance (w : World) : Inhabited (Past w) := ⟨⟨w, Below.refl _ _⟩⟩
instance (w : World) : Nonempty (Past w) := ⟨default⟩
theorem Past.cell {w : World} {a : Addr} {v : Value} (h : w.cell? a = some v) (p : Past w) : p.W.cell? a = some v := pw_cell_below p.h h
theorem Past.grown {w : World} (p : Past w) {W' : World} (h : Below p.W.heap.size p.W W') : Below w.heap.size w W' := below_step p.h h
/-- A region that draws its order, whose operations only read, whose callees may lay blocks of their own: walked once, in the order of the text. -/
theorem wp_region_past {P : Program} {id : Nat} {Q : Exit → Act → World → Prop} {a : Act} {w : World} {l : List Oper} (hm : P.follows .mixedOrders = true) (hB : Region.lexB .any l.toArray = true)
    (h : wpQuiet P l.toArray (fun w' => ∃ p : Past w, w' = p.W) (fun a' => ∀ w', (∃ p : Past w, w' = p.W) → Q .normal a' w') l a) : (Code.region id l.toArray true).wp P Q a w :=
  wp_region_quiet (C := fun w' => ∃ p : Past w, w' = p.W) hm hB ⟨⟨w.drew, below_drew (Below.refl _ _)⟩, rfl⟩ (by simpa using h)
theorem Calls.past_of {P : Program} {f : FuncId} {args : Array Value} {w : World} {p : Past w} {v : Value}
    (h : Calls P f args p.W fun e w' => e = .returned v ∧ Below p.W.heap.size p.W w') : Calls P f args p.W fun e w'' => e = .returned v ∧ ∃ q : Past w, w'' = q.W :=
  h.mono fun _ w' ⟨he, hb⟩ => ⟨he, ⟨w', p.grown hb⟩, rfl⟩
end Go.Proofs.Yteblpjnkinghoaa.J
/- The contract of journal.ordered, for every slice of images. -/
namespace Go.Proofs.Yteblpjnkinghoaa.J
open Go.BigFrame Go.RowKit Go.Proofs.YteblpjnkinghoaaW.PrintWords Go.Proofs.YteblpjnkinghoaaW.PrintLast Go.Proofs.YteblpjnkinghoaaW.PrintMore
theorem journal_image.some (a0 : ByteArray) (a1 : Bool) (a2 : ByteArray) : ∃ r, journal_image.f a0 a1 a2 = some r := by
  unfold journal_image.f
  repeat' (first | exact ⟨_, rfl⟩ | split)
def img (x : S41) : Bool := (journal_image.f x.f0 x.f1 x.f2).getD false
theorem img_calls (x : S41) (w : World) : Calls Try.prog 44 #[.agg #[.string x.f0, .bool x.f1, .string x.f2]] w fun e w' => e = .returned (.bool (img x)) ∧ Below w.heap.size w w' := by
  obtain ⟨r, h⟩ := journal_image.some x.f0 x.f1 x.f2
  have : img x = r := by unfold img; rw [h]; rfl
  rw [this]
  exact journal_image.calls _ _ _ r w h
/-- Whether the image at an index is right beside the one before it. -/
def goodAt (l : List S41) (k : Nat) : Bool := img (rd_T41 l k) && (rd_T41 l k).f1 && (decide (k = 0) || Op.bytesLess (rd_T41 l ((k : Int) - 1)).f0.toList (rd_T41 l k).f0.toList)
def journal_ordered.f (l0 : List (S41)) : Option (Bool) := some ((List.range l0.length).all (goodAt l0) && decide (l0.length ≤ 500))
theorem good_bad {l : List S41} {k : Nat} (hk : k < l.length) (h : goodAt l k = false) : ((List.range l.length).all (goodAt l) && decide (l.length ≤ 500)) = false := by
  have : (List.range l.length).all (goodAt l) = false := by
    rw [List.all_eq_false]
    exact ⟨k, List.mem_range.2 hk, by rw [h]; decide⟩
  rw [this]; rfl
theorem good_upto {l : List S41} {k : Nat} (h : (List.range k).all (goodAt l) = true) (hk : goodAt l k = true) : (List.range (k + 1)).all (goodAt l) = true := by
  rw [List.range_succ, List.all_append, h]; simp [hk]
/-- An image's cells, in every world behind. -/
theorem image_cells {w1 : World} {b : Nat} {v0 v1 v2 : Value} {t : TypeId} (hk : w1.heap[b]? = some (.cells #[v0, v1, v2] t)) :
    (∀ p : Past w1, p.W.cell? ⟨b, 0, none⟩ = some v0) ∧ (∀ p : Past w1, p.W.cell? ⟨b, 1, none⟩ = some v1) ∧ (∀ p : Past w1, p.W.cell? ⟨b, 2, none⟩ = some v2) :=
  ⟨Past.cell ((blk_cell hk 0).trans rfl), Past.cell ((blk_cell hk 1).trans rfl), Past.cell ((blk_cell hk 2).trans rfl)⟩
set_option maxHeartbeats 1000000 in
theorem journal_ordered.calls (A0 : Option Addr) (c0 : Nat) (l0 : List (S41)) (r : Bool) (w : World) (hr0 : Kd.C k41 w A0 l0.length l0) (hc0 : l0.length ≤ c0) (h : journal_ordered.f l0 = some r) :
    Calls Try.prog 36 #[.slice A0 l0.length c0] w fun e w' => e = .returned (.bool r) ∧ Below w.heap.size w w' := by
  have HR0 := Aside0.mk hr0
  have HF := Aside0.mk (Option.some.inj h)
  have hlm : l0.length ≤ 9223372036854775807 := Kd.C_max hr0
  clear hr0 hc0 h
  have hnot : ∀ (x : Bool) (w : World), (Op.unary .not (.bool x)).run Try.prog w = .ok (.bool (!x)) w := fun _ _ => rfl
  go_enter Try.func36, Try.ntmps36
  go_wp2
  go_loopg [7] (l0.length + 1) (fun kq v7 w' => ∃ k : Nat, k ≤ l0.length ∧ v7 = .int .i64 k ∧ Aside0 (kq + k = l0.length + 1) ∧ Aside0 ((List.range k).all (goodAt l0) = true) ∧ Aside0 (Below w.heap.size w w'))
  case atStart => exact ⟨0, Nat.zero_le _, rfl, ⟨by omega⟩, ⟨rfl⟩, ⟨Below.refl _ _⟩⟩
  case round =>
    obtain ⟨k, hk, rfl, HQ, HX, HB⟩ := hrel
    by_cases hlt : k < l0.length
    · obtain ⟨ad, rfl, h0, h1, h2⟩ := at_T41 (Kd.C_below HR0.out HB.out) (k : Int) (by omega) (by omega)
      rw [Int.toNat_natCast] at h0 h1 h2
      obtain ⟨x, hx⟩ : ∃ x, x = rd_T41 l0 (k : Int) := ⟨_, rfl⟩
      rw [← hx] at h0 h1 h2
      have HN := Aside0.mk (show goodAt l0 k = (img x && x.f1 && (decide (k = 0) || Op.bytesLess (rd_T41 l0 ((k : Int) - 1)).f0.toList x.f0.toList)) by rw [hx]; rfl)
      clear hx
      have HC := Aside0.mk (fun w => img_calls x w)
      go_wp2
      have hb := below_step HB.out ((Below.refl wr.heap.size wr).alloc (Nat.le_refl _) (.cells #[.string x.f0, .bool x.f1, .string x.f2] 41))
      have hk1 : (wr.alloc (.cells #[.string x.f0, .bool x.f1, .string x.f2] 41)).heap[wr.heap.size]? = some (.cells #[.string x.f0, .bool x.f1, .string x.f2] 41) := heap_alloc_new wr _
      generalize (wr.alloc (.cells #[.string x.f0, .bool x.f1, .string x.f2] 41)) = w1 at hb hk1 ⊢
      clear HB
      have HB := Aside0.mk hb
      clear hb
      obtain ⟨q0, q1, q2⟩ := image_cells hk1
      clear hk1 h0 h1 h2
      cases hi : img x
      · -- no image
        rw [hi] at HC
        have HG := Aside0.mk (show goodAt l0 k = false by rw [HN.out, hi]; rfl)
        clear hi HN
        refine wp_region_past (by kernel_rfl) (by kernel_rfl) ?_
        repeat (go_big_quiet_step (first | (go_at_call 44; exact Calls.past_of (HC.out _))))
        refine wpQuiet_nil ?_
        rintro _ ⟨p, rfl⟩
        go_wp2
        go_ret
        exact ⟨by rw [← HF.out, good_bad hlt HG.out]; rfl, below_step HB.out p.h⟩
      rw [hi] at HC
      cases hf : x.f1
      · -- nothing there
        have HG := Aside0.mk (show goodAt l0 k = false by rw [HN.out, hi, hf]; rfl)
        rw [hf] at q1 HC
        clear hi HN hf
        refine wp_region_past (by kernel_rfl) (by kernel_rfl) ?_
        repeat (go_big_quiet_step (first | (go_at_call 44; exact Calls.past_of (HC.out _))))
        refine wpQuiet_nil ?_
        rintro _ ⟨p, rfl⟩
        go_wp2
        go_ret
        exact ⟨by rw [← HF.out, good_bad hlt HG.out]; rfl, below_step HB.out p.h⟩
      rw [hf] at q1 HC
      by_cases hk0 : k = 0
      · subst hk0
        have HG := Aside0.mk (show goodAt l0 0 = true by rw [HN.out, hi, hf]; rfl)
        clear hi HN hf
        refine wp_region_past (by kernel_rfl) (by kernel_rfl) ?_
        repeat (go_big_quiet_step (first | (go_at_call 44; exact Calls.past_of (HC.out _))))
        refine wpQuiet_nil ?_
        rintro _ ⟨p, rfl⟩
        go_wp2
        go_roundg (gk - 1)
        case measure => have := HQ.out; omega
        case rel => exact ⟨1, by omega, by go_num, ⟨by have := HQ.out; omega⟩, ⟨good_upto HX.out HG.out⟩, ⟨below_step HB.out p.h⟩⟩
      obtain ⟨j, rfl⟩ : ∃ j, k = j + 1 := ⟨k - 1, by omega⟩
      obtain ⟨ad', e', g0, g1, g2⟩ := at_T41 (Kd.C_below HR0.out HB.out) (j : Int) (by omega) (by omega)
      cases e'
      rw [Int.toNat_natCast] at g0 g1 g2
      clear g1 g2
      have g := Past.cell g0
      clear g0
      have ej : ((j + 1 : Nat) : Int) - 1 = j := by omega
      rw [ej] at HN
      cases hlss : Op.bytesLess (rd_T41 l0 (j : Int)).f0.toList x.f0.toList
      · have HG := Aside0.mk (show goodAt l0 (j + 1) = false by rw [HN.out, hi, hf, hlss]; rfl)
        clear hi HN hf ej
        refine wp_region_past (by kernel_rfl) (by kernel_rfl) ?_
        repeat (go_big_quiet_step (first | (go_at_call 44; exact Calls.past_of (HC.out _))))
        refine wpQuiet_nil ?_
        rintro _ ⟨p, rfl⟩
        go_wp2
        go_ret
        exact ⟨by rw [← HF.out, good_bad hlt HG.out]; rfl, below_step HB.out p.h⟩
      · have HG := Aside0.mk (show goodAt l0 (j + 1) = true by rw [HN.out, hi, hf, hlss]; simp)
        clear hi HN hf ej
        refine wp_region_past (by kernel_rfl) (by kernel_rfl) ?_
        repeat (go_big_quiet_step (first | (go_at_call 44; exact Calls.past_of (HC.out _))))
        refine wpQuiet_nil ?_
        rintro _ ⟨p, rfl⟩
        go_wp2
        go_roundg (gk - 1)
        case measure => have := HQ.out; omega
        case rel => exact ⟨j + 1 + 1, by omega, by go_num, ⟨by have := HQ.out; omega⟩, ⟨good_upto HX.out HG.out⟩, ⟨below_step HB.out p.h⟩⟩
    · have hke : k = l0.length := by omega
      subst hke
      go_wp2
      go_ret
      exact ⟨by rw [← HF.out, HX.out]; simp; omega, HB.out⟩
end Go.Proofs.Yteblpjnkinghoaa.J
/- The contract of the reference's state, for every slice of images. -/
namespace Go.Proofs.Yteblpjnkinghoaa.J
open Go.BigFrame Go.RowKit Go.Proofs.YteblpjnkinghoaaW.PrintWords Go.Proofs.YteblpjnkinghoaaW.PrintLast Go.Proofs.YteblpjnkinghoaaW.PrintMore
theorem drop_rd41 {l0 : List S41} {k : Nat} (h : k < l0.length) : l0.drop k = rd_T41 l0 (k : Int) :: l0.drop (k + 1) := by
  have : rd_T41 l0 (k : Int) = l0[k] := by unfold rd_T41; rw [Int.toNat_natCast, List.getD_eq_getElem?_getD, List.getElem?_eq_getElem h]; rfl
  rw [this]
  exact List.drop_eq_getElem_cons h
end Go.Proofs.Yteblpjnkinghoaa.J
/- Maps that a call makes and writes, as functions of their keys (whole numbers or strings): what a block that is a map holds, what a look-up, a store and a delete do to it. Over any program. -/
namespace Go.Proofs.YteblpjnkinghoaaW.Mw
open Go.RowKit Go.Proofs.YteblpjnkinghoaaW.PrintWords
/-- A kind of keys: how a key stands as a value. -/
structure Keys (P : Program) (t : TypeId) (κ : Type) [DecidableEq κ] where
  kind : TypeDesc
  enc : κ → Value
  here : P.underlying t = some kind
  now : ∀ a b, Instr.sameNow kind (enc a) (enc b) = some (decide (a = b))
  chk : ∀ e k w, (Instr.checkKey e 10000 t (enc k)).run P w = .ok () w
  bits : ∀ k, Instr.sameBits 10000 (enc k) (enc k) = true
theorem beq_bytes (a b : ByteArray) : (a == b) = decide (a = b) := by
  cases a with | mk a => cases b with | mk b =>
  show ByteArray.beq ⟨a⟩ ⟨b⟩ = _
  rw [Bool.eq_iff_iff]
  simp [ByteArray.beq]
theorem chk_int {P : Program} {t : TypeId} (h : P.underlying t = some (.int .i64)) (e : Bool) (k : Int) (w : World) (n : Nat) : (Instr.checkKey e (n + 1) t (.int .i64 k)).run P w = .ok () w := by
  unfold Instr.checkKey
  simp [run_underlying h]
theorem chk_str {P : Program} {t : TypeId} (h : P.underlying t = some .string) (e : Bool) (k : ByteArray) (w : World) (n : Nat) : (Instr.checkKey e (n + 1) t (.string k)).run P w = .ok () w := by
  unfold Instr.checkKey
  simp [run_underlying h]
def intKeys (P : Program) (t : TypeId) (h : P.underlying t = some (.int .i64)) : Keys P t Int where
  kind := .int .i64
  enc := .int .i64
  here := h
  now a b := by simp only [Instr.sameNow, if_true]; congr 1
  chk e k w := chk_int h e k w 9999
  bits k := by simp [Instr.sameBits]
def strKeys (P : Program) (t : TypeId) (h : P.underlying t = some .string) : Keys P t ByteArray where
  kind := .string
  enc := .string
  here := h
  now a b := by simp only [Instr.sameNow]; rw [beq_bytes]
  chk e k w := chk_str h e k w 9999
  bits k := by simp [Instr.sameBits, beq_bytes]
theorem key_inj {κ : Type} {l : List (κ × Value × Nat)} (hn : (l.map (·.1)).Nodup) {x y : κ × Value × Nat} (hx : x ∈ l) (hy : y ∈ l) (e : x.1 = y.1) : x = y := by
  induction l with
  | nil => cases hx
  | cons z l ih =>
    have hn' := List.nodup_cons.1 hn
    rcases List.mem_cons.1 hx with hx | hx <;> rcases List.mem_cons.1 hy with hy | hy
    · rw [hx, hy]
    · rw [hx] at e; exact absurd (List.mem_map.2 ⟨y, hy, e.symm⟩ : z.1 ∈ l.map (·.1)) hn'.1
    · rw [hy] at e; exact absurd (List.mem_map.2 ⟨x, hx, e⟩ : z.1 ∈ l.map (·.1)) hn'.1
    · exact ih hn'.2 hx hy
theorem stamp_inj {κ : Type} {l : List (κ × Value × Nat)} (hn : (l.map (·.2.2)).Nodup) {x y : κ × Value × Nat} (hx : x ∈ l) (hy : y ∈ l) (e : x.2.2 = y.2.2) : x = y := by
  induction l with
  | nil => cases hx
  | cons z l ih =>
    have hn' := List.nodup_cons.1 hn
    rcases List.mem_cons.1 hx with hx | hx <;> rcases List.mem_cons.1 hy with hy | hy
    · rw [hx, hy]
    · rw [hx] at e; exact absurd (List.mem_map.2 ⟨y, hy, e.symm⟩ : z.2.2 ∈ l.map (·.2.2)) hn'.1
    · rw [hy] at e; exact absurd (List.mem_map.2 ⟨x, hx, e⟩ : z.2.2 ∈ l.map (·.2.2)) hn'.1
    · exact ih hn'.2 hx hy
section
variable {P : Program} {t : TypeId} {κ : Type} [DecidableEq κ] (K : Keys P t κ)
abbrev Ent (κ : Type) := κ × Value × Nat
def ent (K : Keys P t κ) (x : Ent κ) : MapEntry := { key := K.enc x.1, val := x.2.1, born := x.2.2 }
def fnd (k : κ) : List (Ent κ) → Nat → Option (Nat × Value)
  | [], _ => none
  | x :: l, i => if x.1 = k then some (i, x.2.1) else fnd k l (i + 1)
def val (k : κ) (l : List (Ent κ)) : Option Value := (fnd k l 0).map (·.2)
theorem fnd_shift (k : κ) : ∀ (l : List (Ent κ)) (i : Nat), fnd k l i = (fnd k l 0).map fun p => (p.1 + i, p.2)
  | [], _ => rfl
  | x :: l, i => by
    unfold fnd
    split
    · simp
    · rw [fnd_shift k l (i + 1), fnd_shift k l (0 + 1)]
      cases fnd k l 0 <;> simp
      omega
theorem findNow_fnd (k : κ) : ∀ (l : List (Ent κ)) (i : Nat), Instr.findNow K.kind (K.enc k) (l.map (ent K)) i = some (fnd k l i)
  | [], _ => rfl
  | x :: l, i => by
    simp only [List.map_cons, Instr.findNow, fnd]
    rw [show (ent K x).key = K.enc x.1 from rfl, K.now]
    by_cases h : k = x.1
    · rw [decide_eq_true h, if_pos h.symm]; rfl
    · rw [decide_eq_false h, if_neg (Ne.symm h)]; exact findNow_fnd k l (i + 1)
theorem findKey_run (k : κ) (l : List (Ent κ)) (w : World) : (Instr.findKey t (K.enc k) (l.map (ent K))).run P w = .ok (fnd k l 0) w := by
  simp only [Instr.findKey]
  simp [run_underlying K.here, findNow_fnd K]
/-- What a block that is a map holds: to each key its element. -/
def Holds (w : World) (b : Nat) (F : κ → Option Value) : Prop := ∃ (l : List (Ent κ)) (c : Nat), w.heap[b]? = some (.map (l.map (ent K)).toArray c) ∧ (l.map (·.1)).Nodup ∧ (l.map (·.2.2)).Nodup ∧ (∀ x ∈ l, x.2.2 < c) ∧ ∀ k, val k l = F k
variable {K}
theorem Holds.lt {w : World} {b : Nat} {F : κ → Option Value} (h : Holds K w b F) : b < w.heap.size := by
  obtain ⟨l, c, hb, _⟩ := h
  exact (Array.getElem?_eq_some_iff.1 hb).1
theorem Holds.move {w w' : World} {b : Nat} {F : κ → Option Value} (h : Holds K w b F) (hm : w'.heap[b]? = w.heap[b]?) : Holds K w' b F := by
  obtain ⟨l, c, hb, r⟩ := h
  exact ⟨l, c, hm.trans hb, r⟩
theorem Holds.below {w w' : World} {b : Nat} {F : κ → Option Value} (h : Holds K w b F) (hb : Below w.heap.size w w') : Holds K w' b F := h.move (hb.block b h.lt)
theorem Holds.alloc {w : World} {b : Nat} {F : κ → Option Value} (h : Holds K w b F) (o : Obj) : Holds K (w.alloc o) b F := h.below ((Below.refl _ _).alloc (Nat.le_refl _) o)
theorem Holds.drewN {w : World} {b : Nat} {F : κ → Option Value} (h : Holds K w b F) (n : Nat) : Holds K (w.drewN n) b F := h
theorem Holds.drew {w : World} {b : Nat} {F : κ → Option Value} (h : Holds K w b F) : Holds K w.drew b F := h
theorem Holds.grown {w w' : World} {b : Nat} {F : κ → Option Value} {row : Option Nat} (h : Holds K w b F) (hg : w.grownBy w' row) (hne : some b ≠ row) : Holds K w' b F := h.move (hg.block b h.lt hne)
theorem Holds.set {w : World} {b : Nat} {F : κ → Option Value} {p : Addr} (h : Holds K w b F) (hne : b ≠ p.block) (u : Value) : Holds K (w.setCell p u) b F := h.move (Below.heap_setCell w p u b hne)
variable (K)
theorem Holds.made (w : World) : Holds K (w.alloc (.map #[] 0)) w.heap.size (fun _ => none) :=
  ⟨[], 0, by simpa using heap_alloc_new w (.map #[] 0), List.nodup_nil, List.nodup_nil, by simp, fun _ => rfl⟩
variable {K}
theorem Holds.congr {w : World} {b : Nat} {F G : κ → Option Value} (h : Holds K w b F) (e : ∀ k, F k = G k) : Holds K w b G := by
  obtain ⟨l, c, hb, hn, hs, hc, hv⟩ := h
  exact ⟨l, c, hb, hn, hs, hc, fun k => (hv k).trans (e k)⟩
/-- 'm[k]', 'v, ok := m[k]'. -/
theorem Holds.look {w : World} {b : Nat} {F : κ → Option Value} (h : Holds K w b F) {mt e : TypeId} (hm : P.underlying mt = some (.map t e)) {z : Value} (hz : ∀ w, (zeroValue e).run P w = .ok z w) (k : κ) :
    (Instr.lookup mt (.map (some b)) (K.enc k) false).run P w = .ok ((F k).getD z) w ∧
    (Instr.lookup mt (.map (some b)) (K.enc k) true).run P w = .ok (.tuple #[(F k).getD z, .bool (F k).isSome]) w := by
  obtain ⟨l, c, hb, hn, _, _, hv⟩ := h
  have hF := hv k
  unfold val at hF
  constructor
  all_goals
    simp only [Instr.lookup]
    cases hf : fnd k l 0 with
    | none =>
      rw [hf] at hF
      rw [← hF]
      simp [run_underlying hm, getObj, hb, Sem.run, K.chk, findKey_run K, hf, hz]
    | some p =>
      rw [hf] at hF
      rw [← hF]
      simp [run_underlying hm, getObj, hb, Sem.run, K.chk, findKey_run K, hf]
theorem fnd_none {k : κ} : ∀ {l : List (Ent κ)} {i : Nat}, fnd k l i = none → k ∉ l.map (·.1)
  | [], _, _ => by simp
  | x :: l, i, h => by
    unfold fnd at h
    split at h
    · cases h
    · rename_i hne
      simp only [List.map_cons, List.mem_cons, not_or]
      exact ⟨fun e => hne e.symm, fnd_none h⟩
theorem fnd_of_not_mem {k : κ} : ∀ {l : List (Ent κ)} {i : Nat}, k ∉ l.map (·.1) → fnd k l i = none
  | [], _, _ => rfl
  | x :: l, i, h => by
    simp only [List.map_cons, List.mem_cons, not_or] at h
    unfold fnd
    rw [if_neg (fun e => h.1 e.symm)]
    exact fnd_of_not_mem h.2
theorem fnd_some {k : κ} : ∀ {l : List (Ent κ)} {p : Nat × Value}, fnd k l 0 = some p → ∃ a x b, l = a ++ x :: b ∧ x.1 = k ∧ p = (a.length, x.2.1) ∧ k ∉ a.map (·.1)
  | [], _, h => by cases h
  | x :: l, p, h => by
    unfold fnd at h
    split at h
    · rename_i e
      cases h
      exact ⟨[], x, l, rfl, e, rfl, by simp⟩
    · rename_i hne
      rw [fnd_shift] at h
      obtain ⟨q, hq, rfl⟩ := Option.map_eq_some_iff.1 h
      obtain ⟨a, y, b, rfl, hy, rfl, hn⟩ := fnd_some hq
      refine ⟨x :: a, y, b, rfl, hy, rfl, ?_⟩
      simp only [List.map_cons, List.mem_cons, not_or]
      exact ⟨fun e => hne e.symm, hn⟩
theorem val_append {k : κ} {a b : List (Ent κ)} : val k (a ++ b) = (val k a).or (val k b) := by
  induction a with
  | nil => simp [val, fnd]
  | cons x a ih =>
    unfold val at *
    simp only [List.cons_append, fnd]
    by_cases h : x.1 = k
    · rw [if_pos h, if_pos h]; rfl
    · rw [if_neg h, if_neg h, fnd_shift, fnd_shift k a]
      cases h1 : fnd k (a ++ b) 0 <;> cases h2 : fnd k a 0 <;> rw [h1, h2] at ih <;> simp_all
theorem val_cons {k : κ} {x : Ent κ} {l : List (Ent κ)} : val k (x :: l) = if x.1 = k then some x.2.1 else val k l := by
  unfold val
  simp only [fnd]
  by_cases h : x.1 = k
  · rw [if_pos h, if_pos h]; rfl
  · rw [if_neg h, if_neg h, fnd_shift]; cases fnd k l 0 <;> rfl
theorem val_not_mem {k : κ} {l : List (Ent κ)} (h : k ∉ l.map (·.1)) : val k l = none := by unfold val; rw [fnd_of_not_mem h]; rfl
theorem modify_mid {α : Type} (f : α → α) (x : α) (d : List α) : ∀ a : List α, (a ++ x :: d).modify a.length f = a ++ f x :: d
  | [] => rfl
  | y :: a => by simpa using modify_mid f x d a
theorem at_ent {l a d : List (Ent κ)} {x : Ent κ} (hl : l = a ++ x :: d) : (l.map (ent K))[a.length]? = some (ent K x) := by subst hl; simp
/-- 'm[k] = v': some world in which the block holds so; nothing else has turned. -/
theorem Holds.put {w : World} {b : Nat} {F : κ → Option Value} (h : Holds K w b F) {mt e : TypeId} (hm : P.underlying mt = some (.map t e)) (k : κ) (v : Value) :
    ∃ w', (Instr.mapUpdate mt (.map (some b)) (K.enc k) v).run P w = .ok () w' ∧ Holds K w' b (fun q => if q = k then some v else F q) ∧ w.grownBy w' (some b) := by
  obtain ⟨l, c, hb, hn, hs, hc, hv⟩ := h
  have hgr : ∀ o, w.grownBy { w with heap := w.heap.setIfInBounds b o } (some b) := fun o => ⟨rfl, rfl, rfl, by simp, fun i hi hne => by
    rw [Array.getElem?_setIfInBounds_ne (fun e => hne (by rw [e]))]⟩
  have hlt := (Array.getElem?_eq_some_iff.1 hb).1
  cases hf : fnd k l 0 with
  | none =>
    have hk := fnd_none hf
    refine ⟨_, by
      simp only [Instr.mapUpdate]
      simp [run_underlying hm, getObj, setObj, hb, Sem.run, K.chk, findKey_run K, hf]
      rfl, ⟨l ++ [(k, v, c)], c + 1, by simp [hlt, ent], ?_, ?_, ?_, fun q => ?_⟩, hgr _⟩
    · rw [List.map_append, List.nodup_append]
      exact ⟨hn, by simp, fun a ha b hb e => by simp at hb; subst hb; subst e; exact hk ha⟩
    · rw [List.map_append, List.nodup_append]
      exact ⟨hs, by simp, fun a ha b hb e => by
        simp at hb; subst hb; subst e
        obtain ⟨x, hx, he⟩ := List.mem_map.1 ha
        have := hc x hx
        omega⟩
    · intro x hx
      rcases List.mem_append.1 hx with hx | hx
      · have := hc x hx; omega
      · simp at hx; subst hx; show c < c + 1; omega
    · show _ = if q = k then some v else F q
      rw [val_append, val_cons]
      by_cases hq : q = k
      · subst hq
        rw [val_not_mem hk]
        simp
      · rw [if_neg (fun e => hq e.symm), if_neg hq, ← hv]
        simp [val, fnd]
  | some p =>
    obtain ⟨a, x, d, hl, hx, rfl, ha⟩ := fnd_some hf
    have hat := at_ent (K := K) hl
    have hkey : (ent K x).key = K.enc k := by rw [← hx]; rfl
    refine ⟨_, by
      simp only [Instr.mapUpdate]
      simp [run_underlying hm, getObj, setObj, hb, Sem.run, K.chk, findKey_run K, hf, Instr.keyThatStays, -List.getElem?_map, hat, hkey, K.bits]
      rfl, ⟨a ++ (x.1, v, x.2.2) :: d, c, ?_, ?_, ?_, ?_, fun q => ?_⟩, hgr _⟩
    · simp only [Array.getElem?_setIfInBounds_self, hlt, if_true]
      congr 2
      subst hl
      have e : a.length = (a.map (ent K)).length := by simp
      simp only [List.map_append, List.map_cons, List.modify_toArray]
      rw [e, modify_mid]
      simp [ent, hx]
    · subst hl
      simpa [List.map_append] using hn
    · subst hl
      simpa [List.map_append] using hs
    · subst hl
      intro y hy
      rcases List.mem_append.1 hy with hy | hy
      · exact hc y (List.mem_append_left _ hy)
      · rcases List.mem_cons.1 hy with rfl | hy
        · exact hc x (by simp)
        · exact hc y (by simp [hy])
    · show _ = if q = k then some v else F q
      rw [← hv, hl, val_append, val_append, val_cons, val_cons]
      by_cases hq : q = k
      · subst hq
        rw [if_pos hx, val_not_mem ha]
        simp
      · rw [if_neg hq, if_neg (fun e => hq (e.symm.trans hx)), if_neg (fun e => hq (e.symm.trans hx))]
/-- 'delete(m, k)'. -/
theorem Holds.drop {w : World} {b : Nat} {F : κ → Option Value} (h : Holds K w b F) {mt e ft kt2 : TypeId} (hm : P.underlying mt = some (.map t e)) (k : κ) :
    ∃ w', (Builtin.delete_ #[mt, kt2] ft #[.map (some b), K.enc k]).run P w = .ok (.tuple #[]) w' ∧ Holds K w' b (fun q => if q = k then none else F q) ∧ w.grownBy w' (some b) := by
  obtain ⟨l, c, hb, hn, hs, hc, hv⟩ := h
  have hgr : ∀ o, w.grownBy { w with heap := w.heap.setIfInBounds b o } (some b) := fun o => ⟨rfl, rfl, rfl, by simp, fun i hi hne => by
    rw [Array.getElem?_setIfInBounds_ne (fun e => hne (by rw [e]))]⟩
  have hlt := (Array.getElem?_eq_some_iff.1 hb).1
  cases hf : fnd k l 0 with
  | none =>
    have hk := fnd_none hf
    refine ⟨_, by
      simp only [Builtin.delete_]
      simp [run_underlying hm, getObj, setObj, hb, Sem.run, K.chk, findKey_run K, hf]
      rfl, ⟨l, c, by simp [hlt], hn, hs, hc, fun q => ?_⟩, hgr _⟩
    show _ = if q = k then none else F q
    by_cases hq : q = k
    · subst hq; rw [if_pos rfl, val_not_mem hk]
    · rw [if_neg hq, hv]
  | some p =>
    obtain ⟨a, x, d, hl, hx, rfl, ha⟩ := fnd_some hf
    refine ⟨_, by
      simp only [Builtin.delete_]
      simp [run_underlying hm, getObj, setObj, hb, Sem.run, K.chk, findKey_run K, hf]
      rfl, ⟨a ++ d, c, ?_, ?_, ?_, ?_, fun q => ?_⟩, hgr _⟩
    · simp only [Array.getElem?_setIfInBounds_self, hlt, if_true]
      congr 2
      subst hl
      simp [List.eraseIdx_append_of_length_le]
    · subst hl
      rw [List.map_append, List.map_cons, List.nodup_append] at hn
      rw [List.map_append, List.nodup_append]
      exact ⟨hn.1, (List.nodup_cons.1 hn.2.1).2, fun y hy z hz => hn.2.2 y hy z (List.mem_cons_of_mem _ hz)⟩
    · subst hl
      rw [List.map_append, List.map_cons, List.nodup_append] at hs
      rw [List.map_append, List.nodup_append]
      exact ⟨hs.1, (List.nodup_cons.1 hs.2.1).2, fun y hy z hz => hs.2.2 y hy z (List.mem_cons_of_mem _ hz)⟩
    · subst hl
      intro y hy
      rcases List.mem_append.1 hy with hy | hy
      · exact hc y (by simp [hy])
      · exact hc y (by simp [hy])
    · have hd : k ∉ d.map (·.1) := by
        subst hl
        rw [List.map_append, List.map_cons, List.nodup_append] at hn
        exact fun h => (List.nodup_cons.1 hn.2.1).1 (hx ▸ h)
      show _ = if q = k then none else F q
      by_cases hq : q = k
      · subst hq
        rw [if_pos rfl, val_append, val_not_mem ha, val_not_mem hd]; rfl
      · rw [if_neg hq, ← hv, hl, val_append, val_append, val_cons, if_neg (fun e => hq (e.symm.trans hx))]
/-! ### 'for k := range m' over a map that the loop does not write -/
variable (K)
/-- Block r is an iterator over the map in block b: which keys are still to come, and how many. -/
def Ranging (w : World) (r b : Nat) (F : κ → Option Value) (left : κ → Bool) (n : Nat) : Prop :=
  r ≠ b ∧ ∃ (l : List (Ent κ)) (c : Nat) (seen : Array Nat), w.heap[b]? = some (.map (l.map (ent K)).toArray c) ∧ (l.map (·.1)).Nodup ∧ (l.map (·.2.2)).Nodup ∧ (∀ x ∈ l, x.2.2 < c) ∧ (∀ k, val k l = F k) ∧
    w.heap[r]? = some (.mapIter (some b) c seen c) ∧ (leftOf (l.map (ent K)).toArray seen).size = n ∧ (∀ x ∈ l, left x.1 = !seen.contains x.2.2) ∧ (∀ k, left k = true → k ∈ l.map (·.1))
theorem val_mem {l : List (Ent κ)} (hn : (l.map (·.1)).Nodup) {x : Ent κ} (hx : x ∈ l) : val x.1 l = some x.2.1 := by
  induction l with
  | nil => cases hx
  | cons y l ih =>
    rw [val_cons]
    have hn' := List.nodup_cons.1 hn
    rcases List.mem_cons.1 hx with rfl | hx
    · rw [if_pos rfl]
    · rw [if_neg (fun e => hn'.1 (List.mem_map.2 ⟨x, hx, e.symm⟩))]
      exact ih hn'.2 hx
theorem val_some_mem {l : List (Ent κ)} {k : κ} (h : (val k l).isSome = true) : k ∈ l.map (·.1) := by
  by_cases hk : k ∈ l.map (·.1)
  · exact hk
  · rw [val_not_mem hk] at h; cases h
theorem ent_born (l : List (Ent κ)) : ((l.map (ent K)).map (·.born)) = l.map (·.2.2) := by rw [List.map_map]; rfl
variable {K}
theorem Ranging.holds {w : World} {r b n : Nat} {F : κ → Option Value} {left : κ → Bool} (h : Ranging K w r b F left n) : Holds K w b F := by
  obtain ⟨_, l, c, _, hb, hn, hs, hc, hv, _⟩ := h
  exact ⟨l, c, hb, hn, hs, hc, hv⟩
theorem Ranging.move {w w' : World} {r b n : Nat} {F : κ → Option Value} {left : κ → Bool} (h : Ranging K w r b F left n) (hb' : w'.heap[b]? = w.heap[b]?) (hr' : w'.heap[r]? = w.heap[r]?) : Ranging K w' r b F left n := by
  obtain ⟨hne, l, c, seen, hb, hn, hs, hc, hv, hr, rest⟩ := h
  exact ⟨hne, l, c, seen, hb'.trans hb, hn, hs, hc, hv, hr'.trans hr, rest⟩
theorem Ranging.lt {w : World} {r b n : Nat} {F : κ → Option Value} {left : κ → Bool} (h : Ranging K w r b F left n) : r < w.heap.size := by
  obtain ⟨_, l, c, seen, hb, hn, hs, hc, hv, hr, rest⟩ := h
  exact (Array.getElem?_eq_some_iff.1 hr).1
theorem Ranging.grown {w w' : World} {r b n : Nat} {F : κ → Option Value} {left : κ → Bool} {row : Option Nat} (h : Ranging K w r b F left n) (hg : w.grownBy w' row) (hb : some b ≠ row) (hr : some r ≠ row) : Ranging K w' r b F left n :=
  h.move (hg.block b h.holds.lt hb) (hg.block r h.lt hr)
theorem Holds.range {w : World} {b : Nat} {F : κ → Option Value} (h : Holds K w b F) {mt e : TypeId} (hm : P.underlying mt = some (.map t e)) :
    ∃ n, (Instr.range mt (.map (some b))).run P w = .ok (.pointer (some ⟨w.heap.size, 0, none⟩)) (w.alloc (.mapIter (some b) (((w.heap[b]?).map fun o => match o with | .map _ c => c | _ => 0).getD 0) #[] (((w.heap[b]?).map fun o => match o with | .map _ c => c | _ => 0).getD 0))) ∧
      Ranging K (w.alloc (.mapIter (some b) (((w.heap[b]?).map fun o => match o with | .map _ c => c | _ => 0).getD 0) #[] (((w.heap[b]?).map fun o => match o with | .map _ c => c | _ => 0).getD 0))) w.heap.size b F (fun k => (F k).isSome) n := by
  have hlt := h.lt
  obtain ⟨l, c, hb, hn, hs, hc, hv⟩ := h
  rw [hb]
  refine ⟨_, run_range_map w mt t e b _ c hm hb, by omega, l, c, #[], ?_, hn, hs, hc, hv, heap_alloc_new _ _, rfl, fun x hx => ?_, fun k hk => ?_⟩
  · rw [heap_alloc_old _ _ hlt, hb]
  · show (F x.1).isSome = _; rw [← hv, val_mem hn hx]; simp
  · change (F k).isSome = true at hk; rw [← hv] at hk; exact val_some_mem hk
theorem Ranging.next {w : World} {r b n : Nat} {F : κ → Option Value} {left : κ → Bool} (h : Ranging K w r b F left n) (ty : TypeId) :
    ((∀ k, left k = false) ∧ (Instr.next (.pointer (some ⟨r, 0, none⟩)) false ty).run P w = .ok (.tuple #[.bool false]) w) ∨
    ∃ (k : κ) (v : Value) (m : Nat) (w' : World), n = m + 1 ∧ left k = true ∧ F k = some v ∧ (Instr.next (.pointer (some ⟨r, 0, none⟩)) false ty).run P w = .ok (.tuple #[.bool true, K.enc k, v]) w' ∧
      (Instr.entry (.pointer (some ⟨r, 0, none⟩))).run P w' = .ok (.tuple #[K.enc k, v]) w' ∧ Ranging K w' r b F (fun q => left q && !decide (q = k)) m ∧ w.grownBy w' (some r) := by
  have hrlt := h.lt
  obtain ⟨hne, l, c, seen, hb, hn, hs, hc, hv, hr, hsz, hl, hk⟩ := h
  have hold : ∀ x ∈ (l.map (ent K)).toArray.toList, x.born < c := fun x hx => by
    obtain ⟨y, hy, rfl⟩ := List.mem_map.1 (show x ∈ l.map (ent K) from hx)
    exact hc y hy
  rcases run_next_at (P := P) w ty r b c c seen _ c hr hb hold (Nat.le_refl _) with ⟨h0, hrun⟩ | ⟨e, he, w1, hw1, hrun⟩
  · refine .inl ⟨fun k => ?_, hrun⟩
    cases hkk : left k with
    | false => rfl
    | true =>
      obtain ⟨x, hx, rfl⟩ := List.mem_map.1 (hk k hkk)
      have := all_seen _ _ h0 (ent K x) (show ent K x ∈ l.map (ent K) from List.mem_map.2 ⟨x, hx, rfl⟩)
      rw [hl x hx] at hkk
      rw [show seen.contains x.2.2 = true from this] at hkk
      cases hkk
  · right
    obtain ⟨hm, hns⟩ := mem_left he
    obtain ⟨x, hx, rfl⟩ := List.mem_map.1 (show e ∈ l.map (ent K) from hm)
    have hns' : seen.contains x.2.2 = false := hns
    have hlt := left_shrinks _ _ _ he
    have hsh : (leftOf (l.map (ent K)).toArray (seen.push x.2.2)).size + 1 = (leftOf (l.map (ent K)).toArray seen).size := by
      have hu : ∀ (q : List (Ent κ)), (q.map (·.2.2)).Nodup → x ∈ q → ((q.map (ent K)).filter fun e => !(seen.push x.2.2).contains e.born).length + 1 = ((q.map (ent K)).filter fun e => !seen.contains e.born).length := by
        intro q
        induction q with
        | nil => intro _ h; cases h
        | cons y q ih =>
          intro hnd hxq
          have hnd' := List.nodup_cons.1 hnd
          rcases List.mem_cons.1 hxq with rfl | hxq
          · have hrest : ((q.map (ent K)).filter fun e => !(seen.push x.2.2).contains e.born) = (q.map (ent K)).filter fun e => !seen.contains e.born := by
              apply List.filter_congr
              intro e he
              obtain ⟨z, hz, rfl⟩ := List.mem_map.1 he
              rw [contains_push]
              have : ((ent K z).born == x.2.2) = false := beq_eq_false_iff_ne.2 (fun e => hnd'.1 (List.mem_map.2 ⟨z, hz, e⟩))
              rw [this, Bool.or_false]
            rw [List.map_cons, List.filter_cons, List.filter_cons, hrest, contains_push]
            rw [show ((ent K x).born == x.2.2) = true from beq_self_eq_true _, show seen.contains (ent K x).born = false from hns']
            simp
          · have hne : ((ent K y).born == x.2.2) = false := beq_eq_false_iff_ne.2 (fun e => hnd'.1 (List.mem_map.2 ⟨x, hxq, e.symm⟩))
            have := ih hnd'.2 hxq
            rw [List.map_cons, List.filter_cons, List.filter_cons, contains_push, hne, Bool.or_false]
            split
            · simp only [List.length_cons]; omega
            · exact this
      have := hu l hs hx
      simpa [leftOf] using this
    have hb1 : w1.heap[b]? = w.heap[b]? := by rcases hw1 with rfl | rfl <;> rfl
    have hr1 : r < w1.heap.size := by rcases hw1 with rfl | rfl <;> exact hrlt
    have hbs : ∀ o, (ChangeMaps.setBlock w1 r o).heap[b]? = w.heap[b]? := fun o => by
      rw [← hb1]; exact Array.getElem?_setIfInBounds_ne hne
    have hrs : ∀ o, (ChangeMaps.setBlock w1 r o).heap[r]? = some o := fun o => by
      show (w1.heap.setIfInBounds r o)[r]? = _
      rw [Array.getElem?_setIfInBounds_self, if_pos hr1]
    refine ⟨x.1, x.2.1, (leftOf (l.map (ent K)).toArray (seen.push x.2.2)).size, _, by rw [hsh, hsz], by rw [hl x hx, hns']; rfl, by rw [← hv, val_mem hn hx], hrun, ?_, ?_, ?_⟩
    · exact run_entry_at _ r b c seen _ c (ent K x) (hrs _) ((hbs _).trans hb) (show ent K x ∈ l.map (ent K) from List.mem_map.2 ⟨x, hx, rfl⟩) (show ((l.map (ent K)).map (·.born)).Nodup by rw [ent_born]; exact hs)
    · refine ⟨hne, l, c, seen.push x.2.2, (hbs _).trans hb, hn, hs, hc, hv, hrs _, rfl, fun y hy => ?_, fun k hkk => hk k (by simp at hkk; exact hkk.1)⟩
      show (left y.1 && !decide (y.1 = x.1)) = _
      rw [contains_push, hl y hy, Bool.not_or]
      congr 1
      congr 1
      rw [Bool.eq_iff_iff]
      simp only [decide_eq_true_eq, beq_iff_eq]
      exact ⟨fun e => by rw [key_inj hn hy hx e], fun e => by rw [stamp_inj hs hy hx e]⟩
    · rcases hw1 with rfl | rfl
      · exact ⟨rfl, rfl, rfl, by simp [ChangeMaps.setBlock], fun i hi hne => Array.getElem?_setIfInBounds_ne (fun e => hne (by rw [e]))⟩
      · exact ⟨rfl, rfl, rfl, by show w.heap.size ≤ (w.heap.setIfInBounds _ _).size; simp, fun i hi hne => Array.getElem?_setIfInBounds_ne (fun e => hne (by rw [e]))⟩
/-- The store of a statement of several stores ('m[k], .. = v, ..'): first the entry, then its element. -/
theorem Holds.entry {w : World} {b : Nat} {F : κ → Option Value} (h : Holds K w b F) {mt e : TypeId} (hm : P.underlying mt = some (.map t e)) {z : Value} (hz : ∀ w, (zeroValue e).run P w = .ok z w) (k : κ) :
    ∃ (st : Nat) (w1 : World), (Instr.mapEntry mt (.map (some b)) (K.enc k)).run P w = .ok (.tuple #[(F k).getD z, goInt st]) w1 ∧ w.grownBy w1 (some b) ∧
      ∀ v, ∃ w3, (Instr.entryStore mt (.map (some b)) (goInt st) v).run P w1 = .ok () w3 ∧ Holds K w3 b (fun q => if q = k then some v else F q) ∧ w.grownBy w3 (some b) := by
  obtain ⟨l, c, hb, hn, hs, hc, hv⟩ := h
  have hlt := (Array.getElem?_eq_some_iff.1 hb).1
  have hgr : ∀ o, w.grownBy { w with heap := w.heap.setIfInBounds b o } (some b) := fun o => ⟨rfl, rfl, rfl, by simp, fun i hi hne => by
    rw [Array.getElem?_setIfInBounds_ne (fun e => hne (by rw [e]))]⟩
  have hF := hv k
  unfold val at hF
  cases hf : fnd k l 0 with
  | none =>
    rw [hf] at hF
    have hk := fnd_none hf
    refine ⟨c, { w with heap := w.heap.setIfInBounds b (.map ((l ++ [(k, z, c)]).map (ent K)).toArray (c + 1)) }, by
      simp only [Instr.mapEntry]
      simp [run_underlying hm, getObj, setObj, hb, Sem.run, K.chk, findKey_run K, hf, hz, ← hF, ent], hgr _, fun v => ?_⟩
    have hnd : ((l ++ [(k, z, c)]).map (·.2.2)).Nodup := by
      rw [List.map_append, List.nodup_append]
      exact ⟨hs, by simp, fun a ha b hb e => by
        simp at hb; subst hb; subst e
        obtain ⟨x, hx, he⟩ := List.mem_map.1 ha
        have := hc x hx
        omega⟩
    have hix : ((l ++ [(k, z, c)]).map (ent K)).toArray.findIdx? (fun e => ((e.born : Nat) : Int) == ((c : Nat) : Int)) = some l.length := by
      rw [WideElems.findIdx_arr]
      exact WideElems.findIdx_born (l := (l ++ [(k, z, c)]).map (ent K)) (j := l.length) (e0 := ent K (k, z, c)) (by rw [ent_born]; exact hnd) (by simp)
    have hmd : ((l ++ [(k, z, c)]).map (ent K)).toArray.modify l.length (fun e => { e with val := v }) = ((l ++ [(k, v, c)]).map (ent K)).toArray := by
      rw [List.modify_toArray, List.map_append, List.map_append]
      have e : l.length = (l.map (ent K)).length := by simp
      rw [e]
      congr 1
      exact WideElems.modify_last _ _ _
    have hw1 : (w.heap.setIfInBounds b (.map ((l ++ [(k, z, c)]).map (ent K)).toArray (c + 1)))[b]? = some (.map ((l ++ [(k, z, c)]).map (ent K)).toArray (c + 1)) := by
      rw [Array.getElem?_setIfInBounds_self, if_pos hlt]
    generalize hL : ((l ++ [(k, z, c)]).map (ent K)).toArray = L at hix hmd hw1
    refine ⟨{ w with heap := w.heap.setIfInBounds b (.map ((l ++ [(k, v, c)]).map (ent K)).toArray (c + 1)) }, by
      simp only [Instr.entryStore]
      simp [getObj, setObj, hw1, Sem.run, asInt, asIntOf, goInt, hix, hmd], ⟨l ++ [(k, v, c)], c + 1, ?_, ?_, ?_, ?_, fun q => ?_⟩, hgr _⟩
    · show (w.heap.setIfInBounds b _)[b]? = _
      rw [Array.getElem?_setIfInBounds_self, if_pos hlt]
    · rw [List.map_append, List.nodup_append]
      exact ⟨hn, by simp, fun a ha b hb e => by simp at hb; subst hb; subst e; exact hk ha⟩
    · simpa using hnd
    · intro x hx
      rcases List.mem_append.1 hx with hx | hx
      · have := hc x hx; omega
      · simp at hx; subst hx; show c < c + 1; omega
    · show _ = if q = k then some v else F q
      rw [val_append, val_cons]
      by_cases hq : q = k
      · subst hq
        rw [val_not_mem hk]
        simp
      · rw [if_neg (fun e => hq e.symm), if_neg hq, ← hv]
        simp [val, fnd]
  | some p =>
    rw [hf] at hF
    obtain ⟨a, x, d, hl, hx, rfl, ha⟩ := fnd_some hf
    have hat := at_ent (K := K) hl
    have hkey : (ent K x).key = K.enc k := by rw [← hx]; rfl
    have hsame : (l.map (ent K)).modify a.length (fun e => { e with key := K.enc k }) = l.map (ent K) := by
      subst hl
      have e : a.length = (a.map (ent K)).length := by simp
      rw [List.map_append, List.map_cons, e, modify_mid, ← hkey]
    refine ⟨x.2.2, { w with heap := w.heap.setIfInBounds b (.map (l.map (ent K)).toArray c) }, by
      simp only [Instr.mapEntry]
      simp [run_underlying hm, getObj, setObj, hb, Sem.run, K.chk, findKey_run K, hf, Instr.keyThatStays, -List.getElem?_map, hat, hkey, K.bits, ← hF]
      exact ⟨rfl, by rw [hsame]⟩, hgr _, fun v => ?_⟩
    have hix : (l.map (ent K)).toArray.findIdx? (fun e => ((e.born : Nat) : Int) == ((x.2.2 : Nat) : Int)) = some a.length := by
      rw [WideElems.findIdx_arr]
      exact WideElems.findIdx_born (l := l.map (ent K)) (j := a.length) (e0 := ent K x) (by rw [ent_born]; exact hs) hat
    have hmd : (l.map (ent K)).toArray.modify a.length (fun e => { e with val := v }) = ((a ++ (x.1, v, x.2.2) :: d).map (ent K)).toArray := by
      rw [List.modify_toArray]
      congr 1
      subst hl
      have e : a.length = (a.map (ent K)).length := by simp
      rw [List.map_append, List.map_cons, e, modify_mid, List.map_append, List.map_cons]
      rfl
    have hw1 : (w.heap.setIfInBounds b (.map (l.map (ent K)).toArray c))[b]? = some (.map (l.map (ent K)).toArray c) := by
      rw [Array.getElem?_setIfInBounds_self, if_pos hlt]
    generalize hL : (l.map (ent K)).toArray = L at hix hmd hw1
    refine ⟨{ w with heap := w.heap.setIfInBounds b (.map ((a ++ (x.1, v, x.2.2) :: d).map (ent K)).toArray c) }, by
      simp only [Instr.entryStore]
      simp [getObj, setObj, hw1, Sem.run, asInt, asIntOf, goInt, hix, hmd], ⟨a ++ (x.1, v, x.2.2) :: d, c, ?_, ?_, ?_, ?_, fun q => ?_⟩, hgr _⟩
    · show (w.heap.setIfInBounds b _)[b]? = _
      rw [Array.getElem?_setIfInBounds_self, if_pos hlt]
    · subst hl
      simpa [List.map_append] using hn
    · subst hl
      simpa [List.map_append] using hs
    · subst hl
      intro y hy
      rcases List.mem_append.1 hy with hy | hy
      · exact hc y (List.mem_append_left _ hy)
      · rcases List.mem_cons.1 hy with rfl | hy
        · exact hc x (by simp)
        · exact hc y (by simp [hy])
    · show _ = if q = k then some v else F q
      rw [← hv, hl, val_append, val_append, val_cons, val_cons]
      by_cases hq : q = k
      · subst hq
        rw [if_pos hx, val_not_mem ha]
        simp
      · rw [if_neg hq, if_neg (fun e => hq (e.symm.trans hx)), if_neg (fun e => hq (e.symm.trans hx))]
/-! ### At the operation, for the walk -/
section
variable {ops : Array Oper} {rest : List Oper} {o : Oper} {a : Act} {Q : Exit → Act → World → Prop} {w : World}
theorem wl_look {b : Nat} {F : κ → Option Value} (hw : Region.wanted o (yielded ops a.tmps) = true) (m x : Operand) (mt : TypeId) (hop : o.op = Op.lookup mt m x false)
    {e : TypeId} (hm : P.underlying mt = some (.map t e)) {z : Value} (hz : ∀ w, (zeroValue e).run P w = .ok z w) (h : Holds K w b F) (k : κ) (hme : a.eval m = .map (some b)) (hxe : a.eval x = K.enc k)
    (hK : wpList P ops Q rest (a.put o.dst ((F k).getD z)) w) : wpList P ops Q (o :: rest) a w := by
  refine wpList_step fun K' hK' => ?_
  rw [if_pos hw]
  unfold Oper.wp
  simp [execOp, hop, hme, hxe, (h.look hm hz k).1, Result.andThen]
  exact hK' _ _ hK
theorem wl_look2 {b : Nat} {F : κ → Option Value} (hw : Region.wanted o (yielded ops a.tmps) = true) (m x : Operand) (mt : TypeId) (hop : o.op = Op.lookup mt m x true)
    {e : TypeId} (hm : P.underlying mt = some (.map t e)) {z : Value} (hz : ∀ w, (zeroValue e).run P w = .ok z w) (h : Holds K w b F) (k : κ) (hme : a.eval m = .map (some b)) (hxe : a.eval x = K.enc k)
    (hK : wpList P ops Q rest (a.put o.dst (.tuple #[(F k).getD z, .bool (F k).isSome])) w) : wpList P ops Q (o :: rest) a w := by
  refine wpList_step fun K' hK' => ?_
  rw [if_pos hw]
  unfold Oper.wp
  simp [execOp, hop, hme, hxe, (h.look hm hz k).2, Result.andThen]
  exact hK' _ _ hK
theorem wl_put {b : Nat} {F : κ → Option Value} (hw : Region.wanted o (yielded ops a.tmps) = true) (m x y : Operand) (mt : TypeId) (hop : o.op = Op.mapUpdate mt m x y)
    {e : TypeId} (hm : P.underlying mt = some (.map t e)) (h : Holds K w b F) (k : κ) (v : Value) (hme : a.eval m = .map (some b)) (hxe : a.eval x = K.enc k) (hve : a.eval y = v)
    (hK : ∀ w', Holds K w' b (fun q => if q = k then some v else F q) → w.grownBy w' (some b) → wpList P ops Q rest (a.put o.dst undef) w') : wpList P ops Q (o :: rest) a w := by
  refine wpList_step fun K' hK' => ?_
  rw [if_pos hw]
  obtain ⟨w', hr, h1, h2⟩ := h.put hm k v
  unfold Oper.wp
  simp [execOp, hop, hme, hxe, hve, hr, Result.andThen]
  exact hK' _ _ (hK w' h1 h2)
theorem wl_drop {b : Nat} {F : κ → Option Value} (hw : Region.wanted o (yielded ops a.tmps) = true) (m x : Operand) (mt kt2 : TypeId) (hop : o.op = .call { callee := .builtin .delete, args := #[m, x], argTypes := #[mt, kt2] })
    {e : TypeId} (hm : P.underlying mt = some (.map t e)) (h : Holds K w b F) (k : κ) (hme : a.eval m = .map (some b)) (hxe : a.eval x = K.enc k)
    (hK : ∀ w', Holds K w' b (fun q => if q = k then none else F q) → w.grownBy w' (some b) → wpList P ops Q rest (a.put o.dst (.tuple #[])) w') : wpList P ops Q (o :: rest) a w := by
  refine wpList_step fun K' hK' => ?_
  rw [if_pos hw]
  obtain ⟨w', hr, h1, h2⟩ := h.drop (ft := o.type) (kt2 := kt2) hm k
  unfold Oper.wp execOp
  simp only [hop, resolve, invoke, builtin, Sem.run_bind, Sem.run_pure, Result.andThen_ok, List.map_toArray, List.map_cons, List.map_nil, hme, hxe, hr]
  exact hK' _ _ (hK w' h1 h2)
theorem wl_range {b : Nat} {F : κ → Option Value} (hw : Region.wanted o (yielded ops a.tmps) = true) (m : Operand) (mt : TypeId) (hop : o.op = Op.range mt m)
    {e : TypeId} (hm : P.underlying mt = some (.map t e)) (h : Holds K w b F) (hme : a.eval m = .map (some b))
    (hK : ∀ w' n, Ranging K w' w.heap.size b F (fun k => (F k).isSome) n → (∀ base, base ≤ w.heap.size → Below base w w') → wpList P ops Q rest (a.put o.dst (.pointer (some ⟨w.heap.size, 0, none⟩))) w') : wpList P ops Q (o :: rest) a w := by
  refine wpList_step fun K' hK' => ?_
  rw [if_pos hw]
  obtain ⟨n, hr, hg⟩ := h.range hm
  unfold Oper.wp
  simp [execOp, hop, hme, hr, Result.andThen]
  exact hK' _ _ (hK _ _ hg (fun base hb => (Below.refl base w).alloc hb _))
end
end
end Go.Proofs.YteblpjnkinghoaaW.Mw
/- The contract of the reference's applied, for every two slices of images. -/
namespace Go.Proofs.Yteblpjnkinghoaa.J
open Go.BigFrame Go.RowKit Go.Proofs.YteblpjnkinghoaaW.PrintWords Go.Proofs.YteblpjnkinghoaaW.PrintLast Go.Proofs.YteblpjnkinghoaaW.PrintMore
/-- Whether a key stands before another. -/
def kless (a b : ByteArray) : Bool := Op.bytesLess a.toList b.toList
/-- What stands behind an image's place, without one of its key. -/
def apRest (x : S41) : List S41 → List S41
  | [] => []
  | y :: r => if y.f0 = x.f0 then r else y :: r
/-- One image done to a state. -/
def apStep (cur : List S41) (x : S41) : List S41 :=
  cur.takeWhile (fun y => kless y.f0 x.f0) ++ (if x.f1 = true then [x] else []) ++ apRest x (cur.dropWhile (fun y => kless y.f0 x.f0))
theorem R_lit0 (W : World) (base : Nat) (ok : Nat → Prop) (hb : base ≤ W.heap.size) (hk : ok W.heap.size) : Kd.R k41 41 (W.alloc (.cells #[] 41)) base ok (.slice (some ⟨W.heap.size, 0, none⟩) 0 0) [] :=
  ⟨fun k h => by cases h; exact hk, [], World.ownsRow_lit (base := base) (e := 41) (size := 3) W #[] 0 hb (by decide) rfl, Reps.none _ _⟩
theorem R_C41 {e w base} {ok : Nat → Prop} {A : Option Addr} {n c : Nat} {xs : List S41} (h : Kd.R k41 e w base ok (.slice A n c) xs) : Kd.C k41 w A xs.length xs ∧ n = xs.length ∧ xs.length ≤ c := by
  obtain ⟨A', c', he, hl, hc⟩ := Kd.R_reads h
  injection he with h1 h2 h3
  subst h1; subst h2; subst h3
  exact ⟨hc, rfl, hl⟩
theorem k41_KM {w : World} (w' : World) (base : Nat) (ok : Nat → Prop) (x : S41) (cs : List Value) (h : k41.K w x cs) : k41.M w' base ok x cs := by
  rw [k41_open h]; exact k41_mkM _ _ _ x
theorem tw_take (p : S41 → Bool) (l : List S41) : l.take (l.takeWhile p).length = l.takeWhile p := by
  induction l with
  | nil => rfl
  | cons a l ih =>
    rw [List.takeWhile_cons]
    split
    · simp [ih]
    · rfl
theorem tw_drop (p : S41 → Bool) (l : List S41) : l.drop (l.takeWhile p).length = l.dropWhile p := by
  induction l with
  | nil => rfl
  | cons a l ih =>
    rw [List.takeWhile_cons, List.dropWhile_cons]
    split
    · simp [ih]
    · rfl
theorem tw_at (p : S41 → Bool) : ∀ (l : List S41) (k : Nat), k < (l.takeWhile p).length → p (rd_T41 l (k : Int)) = true
  | [], k, h => by simp at h
  | a :: l, k, h => by
    rw [List.takeWhile_cons] at h
    by_cases hp : p a = true
    · rw [if_pos hp] at h
      cases k with
      | zero => exact hp
      | succ k =>
        have := tw_at p l k (by simpa using h)
        have e : rd_T41 (a :: l) ((k + 1 : Nat) : Int) = rd_T41 l (k : Int) := by unfold rd_T41; rw [Int.toNat_natCast, Int.toNat_natCast]; rfl
        rw [e]; exact this
    · rw [if_neg hp] at h; simp at h
theorem tw_end (p : S41 → Bool) : ∀ (l : List S41), (l.takeWhile p).length < l.length → p (rd_T41 l ((l.takeWhile p).length : Int)) = false
  | [], h => by simp at h
  | a :: l, h => by
    rw [List.takeWhile_cons] at h ⊢
    by_cases hp : p a = true
    · rw [if_pos hp] at h ⊢
      have := tw_end p l (by simpa using h)
      have e : rd_T41 (a :: l) (((a :: l.takeWhile p).length : Nat) : Int) = rd_T41 l ((l.takeWhile p).length : Int) := by unfold rd_T41; rw [Int.toNat_natCast, Int.toNat_natCast]; rfl
      rw [e]; exact this
    · rw [if_neg hp]
      exact Bool.eq_false_iff.2 hp
theorem tw_le (p : S41 → Bool) (l : List S41) : (l.takeWhile p).length ≤ l.length := by
  induction l with
  | nil => simp
  | cons a l ih => rw [List.takeWhile_cons]; split <;> simp; exact ih
theorem apStep_le (cur : List S41) (x : S41) : (apStep cur x).length ≤ cur.length + 1 := by
  unfold apStep
  have h1 := congrArg List.length (List.takeWhile_append_dropWhile (p := fun y => kless y.f0 x.f0) (l := cur))
  rw [List.length_append] at h1
  rw [List.length_append, List.length_append]
  have h2 : (if x.f1 = true then [x] else []).length ≤ 1 := by split <;> simp
  have h3 : (apRest x (cur.dropWhile (fun y => kless y.f0 x.f0))).length ≤ (cur.dropWhile (fun y => kless y.f0 x.f0)).length := by
    cases cur.dropWhile (fun y => kless y.f0 x.f0) with
    | nil => exact Nat.le_refl _
    | cons y r => show (if y.f0 = x.f0 then r else y :: r).length ≤ (y :: r).length; split <;> simp
  omega
end Go.Proofs.Yteblpjnkinghoaa.J
/- Rows of images as the cells of one block: what stores, copies, appends and clears do to them. -/
namespace Go.Proofs.Yteblpjnkinghoaa.J
open Go.BigFrame Go.RowKit Go.Proofs.YteblpjnkinghoaaW.PrintWords Go.Proofs.YteblpjnkinghoaaW.PrintLast Go.Proofs.YteblpjnkinghoaaW.PrintMore
/-- An image's three cells. -/
def cells3 (x : S41) : List Value := [.string x.f0, .bool x.f1, .string x.f2]
def flat (l : List S41) : List Value := l.flatMap cells3
theorem flat_cons (x : S41) (l : List S41) : flat (x :: l) = cells3 x ++ flat l := rfl
theorem flat_append (a b : List S41) : flat (a ++ b) = flat a ++ flat b := by simp [flat]
theorem flat_length (l : List S41) : (flat l).length = l.length * 3 := by
  induction l with
  | nil => rfl
  | cons x l ih => rw [flat_cons, List.length_append, ih]; simp [cells3]; omega
theorem flat_one (l : List S41) : ∀ u ∈ flat l, u.oneCell' = true := by
  intro u hu
  obtain ⟨x, _, hx⟩ := List.mem_flatMap.1 hu
  simp [cells3] at hx
  rcases hx with rfl | rfl | rfl <;> rfl
theorem flat_take (l : List S41) (k : Nat) : (flat l).take (k * 3) = flat (l.take k) := by
  induction l generalizing k with
  | nil => simp [flat]
  | cons x l ih =>
    cases k with
    | zero => simp [flat]
    | succ k =>
      rw [flat_cons, List.take_succ_cons, flat_cons, ← ih k, show (k + 1) * 3 = k * 3 + 1 + 1 + 1 by omega]
      simp [cells3]
theorem flat_drop (l : List S41) (k : Nat) : (flat l).drop (k * 3) = flat (l.drop k) := by
  induction l generalizing k with
  | nil => simp [flat]
  | cons x l ih =>
    cases k with
    | zero => simp
    | succ k =>
      rw [flat_cons, List.drop_succ_cons, ← ih k, show (k + 1) * 3 = k * 3 + 1 + 1 + 1 by omega]
      simp [cells3]
/-- An own row's cells: its images, then what is spare. -/
def Im (w : World) (g cap : Nat) (cs : List Value) : Prop := w.heap[g]? = some (.cells cs.toArray 41) ∧ cs.length = cap * 3 ∧ cap ≤ maxLen
theorem reps_flat {w : World} {base : Nat} {ok : Nat → Prop} : ∀ (xs : List S41) (inner : List Value), Reps (k41.M w base ok) 3 xs inner → inner = flat xs
  | [], inner, h => List.eq_nil_of_length_eq_zero (by simpa using h.1)
  | x :: xs, inner, h => by
    have h0 := h.2 0 x rfl
    have hd := Kd.reps_drop (m := 1) h
    have e := reps_flat xs _ (by simpa using hd)
    rw [flat_cons, ← e]
    have e0 := k41_openM h0
    simp at e0
    unfold cells3
    rw [← e0, List.take_append_drop]
theorem flat_reps {w : World} {base : Nat} {ok : Nat → Prop} : ∀ (xs : List S41), Reps (k41.M w base ok) 3 xs (flat xs) := fun xs =>
  ⟨flat_length xs, fun j p hj => by
    rw [flat_drop, show (3 : Nat) = 1 * 3 from rfl, flat_take]
    have : (xs.drop j).take 1 = [p] := by
      obtain ⟨hlt, rfl⟩ := List.getElem?_eq_some_iff.1 hj
      rw [List.drop_eq_getElem_cons hlt]; rfl
    rw [this]
    exact k41_mkM _ _ _ p⟩
theorem R_im {w : World} {base : Nat} {ok : Nat → Prop} {v : Value} {xs : List S41} (h : Kd.R k41 41 w base ok v xs) :
    (xs = [] ∧ v = .slice none 0 0) ∨ ∃ g cap rest, v = .slice (some ⟨g, 0, none⟩) xs.length cap ∧ ok g ∧ base ≤ g ∧ xs.length ≤ cap ∧ Im w g cap (flat xs ++ rest) := by
  obtain ⟨h0, inner, ho, hr⟩ := h
  have hin := reps_flat xs inner hr
  subst hin
  rcases ho.2 with ⟨rfl, hn⟩ | ⟨g, cap, cur, rfl, hb, hh, hnc, hcm, hcs, ht⟩
  · exact .inl ⟨List.eq_nil_of_length_eq_zero hn, rfl⟩
  · refine .inr ⟨g, cap, cur.toList.drop (xs.length * 3), rfl, h0 g rfl, hb, hnc, ?_, ?_, hcm⟩
    · have ht' : cur.toList.take (xs.length * 3) = flat xs := ht
      rw [← ht', List.take_append_drop]; exact hh
    · have ht' : cur.toList.take (xs.length * 3) = flat xs := ht
      rw [← ht', List.take_append_drop, Array.length_toList]; exact hcs
theorem im_R {w : World} {base : Nat} {ok : Nat → Prop} {xs : List S41} {g cap : Nat} {rest : List Value} (h : Im w g cap (flat xs ++ rest)) (hl : xs.length ≤ cap) (hb : base ≤ g) (hg : ok g) :
    Kd.R k41 41 w base ok (.slice (some ⟨g, 0, none⟩) xs.length cap) xs := by
  refine ⟨fun k hk => by cases hk; exact hg, flat xs, ⟨flat_length xs, .inr ⟨g, cap, (flat xs ++ rest).toArray, rfl, hb, h.1, hl, h.2.2, ?_, ?_⟩⟩, flat_reps xs⟩
  · rw [List.size_toArray]; exact h.2.1
  · show (flat xs ++ rest).take (xs.length * 3) = flat xs
    rw [← flat_length, List.take_left]
namespace Im
variable {w w' : World} {g cap : Nat} {cs : List Value}
theorem lt (h : Im w g cap cs) : g < w.heap.size := (Array.getElem?_eq_some_iff.1 h.1).1
theorem cell (h : Im w g cap cs) (j : Nat) (v : Value) (hj : cs[j]? = some v) : w.cell? ⟨g, j, none⟩ = some v := by
  unfold World.cell?
  simp [h.1, hj]
theorem below (h : Im w g cap cs) (hb : Below w.heap.size w w') : Im w' g cap cs := ⟨(hb.block g h.lt).trans h.1, h.2⟩
theorem move (h : Im w g cap cs) (hb : w'.heap[g]? = w.heap[g]?) : Im w' g cap cs := ⟨hb.trans h.1, h.2⟩
theorem frozen (h : Im w g cap cs) (o : Nat) : w.frozen? ⟨g, o, none⟩ = false := by
  unfold World.frozen?
  simp [h.1]
theorem shape (h : Im w g cap cs) : w.shape? g = some (41, cap * 3) := by
  unfold World.shape?
  simp [h.1, h.2.1]
end Im
/-- What a row holds after a stretch of its cells was written. -/
def spliced (cs : List Value) (o : Nat) (vs : List Value) : List Value := cs.take o ++ vs ++ cs.drop (o + vs.length)
theorem spliced_length (cs : List Value) (o : Nat) (vs : List Value) (h : o + vs.length ≤ cs.length) : (spliced cs o vs).length = cs.length := by
  unfold spliced; simp; omega
theorem Im.put {w : World} {g cap : Nat} {cs : List Value} (h : Im w g cap cs) (o : Nat) (vs : List Value) (hf : o + vs.length ≤ cs.length) : Im (w.setRow g (spliced cs o vs).toArray) g cap (spliced cs o vs) :=
  ⟨setRow_heap w g _ _ 41 (0, 0) h.1, by rw [spliced_length _ _ _ hf]; exact h.2.1, h.2.2⟩
theorem below_row {B g : Nat} {w0 w : World} (hb : Below B w0 w) (hBg : B ≤ g) (cs : Array Value) : Below B w0 (w.setRow g cs) := below_setRow hb hBg cs
theorem info41z : (Try.prog.info? 41).map (·.size) = some 3 := by
  obtain ⟨i0, hi, _, hz, _⟩ := info_parts info41
  rw [hi]; simp; exact hz
/-- copy(d, s). -/
theorem run_copy41 {w : World} {g cap : Nat} {cs : List Value} (h : Im w g cap cs) (ty : TypeId) (o dLen dCap : Nat) (a : Addr) (sLen sCap : Nat) (vs : List Value) (hn : vs.length = Nat.min sLen dLen * 3)
    (hsrc : ∀ j v, vs[j]? = some v → w.cell? (a.add j) = some v) (hfit : o + vs.length ≤ cs.length) (h1 : ∀ v ∈ vs, v.oneCell' = true) :
    (Builtin.copy_ #[22, 22] ty #[.slice (some ⟨g, o, none⟩) dLen dCap, .slice (some a) sLen sCap]).run Try.prog w = .ok (goInt (Nat.min sLen dLen)) (w.setRow g (spliced cs o vs).toArray) := by
  have hl := run_loadCells_list (P := Try.prog) w a vs hsrc
  have hst := run_storeCells_at Try.prog g o 41 vs 0 cs.toArray w h.1 (by simpa using hfit) h1
  have hi := info41z
  cases hq : Try.prog.info? 41 with
  | none => simp [hq] at hi
  | some i =>
    have hz : i.size = 3 := by simpa [hq] using hi
    rw [hn] at hl
    simp only [Builtin.copy_]
    simp [run_underlying Try.underlying22, Builtin.lenOf, Builtin.firstCells, sizeOf, typeInfo, hq, hz, hl, hst, spliced]
theorem info41p : ∃ i, Try.prog.info? 41 = some i ∧ i.size = 3 ∧ i.zero = some (.agg #[(.string ⟨#[]⟩), (.bool false), (.string ⟨#[]⟩)]) ∧ i.bytes = 40 := by
  obtain ⟨i0, hi, h0, hz, hb⟩ := info_parts info41
  exact ⟨i0, hi, hz, h0, hb⟩
theorem zeroCells3_length (n : Nat) : (Builtin.zeroCells (Value.agg #[(.string ⟨#[]⟩), (.bool false), (.string ⟨#[]⟩)]).cells n).size = n * 3 := by
  rw [size_zeroCells]; rfl
/-- append(s, make([]T, n)...) where there is no room. -/
theorem run_append41_zeros {w : World} {g cap : Nat} {cs : List Value} (h : Im w g cap cs) (ty : TypeId) (sLen n : Nat) (hs : sLen ≤ cap) (hg : cap < sLen + n) (h63 : sLen + n ≤ 2000000) :
    (Builtin.append_ #[22, 3] ty #[.slice (some ⟨g, 0, none⟩) sLen cap, .int .i64 n]).run Try.prog w =
      .ok (.slice (some ⟨w.heap.size, 0, none⟩) (sLen + n) (grownCap w (sLen + n) cap 41))
        (w.drew.alloc (.cells ((cs.take (sLen * 3)).toArray ++ Builtin.zeroCells (Value.agg #[(.string ⟨#[]⟩), (.bool false), (.string ⟨#[]⟩)]).cells n ++ Builtin.zeroCells (Value.agg #[(.string ⟨#[]⟩), (.bool false), (.string ⟨#[]⟩)]).cells (grownCap w (sLen + n) cap 41 - (sLen + n))) 41)) := by
  obtain ⟨i, hi, hz, h0, hb⟩ := info41p
  have hn : ¬ (sLen + n ≤ cap) := by omega
  have hn0 : n ≠ 0 := by omega
  have hw : IntKind.i64.wrap (n : Int) = n := by rw [IntKind.wrap_i64]; omega
  have h63' : ¬ (9223372036854775807 < ((sLen : Int) + (n : Int))) := by omega
  have hneg : ¬ ((n : Int) < 0) := by omega
  have h48i : ¬ (281474976710656 < (n : Int) * 40) := by omega
  have hfit : Builtin.nextslicecap (sLen + n) cap * 40 ≤ 281474976710656 := growslice_fits hg (by omega)
  have h48' : ¬ (281474976710656 < Builtin.nextslicecap (sLen + n) cap * 40) := by omega
  have hlo : (cs.take (sLen * 3)).length = sLen * i.size := by rw [List.length_take, h.2.1, hz]; exact Nat.min_eq_left (Nat.mul_le_mul_right _ hs)
  have hfo := run_firstCells_some (P := Try.prog) w.drew i.size sLen ⟨g, 0, none⟩ sLen cap (cs.take (sLen * 3)) hlo (fun j v hj => by
    rw [List.getElem?_take] at hj
    split at hj
    · have := h.cell j v hj
      simpa [Addr.add_lit] using this
    · cases hj)
  rw [hz] at hfo
  have hn3 : ¬ n * 3 = 0 := by omega
  simp [Builtin.append_, run_underlying Try.underlying22, run_underlying Try.underlying3, sizeOf, typeInfo, zeroValue, hi, hz, h0, hb, asInt, asIntOf, hw, hn0, hneg, hn, h63', h48', h48i, Question.forced, hfo, hn3, newRow, grownCap]
/-- clear(s). -/
theorem run_clear41 {w : World} {g cap : Nat} {cs : List Value} (h : Im w g cap cs) (ty : TypeId) (o n c : Nat) (hn : 0 < n) (hf : o + n * 3 ≤ cs.length) :
    (Builtin.clear_ #[22] ty #[.slice (some ⟨g, o, none⟩) n c]).run Try.prog w = .ok (.tuple #[]) (w.setRow g (spliced cs o (Builtin.zeroCells (Value.agg #[(.string ⟨#[]⟩), (.bool false), (.string ⟨#[]⟩)]).cells n).toList).toArray) := by
  obtain ⟨i, hi, hz, h0, hb⟩ := info41p
  have hst := run_storeCells_at Try.prog g o 41 (Builtin.zeroCells (Value.agg #[(.string ⟨#[]⟩), (.bool false), (.string ⟨#[]⟩)]).cells n).toList 0 cs.toArray w h.1 (by rw [Array.length_toList, zeroCells3_length]; simpa using hf) (fun v hv => by
    simp [Builtin.zeroCells, Value.cells] at hv
    obtain ⟨j, hj, rfl⟩ := hv
    have : j % 3 = 0 ∨ j % 3 = 1 ∨ j % 3 = 2 := by omega
    rcases this with e | e | e <;> simp [e] <;> rfl)
  obtain ⟨m, rfl⟩ : ∃ m, n = m + 1 := ⟨n - 1, by omega⟩
  simp [Builtin.clear_, run_underlying Try.underlying22, zeroValue, typeInfo, hi, h0, hst, spliced]
end Go.Proofs.Yteblpjnkinghoaa.J
/- The contract of slices.Insert at images, one element, into a row of the call's own. -/
namespace Go.Proofs.Yteblpjnkinghoaa.J
open Go.BigFrame Go.RowKit Go.Proofs.YteblpjnkinghoaaW.PrintWords Go.Proofs.YteblpjnkinghoaaW.PrintLast Go.Proofs.YteblpjnkinghoaaW.PrintMore
/-- At the end. -/
theorem insert_end (xs : List S41) (x : S41) (s base : Nat) (v : Value) (w : World) (hR : Kd.R k41 41 w base (fun _ => True) v xs) (hs : w.heap[s]? = some (.cells #[.string x.f0, .bool x.f1, .string x.f2] 41)) (hb : base ≤ w.heap.size) (hl : xs.length ≤ 1000000) :
    Calls Try.prog 49 #[v, .int .i64 xs.length, .slice (some ⟨s, 0, none⟩) 1 1] w fun e w' => ∃ v' : Value, e = .returned v' ∧ Kd.R k41 41 w' base (fun _ => True) v' (xs ++ [x]) ∧ Below base w w' := by
  obtain ⟨A, c, rfl, hlc, hC⟩ := Kd.R_reads hR
  have HR := Aside0.mk hR
  have hrow : ReadsRow (k41.K w) 3 w (some ⟨s, 0, none⟩) 1 [x] := ⟨rfl, by decide, fun _ => ⟨_, rfl, fun j p hj => by
    cases j with
    | zero =>
      cases hj
      refine ⟨cells3 x, rfl, k41_mk w x, fun i u hu => ?_⟩
      have : i = 0 ∨ i = 1 ∨ i = 2 := by have := (List.getElem?_eq_some_iff.1 hu).1; simp [cells3] at this; omega
      rcases this with rfl | rfl | rfl <;> cases hu
      · exact (blk_cell hs 0).trans rfl
      · exact (blk_cell hs 1).trans rfl
      · exact (blk_cell hs 2).trans rfl
    | succ j => simp at hj⟩⟩
  have HW := Aside0.mk hrow
  clear hR hC hrow hs
  obtain ⟨i0, hi0, _, hsz0, _⟩ := info_parts info41
  have hsz0 : i0.size = 3 := hsz0
  have hcut := cut_from (P := Try.prog) 22 41 .i64 Try.underlying22 hi0 3 hsz0 A xs.length c (xs.length : Int) (by omega) (by omega)
  rw [Int.toNat_natCast, Nat.sub_self] at hcut
  obtain ⟨B, hcut⟩ : ∃ B, ∀ W : World, (Instr.slice 22 (.slice A xs.length c) (some (.int .i64 (xs.length : Int))) none none).run Try.prog W = .ok (.slice B 0 (c - xs.length)) W := ⟨_, hcut⟩
  clear hi0 hsz0
  go_enter Try.func49, Try.ntmps49
  go_wp2_with (first | (at_builtin; refine Kd.R_append_rows k41 (Rr := k41.K w) (w0 := w) base rfl (.tmp 23) (.tmp 24) 22 41 (.agg #[(.string ⟨#[]⟩), (.bool false), (.string ⟨#[]⟩)]) 40 rfl Try.underlying22 info41 rfl (by decide) (by decide) (.slice A xs.length c) xs [x] (some ⟨s, 0, none⟩) 1 1 (fun _ => True) (fun _ => False) rfl rfl ?aO ?aR ?aK (fun _ hk => hk.elim) (fun _ _ => trivial) ?aB ?aS ?aL ?_; (case aO => exact HR.out); (case aR => exact HW.out); (case aK => exact fun x cs hx => k41_KM _ _ _ x cs hx); (case aB => exact Below.refl _ _); (case aS => exact hb); (case aL => omega); intro v1 w1 ho hb1 _ _))
  all_goals (go_ret; exact ⟨_, rfl, ho, hb1⟩)
theorem Im.get {w : World} {g cap : Nat} {cs : List Value} (h : Im w g cap cs) (o k : Nat) : ∀ j v, ((cs.drop o).take k)[j]? = some v → w.cell? ((⟨g, o, none⟩ : Addr).add j) = some v := fun j v hj => by
  rw [List.getElem?_take] at hj
  split at hj
  · rw [List.getElem?_drop] at hj
    rw [Addr.add_lit]
    exact h.cell (o + j) v hj
  · cases hj
theorem spliced_at (A Z V : List Value) : spliced (A ++ Z) A.length V = A ++ V ++ Z.drop V.length := by
  unfold spliced
  rw [List.take_left, List.drop_append]
  have : A.drop (A.length + V.length) = [] := List.drop_eq_nil_of_le (by omega)
  rw [this, List.nil_append, show A.length + V.length - A.length = V.length by omega]
theorem spliced_flat (A : List S41) (Z V : List Value) : spliced (flat A ++ Z) (A.length * 3) V = flat A ++ V ++ Z.drop V.length := by
  rw [← flat_length]; exact spliced_at _ _ _
theorem grownCap_ge (w : World) (need old : Nat) (e : TypeId) : need ≤ grownCap w need old e := by
  simp only [grownCap, Question.cut]; omega
theorem cells3_get {w : World} {s : Nat} {x : S41} (hs : w.heap[s]? = some (.cells #[.string x.f0, .bool x.f1, .string x.f2] 41)) : ∀ j v, (cells3 x)[j]? = some v → w.cell? ((⟨s, 0, none⟩ : Addr).add j) = some v := fun j v hj => by
  have : j = 0 ∨ j = 1 ∨ j = 2 := by have := (List.getElem?_eq_some_iff.1 hj).1; simp [cells3] at this; omega
  rcases this with rfl | rfl | rfl <;> cases hj
  · exact (blk_cell hs 0).trans rfl
  · exact (blk_cell hs 1).trans rfl
  · exact (blk_cell hs 2).trans rfl
theorem cells3_one (x : S41) : ∀ v ∈ cells3 x, v.oneCell' = true := by
  intro u hx
  simp [cells3] at hx
  rcases hx with rfl | rfl | rfl <;> rfl
/-- append(s[:i], make([]T, n + 1 - i)...) where the row is full. -/
theorem grown41 {w : World} {g : Nat} {xs : List S41} (hI : Im w g xs.length (flat xs)) (i : Nat) (hi : i < xs.length) (hl : xs.length ≤ 1000000) :
    ∃ w1 cp Z, (∀ ty, (Builtin.append_ #[22, 3] ty #[.slice (some ⟨g, 0, none⟩) i xs.length, .int .i64 ((xs.length + 1 - i : Nat) : Int)]).run Try.prog w = .ok (.slice (some ⟨w.heap.size, 0, none⟩) (xs.length + 1) cp) w1) ∧
      xs.length + 1 ≤ cp ∧ Im w1 w.heap.size cp (flat (xs.take i) ++ Z) ∧ Z.length = (cp - i) * 3 ∧ ∀ base, base ≤ w.heap.size → Below base w w1 := by
  have hn : i + (xs.length + 1 - i) = xs.length + 1 := by omega
  have hr := fun ty => run_append41_zeros hI ty i (xs.length + 1 - i) (by omega) (by omega) (by omega)
  rw [hn] at hr
  have hge := grownCap_ge w (xs.length + 1) xs.length 41
  have hmx := grownCap_le_maxLen w (xs.length + 1) xs.length 41 (by simp only [maxLen]; omega)
  generalize grownCap w (xs.length + 1) xs.length 41 = cp at hr hge hmx
  have z : ∀ n, (Builtin.zeroCells (Value.agg #[(.string ⟨#[]⟩), (.bool false), (.string ⟨#[]⟩)]).cells n).toList.length = n * 3 := fun n => by rw [Array.length_toList, zeroCells3_length]
  refine ⟨_, cp, (Builtin.zeroCells (Value.agg #[(.string ⟨#[]⟩), (.bool false), (.string ⟨#[]⟩)]).cells (xs.length + 1 - i)).toList ++ (Builtin.zeroCells (Value.agg #[(.string ⟨#[]⟩), (.bool false), (.string ⟨#[]⟩)]).cells (cp - (xs.length + 1))).toList, hr, hge, ⟨?_, ?_, hmx⟩, ?_, fun base hb => (Below.refl _ _).drew.alloc hb _⟩
  · have := heap_alloc_new w.drew (.cells (((flat xs).take (i * 3)).toArray ++ Builtin.zeroCells (Value.agg #[(.string ⟨#[]⟩), (.bool false), (.string ⟨#[]⟩)]).cells (xs.length + 1 - i) ++ Builtin.zeroCells (Value.agg #[(.string ⟨#[]⟩), (.bool false), (.string ⟨#[]⟩)]).cells (cp - (xs.length + 1))) 41)
    refine Eq.trans this ?_
    rw [flat_take]
    congr 2
    apply Array.ext'
    simp
  · rw [List.length_append, List.length_append, flat_length, z, z, List.length_take]
    omega
  · rw [List.length_append, z, z]
    omega
set_option maxHeartbeats 4000000 in
set_option maxRecDepth 100000 in
/-- Not at the end, there is no room: the walk. -/
theorem insert_grow_walk (n i cp h g s : Nat) (w w1 w2 w3 : World) (hn : n ≤ 1000000) (hi : i < n) (hcp : n + 1 ≤ cp)
    (hcut : ∀ W : World, (Instr.slice 22 (.slice (some ⟨g, 0, none⟩) n n) (some (.int .i64 (i : Int))) none none).run Try.prog W = .ok (.slice (some ⟨g, i * 3, none⟩) (n - i) (n - i)) W)
    (hct : ∀ W : World, (Instr.slice 22 (.slice (some ⟨g, 0, none⟩) n n) none (some (.int .i64 (i : Int))) none).run Try.prog W = .ok (.slice (some ⟨g, 0, none⟩) i n) W)
    (hz : ∀ ty, (Builtin.append_ #[22, 3] ty #[.slice (some ⟨g, 0, none⟩) i n, .int .i64 ((n + 1 - i : Nat) : Int)]).run Try.prog w = .ok (.slice (some ⟨h, 0, none⟩) (n + 1) cp) w1)
    (hc1 : ∀ W : World, (Instr.slice 22 (.slice (some ⟨h, 0, none⟩) (n + 1) cp) (some (.int .i64 (i : Int))) none none).run Try.prog W = .ok (.slice (some ⟨h, i * 3, none⟩) (n + 1 - i) (cp - i)) W)
    (hcpy1 : ∀ ty, (Builtin.copy_ #[22, 22] ty #[.slice (some ⟨h, i * 3, none⟩) (n + 1 - i) (cp - i), .slice (some ⟨s, 0, none⟩) 1 1]).run Try.prog w1 = .ok (goInt 1) w2)
    (hc2 : ∀ W : World, (Instr.slice 22 (.slice (some ⟨h, 0, none⟩) (n + 1) cp) (some (.int .i64 ((i : Int) + 1))) none none).run Try.prog W = .ok (.slice (some ⟨h, (i + 1) * 3, none⟩) (n + 1 - (i + 1)) (cp - (i + 1))) W)
    (hcpy2 : ∀ ty, (Builtin.copy_ #[22, 22] ty #[.slice (some ⟨h, (i + 1) * 3, none⟩) (n + 1 - (i + 1)) (cp - (i + 1)), .slice (some ⟨g, i * 3, none⟩) (n - i) (n - i)]).run Try.prog w2.drew = .ok (goInt ((n - i : Nat) : Int)) w3) :
    Calls Try.prog 49 #[.slice (some ⟨g, 0, none⟩) n n, .int .i64 i, .slice (some ⟨s, 0, none⟩) 1 1] w fun e w' => e = .returned (.slice (some ⟨h, 0, none⟩) (n + 1) cp) ∧ w' = w3 := by
  have HZ := Aside0.mk hz
  have HC1 := Aside0.mk hcpy1
  have HC2 := Aside0.mk hcpy2
  clear hz hcpy1 hcpy2
  go_enter Try.func49, Try.ntmps49
  go_upto_region 9 with (fail)
  go_upto_region 10 with (first | (at_builtin; refine Lib.wpList_append_run _ rfl (.tmp 34) (.tmp 39) 22 3 rfl _ (.int .i64 ((n + 1 - i : Nat) : Int)) rfl ?hx _ _ (HZ.out _) ?_; (case hx => show Value.int .i64 _ = _; congr 1; omega)))
  go_upto_region 11 with (first | (refine wpList_copy_runI _ rfl (.tmp 43) (.tmp 44) 22 22 rfl (.slice (some ⟨h, i * 3, none⟩) (n + 1 - i) (cp - i)) (.slice (some ⟨s, 0, none⟩) 1 1) rfl rfl (HC1.out _) ?_))
  go_frame
  have hw1 : IntKind.i64.wrap ((i : Int) + 1) = (i : Int) + 1 := by rw [IntKind.wrap_i64]; omega
  have hb1 : (0 : Int) ≤ (i : Int) + 1 := by omega
  have hb0 : (i : Int) ≤ (n : Int) := by omega
  have hb3 : (i : Int) + 1 ≤ (n : Int) + 1 := by omega
  have htn : ((i : Int) + 1).toNat = i + 1 := by omega
  have hb2 : ¬ (cp = i + 1) := by omega
  have hb4 : ¬ (n = i) := by omega
  have hin : i ≤ n := by omega
  go_region_law (refine step_copy_runI rfl (.tmp 50) (.tmp 53) 22 22 rfl (.slice (some ⟨h, (i + 1) * 3, none⟩) (n + 1 - (i + 1)) (cp - (i + 1))) (.slice (some ⟨g, i * 3, none⟩) (n - i) (n - i)) (by simp [Act.eval, Act.put]) (by simp [Act.eval, Act.put]) (HC2.out _) ?_)
  go_wp2
  go_ret
  exact ⟨rfl, rfl⟩
set_option maxHeartbeats 2000000 in
set_option maxRecDepth 100000 in
/-- Not at the end, there is no room. -/
theorem insert_grow (xs : List S41) (x : S41) (s base g i : Nat) (w : World) (hI : Im w g xs.length (flat xs)) (hs : w.heap[s]? = some (.cells #[.string x.f0, .bool x.f1, .string x.f2] 41)) (hb : base ≤ w.heap.size) (hl : xs.length ≤ 1000000) (hi : i < xs.length) :
    Calls Try.prog 49 #[.slice (some ⟨g, 0, none⟩) xs.length xs.length, .int .i64 i, .slice (some ⟨s, 0, none⟩) 1 1] w fun e w' => ∃ v' : Value, e = .returned v' ∧ Kd.R k41 41 w' base (fun _ => True) v' (xs.take i ++ x :: xs.drop i) ∧ Below base w w' := by
  obtain ⟨i0, hi0, _, hsz0, _⟩ := info_parts info41
  have hsz0 : i0.size = 3 := hsz0
  have hcut := cut_from (P := Try.prog) 22 41 .i64 Try.underlying22 hi0 3 hsz0 (some ⟨g, 0, none⟩) xs.length xs.length (i : Int) (by omega) (by omega)
  rw [Int.toNat_natCast, if_neg (by omega)] at hcut
  have hII := Aside0.mk hI
  have hsl : s ≠ g → (w.heap[s]? = some (.cells #[.string x.f0, .bool x.f1, .string x.f2] 41)) := fun _ => hs
  have hlt := hI.lt
  have hslt := (Array.getElem?_eq_some_iff.1 hs).1
  have hct := cut_to (P := Try.prog) 22 41 .i64 Try.underlying22 hi0 (some ⟨g, 0, none⟩) xs.length xs.length (i : Int) (by omega) (by omega) (Nat.le_refl _)
  rw [Int.toNat_natCast] at hct
  have d1 : decide ((i : Int) = (xs.length : Int)) = false := decide_eq_false (by omega)
  have d1' : ((i : Int) == (xs.length : Int)) = false := by rw [Bool.eq_false_iff]; simp; omega
  obtain ⟨w1, cp, Z, hz, hcp, hI1, hZ, hB1⟩ := grown41 hI i hi hl
  have hb1 := hB1 w.heap.size (Nat.le_refl _)
  have hne : g ≠ w.heap.size := by omega
  -- the first copy
  have hcpy1 : ∀ ty, (Builtin.copy_ #[22, 22] ty #[.slice (some ⟨w.heap.size, i * 3, none⟩) (xs.length + 1 - i) (cp - i), .slice (some ⟨s, 0, none⟩) 1 1]).run Try.prog w1 = .ok (goInt 1) (w1.setRow w.heap.size (spliced (flat (xs.take i) ++ Z) (i * 3) (cells3 x)).toArray) := fun ty => by
    have := run_copy41 hI1 ty (i * 3) (xs.length + 1 - i) (cp - i) ⟨s, 0, none⟩ 1 1 (cells3 x) (show 3 = Nat.min 1 (xs.length + 1 - i) * 3 by rw [show Nat.min 1 (xs.length + 1 - i) = 1 from Nat.min_eq_left (by omega)]) (cells3_get ((hb1.block _ hslt).trans hs)) (by simp [cells3, flat_length, hZ]; omega) (cells3_one x)
    rwa [show Nat.min 1 (xs.length + 1 - i) = 1 from Nat.min_eq_left (by omega)] at this
  have hlt2 : (xs.take i).length = i := by rw [List.length_take]; omega
  have e1 : spliced (flat (xs.take i) ++ Z) (i * 3) (cells3 x) = flat (xs.take i ++ [x]) ++ Z.drop 3 := by
    have := spliced_flat (xs.take i) Z (cells3 x)
    rw [hlt2] at this
    rw [this, flat_append]
    simp [flat, cells3]
  have hI2 := hI1.put (i * 3) (cells3 x) (by simp [cells3, flat_length, hZ]; omega)
  rw [e1] at hcpy1 hI2
  obtain ⟨w2, hw2⟩ : ∃ w2, w2 = w1.setRow w.heap.size (flat (xs.take i ++ [x]) ++ Z.drop 3).toArray := ⟨_, rfl⟩
  rw [← hw2] at hcpy1 hI2
  have hB2 : Below base w w2 := by rw [hw2]; exact below_row (hB1 base hb) hb _
  have hIg : Im w2 g xs.length (flat xs) := (hI.below hb1).move (by rw [hw2]; exact setRow_other _ _ _ _ hne)
  -- the second
  have hlt3 : (xs.take i ++ [x]).length = i + 1 := by rw [List.length_append, hlt2]; rfl
  have hdr : (flat (xs.drop i)).length = (xs.length - i) * 3 := by rw [flat_length, List.length_drop]
  have hcpy2 : ∀ ty, (Builtin.copy_ #[22, 22] ty #[.slice (some ⟨w.heap.size, (i + 1) * 3, none⟩) (xs.length + 1 - (i + 1)) (cp - (i + 1)), .slice (some ⟨g, i * 3, none⟩) (xs.length - i) (xs.length - i)]).run Try.prog w2.drew = .ok (goInt ((xs.length - i : Nat) : Int)) (w2.drew.setRow w.heap.size (spliced (flat (xs.take i ++ [x]) ++ Z.drop 3) ((i + 1) * 3) (flat (xs.drop i))).toArray) := fun ty => by
    have := run_copy41 (hI2.below ((Below.refl _ w2).drew)) ty ((i + 1) * 3) (xs.length + 1 - (i + 1)) (cp - (i + 1)) ⟨g, i * 3, none⟩ (xs.length - i) (xs.length - i) (flat (xs.drop i)) (by rw [hdr, show Nat.min (xs.length - i) (xs.length + 1 - (i + 1)) = xs.length - i from Nat.min_eq_left (by omega)]) (fun j v hj => by
      have h2 := (hIg.below ((Below.refl _ w2).drew)).get (i * 3) ((xs.length - i) * 3) j v
      rw [flat_drop] at h2
      exact h2 (by rw [List.take_of_length_le (by rw [hdr]; exact Nat.le_refl _)]; exact hj)) (by rw [hdr, List.length_append, flat_length, hlt3, List.length_drop, hZ]; omega) (flat_one _)
    rwa [show Nat.min (xs.length - i) (xs.length + 1 - (i + 1)) = xs.length - i from Nat.min_eq_left (by omega)] at this
  have e2 : spliced (flat (xs.take i ++ [x]) ++ Z.drop 3) ((i + 1) * 3) (flat (xs.drop i)) = flat (xs.take i ++ x :: xs.drop i) ++ (Z.drop 3).drop (flat (xs.drop i)).length := by
    have := spliced_flat (xs.take i ++ [x]) (Z.drop 3) (flat (xs.drop i))
    rw [hlt3] at this
    rw [this, ← flat_append]
    simp
  have hI3 := (hI2.below ((Below.refl _ w2).drew)).put ((i + 1) * 3) (flat (xs.drop i)) (by rw [hdr, List.length_append, flat_length, hlt3, List.length_drop, hZ]; omega)
  rw [e2] at hcpy2 hI3
  obtain ⟨w3, hw3⟩ : ∃ w3, w3 = w2.drew.setRow w.heap.size (flat (xs.take i ++ x :: xs.drop i) ++ (Z.drop 3).drop (flat (xs.drop i)).length).toArray := ⟨_, rfl⟩
  rw [← hw3] at hcpy2 hI3
  have hB3 : Below base w w3 := by rw [hw3]; exact below_row hB2.drew hb _
  have hln : (xs.take i ++ x :: xs.drop i).length = xs.length + 1 := by simp; omega
  have HF := Aside0.mk (show Kd.R k41 41 w3 base (fun _ => True) (.slice (some ⟨w.heap.size, 0, none⟩) (xs.length + 1) cp) (xs.take i ++ x :: xs.drop i) by
    have := im_R (base := base) (ok := fun _ => True) hI3 (by rw [hln]; exact hcp) hb trivial
    rwa [hln] at this)
  -- the cuts
  have hc1 : ∀ W : World, (Instr.slice 22 (.slice (some ⟨w.heap.size, 0, none⟩) (xs.length + 1) cp) (some (.int .i64 (i : Int))) none none).run Try.prog W = .ok (.slice (some ⟨w.heap.size, i * 3, none⟩) (xs.length + 1 - i) (cp - i)) W := fun W => by
    have := cut_from (P := Try.prog) 22 41 .i64 Try.underlying22 hi0 3 hsz0 (some ⟨w.heap.size, 0, none⟩) (xs.length + 1) cp (i : Int) (by omega) (by omega) W
    rw [Int.toNat_natCast, if_neg (by omega)] at this
    simpa [Addr.add_lit] using this
  have hc2 : ∀ W : World, (Instr.slice 22 (.slice (some ⟨w.heap.size, 0, none⟩) (xs.length + 1) cp) (some (.int .i64 ((i : Int) + 1))) none none).run Try.prog W = .ok (.slice (some ⟨w.heap.size, (i + 1) * 3, none⟩) (xs.length + 1 - (i + 1)) (cp - (i + 1))) W := fun W => by
    have := cut_from (P := Try.prog) 22 41 .i64 Try.underlying22 hi0 3 hsz0 (some ⟨w.heap.size, 0, none⟩) (xs.length + 1) cp ((i : Int) + 1) (by omega) (by omega) W
    rw [show ((i : Int) + 1).toNat = i + 1 by omega, if_neg (by omega)] at this
    simpa [Addr.add_lit] using this
  have hcut' : ∀ W : World, (Instr.slice 22 (.slice (some ⟨g, 0, none⟩) xs.length xs.length) (some (.int .i64 (i : Int))) none none).run Try.prog W = .ok (.slice (some ⟨g, i * 3, none⟩) (xs.length - i) (xs.length - i)) W := fun W => by
    simpa [Addr.add_lit] using hcut W
  refine (insert_grow_walk xs.length i cp w.heap.size g s w w1 w2 w3 hl hi hcp hcut' hct hz hc1 hcpy1 hc2 hcpy2).mono ?_
  rintro e w' ⟨rfl, rfl⟩
  exact ⟨_, rfl, HF.out, hB3⟩
theorem size41 (w : World) : (Go.sizeOf 41).run Try.prog w = .ok 3 w := by kernel_rfl
set_option maxHeartbeats 4000000 in
set_option maxRecDepth 100000 in
/-- Not at the end, there is room: the walk. -/
theorem insert_room_walk (n i cp g s : Nat) (w w1 w2 : World) (hn : n ≤ 1000000) (hi : i < n) (hcp : n + 1 ≤ cp) (hcm : cp ≤ maxLen)
    (hov : ∀ lb cb, (callFunc 70 #[.slice (some ⟨s, 0, none⟩) 1 1, .slice (some ⟨g, (i + 1) * 3, none⟩) lb cb]).run Try.prog w = .ok (.value (.bool false)) w)
    (hcpy1 : ∀ ty, (Builtin.copy_ #[22, 22] ty #[.slice (some ⟨g, (i + 1) * 3, none⟩) (n + 1 - (i + 1)) (cp - (i + 1)), .slice (some ⟨g, i * 3, none⟩) (n + 1 - i) (cp - i)]).run Try.prog w.drew = .ok (goInt ((n - i : Nat) : Int)) w1)
    (hcpy2 : ∀ ty, (Builtin.copy_ #[22, 22] ty #[.slice (some ⟨g, i * 3, none⟩) (n + 1 - i) (cp - i), .slice (some ⟨s, 0, none⟩) 1 1]).run Try.prog w1 = .ok (goInt 1) w2) :
    Calls Try.prog 49 #[.slice (some ⟨g, 0, none⟩) n cp, .int .i64 i, .slice (some ⟨s, 0, none⟩) 1 1] w fun e w' => e = .returned (.slice (some ⟨g, 0, none⟩) (n + 1) cp) ∧ w' = w2 := by
  have HC1 := Aside0.mk hcpy1
  have HC2 := Aside0.mk hcpy2
  have hcm' : cp ≤ 9223372036854775807 := hcm
  clear hcpy1 hcpy2 hcm
  have hw1 : IntKind.i64.wrap ((i : Int) + 1) = (i : Int) + 1 := by rw [IntKind.wrap_i64]; omega
  have hw2 : IntKind.i64.wrap ((n : Int) + 1) = (n : Int) + 1 := by rw [IntKind.wrap_i64]; omega
  have hb1 : (0 : Int) ≤ (i : Int) + 1 := by omega
  have hb0 : (i : Int) ≤ (n : Int) := by omega
  have hb5 : (i : Int) ≤ (n : Int) + 1 := by omega
  have hb3 : (i : Int) + 1 ≤ (n : Int) + 1 := by omega
  have htn : ((i : Int) + 1).toNat = i + 1 := by omega
  have htn2 : ((n : Int) + 1).toNat = n + 1 := by omega
  have hb2 : ¬ (cp = i + 1) := by omega
  have hb4 : ¬ (cp = i) := by omega
  have hin : i ≤ n := by omega
  go_enter Try.func49, Try.ntmps49
  go_upto_region 15 with (simp only [hov])
  (try go_frame)
  go_region_law (refine step_copy_runI rfl (.tmp 73) (.tmp 76) 22 22 rfl (.slice (some ⟨g, (i + 1) * 3, none⟩) (n + 1 - (i + 1)) (cp - (i + 1))) (.slice (some ⟨g, i * 3, none⟩) (n + 1 - i) (cp - i)) (by simp [Act.eval, Act.put]) (by simp [Act.eval, Act.put]) (HC1.out _) ?_)
  go_wp2_with (first | (refine wpList_copy_runI _ rfl (.tmp 80) (.tmp 81) 22 22 rfl (.slice (some ⟨g, i * 3, none⟩) (n + 1 - i) (cp - i)) (.slice (some ⟨s, 0, none⟩) 1 1) rfl rfl (HC2.out _) ?_))
  go_ret
  exact ⟨rfl, rfl⟩
/-- Not at the end, there is room. -/
theorem insert_room (xs : List S41) (x : S41) (s base g i cap : Nat) (rest : List Value) (w : World) (hI : Im w g cap (flat xs ++ rest)) (hs : w.heap[s]? = some (.cells #[.string x.f0, .bool x.f1, .string x.f2] 41)) (hne : s ≠ g) (hg : base ≤ g) (hl : xs.length ≤ 1000000) (hi : i < xs.length) (hcp : xs.length + 1 ≤ cap) :
    Calls Try.prog 49 #[.slice (some ⟨g, 0, none⟩) xs.length cap, .int .i64 i, .slice (some ⟨s, 0, none⟩) 1 1] w fun e w' => ∃ v' : Value, e = .returned v' ∧ Kd.R k41 41 w' base (fun _ => True) v' (xs.take i ++ x :: xs.drop i) ∧ Below base w w' := by
  have hslt := (Array.getElem?_eq_some_iff.1 hs).1
  have hlen : rest.length = (cap - xs.length) * 3 := by have := hI.2.1; rw [List.length_append, flat_length] at this; omega
  have hlt2 : (xs.take i).length = i := by rw [List.length_take]; omega
  have hdr : (flat (xs.drop i)).length = (xs.length - i) * 3 := by rw [flat_length, List.length_drop]
  have hov : ∀ lb cb, (callFunc 70 #[.slice (some ⟨s, 0, none⟩) 1 1, .slice (some ⟨g, (i + 1) * 3, none⟩) lb cb]).run Try.prog w = .ok (.value (.bool false)) w := fun lb cb => by
    rw [run_callFunc_extern Try.func70 (by kernel_rfl) (by kernel_rfl) (by kernel_rfl) (e := Extern.SlicesOverlaps.overlaps #[22, 22] #[4]) (by kernel_rfl),
      Lib.run_overlaps_apart w 22 4 41 Try.underlying22 3 size41 ⟨s, 0, none⟩ ⟨g, (i + 1) * 3, none⟩ 1 1 lb cb hne 41 41 3 (cap * 3) (by unfold World.shape?; rw [hs]; rfl) hI.shape (by omega) (by unfold World.frozen?; rw [hs]; rfl) (by unfold World.frozen?; rw [hs]; rfl)]
    rfl
  obtain ⟨y, hy⟩ : ∃ y, xs.drop i = y :: xs.drop (i + 1) := ⟨xs[i], List.drop_eq_getElem_cons hi⟩
  have e0 : flat xs ++ rest = flat (xs.take i ++ [y]) ++ (flat (xs.drop (i + 1)) ++ rest) := by
    rw [← List.append_assoc, ← flat_append, List.append_assoc, List.singleton_append, ← hy, List.take_append_drop]
  have hlt3 : (xs.take i ++ [y]).length = i + 1 := by rw [List.length_append, hlt2]; rfl
  have hd : ∀ base' W, Below base' W W.drew := fun _ W => (Below.refl _ W).drew
  have hID := hI.below (hd w.heap.size w)
  have hcpy1 : ∀ ty, (Builtin.copy_ #[22, 22] ty #[.slice (some ⟨g, (i + 1) * 3, none⟩) (xs.length + 1 - (i + 1)) (cap - (i + 1)), .slice (some ⟨g, i * 3, none⟩) (xs.length + 1 - i) (cap - i)]).run Try.prog w.drew = .ok (goInt ((xs.length - i : Nat) : Int)) (w.drew.setRow g (spliced (flat xs ++ rest) ((i + 1) * 3) (flat (xs.drop i))).toArray) := fun ty => by
    have hm : Nat.min (xs.length + 1 - i) (xs.length + 1 - (i + 1)) = xs.length - i := by rw [show xs.length + 1 - (i + 1) = xs.length - i by omega]; exact Nat.min_eq_right (by omega)
    have := run_copy41 hID ty ((i + 1) * 3) (xs.length + 1 - (i + 1)) (cap - (i + 1)) ⟨g, i * 3, none⟩ (xs.length + 1 - i) (cap - i) (flat (xs.drop i)) (by rw [hdr, hm]) (fun j v hj => by
      have h2 := hID.get (i * 3) ((xs.length - i) * 3) j v
      rw [List.drop_append_of_le_length (by rw [flat_length]; omega), flat_drop, List.take_append_of_le_length (by rw [hdr]; exact Nat.le_refl _), List.take_of_length_le (by rw [hdr]; exact Nat.le_refl _)] at h2
      exact h2 hj) (by rw [hdr, List.length_append, flat_length, hlen]; omega) (flat_one _)
    rwa [hm] at this
  have e1 : spliced (flat xs ++ rest) ((i + 1) * 3) (flat (xs.drop i)) = flat (xs.take i) ++ (cells3 y ++ (flat (xs.drop i) ++ rest.drop 3)) := by
    have := spliced_flat (xs.take i ++ [y]) (flat (xs.drop (i + 1)) ++ rest) (flat (xs.drop i))
    rw [hlt3] at this
    rw [e0, this, flat_append]
    have hd2 : (flat (xs.drop (i + 1)) ++ rest).drop (flat (xs.drop i)).length = rest.drop 3 := by
      rw [List.drop_append, List.drop_eq_nil_of_le (by rw [hdr, flat_length, List.length_drop]; omega), List.nil_append]
      congr 1
      rw [hdr, flat_length, List.length_drop]; omega
    rw [hd2]
    simp [flat, List.append_assoc]
  have hI1 := hID.put ((i + 1) * 3) (flat (xs.drop i)) (by rw [hdr, List.length_append, flat_length, hlen]; omega)
  rw [e1] at hcpy1 hI1
  obtain ⟨w1, hw1⟩ : ∃ w1, w1 = w.drew.setRow g (flat (xs.take i) ++ (cells3 y ++ (flat (xs.drop i) ++ rest.drop 3))).toArray := ⟨_, rfl⟩
  rw [← hw1] at hcpy1 hI1
  have hB1 : Below base w w1 := by rw [hw1]; exact below_row (Below.refl _ _).drew hg _
  have hs1 : w1.heap[s]? = some (.cells #[.string x.f0, .bool x.f1, .string x.f2] 41) := by rw [hw1, setRow_other _ _ _ _ hne]; exact hs
  have hcl : (cells3 y).length = 3 := rfl
  have hcpy2 : ∀ ty, (Builtin.copy_ #[22, 22] ty #[.slice (some ⟨g, i * 3, none⟩) (xs.length + 1 - i) (cap - i), .slice (some ⟨s, 0, none⟩) 1 1]).run Try.prog w1 = .ok (goInt 1) (w1.setRow g (spliced (flat (xs.take i) ++ (cells3 y ++ (flat (xs.drop i) ++ rest.drop 3))) (i * 3) (cells3 x)).toArray) := fun ty => by
    have hm : Nat.min 1 (xs.length + 1 - i) = 1 := Nat.min_eq_left (by omega)
    have := run_copy41 hI1 ty (i * 3) (xs.length + 1 - i) (cap - i) ⟨s, 0, none⟩ 1 1 (cells3 x) (by rw [hm]; rfl) (cells3_get hs1) (by rw [List.length_append, flat_length, hlt2, List.length_append, hcl]; show i * 3 + 3 ≤ _; omega) (cells3_one x)
    rwa [hm] at this
  have e2 : spliced (flat (xs.take i) ++ (cells3 y ++ (flat (xs.drop i) ++ rest.drop 3))) (i * 3) (cells3 x) = flat (xs.take i ++ x :: xs.drop i) ++ rest.drop 3 := by
    have := spliced_flat (xs.take i) (cells3 y ++ (flat (xs.drop i) ++ rest.drop 3)) (cells3 x)
    rw [hlt2] at this
    rw [this, show (cells3 x).length = (cells3 y).length from rfl, List.drop_left, flat_append, flat_cons]
    simp [List.append_assoc]
  have hI2 := hI1.put (i * 3) (cells3 x) (by rw [List.length_append, flat_length, hlt2, List.length_append, hcl]; show i * 3 + 3 ≤ _; omega)
  rw [e2] at hcpy2 hI2
  have hln : (xs.take i ++ x :: xs.drop i).length = xs.length + 1 := by simp; omega
  refine (insert_room_walk xs.length i cap g s w w1 _ hl hi hcp hI.2.2 hov hcpy1 hcpy2).mono ?_
  rintro e w' ⟨rfl, rfl⟩
  have := im_R (base := base) (ok := fun _ => True) hI2 (by rw [hln]; exact hcp) hg trivial
  rw [hln] at this
  exact ⟨_, rfl, this, below_row hB1 hg _⟩
/-- slices.Insert(row, i, x). -/
theorem insert_calls (xs : List S41) (x : S41) (s base i : Nat) (v : Value) (w : World) (hR : Kd.R k41 41 w base (fun k => k ≠ s) v xs) (hs : w.heap[s]? = some (.cells #[.string x.f0, .bool x.f1, .string x.f2] 41)) (hb : base ≤ w.heap.size) (hl : xs.length ≤ 1000000) (hi : i ≤ xs.length) :
    Calls Try.prog 49 #[v, .int .i64 i, .slice (some ⟨s, 0, none⟩) 1 1] w fun e w' => ∃ v' : Value, e = .returned v' ∧ Kd.R k41 41 w' base (fun _ => True) v' (xs.take i ++ x :: xs.drop i) ∧ Below base w w' := by
  by_cases he : i = xs.length
  · subst he
    rw [List.take_length, List.drop_length]
    exact insert_end xs x s base v w (Kd.R_mono hR (fun _ _ => trivial)) hs hb hl
  · have hi' : i < xs.length := by omega
    rcases R_im hR with ⟨rfl, _⟩ | ⟨g, cap, rest, rfl, hgs, hg, hlc, hI⟩
    · simp at hi'
    · by_cases hcp : xs.length + 1 ≤ cap
      · exact insert_room xs x s base g i cap rest w hI hs (Ne.symm hgs) hg hl hi' hcp
      · have hce : cap = xs.length := by omega
        subst hce
        have hr : rest = [] := by
          have := hI.2.1
          rw [List.length_append, flat_length] at this
          exact List.eq_nil_of_length_eq_zero (by omega)
        subst hr
        rw [List.append_nil] at hI
        exact insert_grow xs x s base g i w hI hs hb hl hi'
end Go.Proofs.Yteblpjnkinghoaa.J
/- The contract of slices.Delete at images, one element, of a row of the call's own. -/
namespace Go.Proofs.Yteblpjnkinghoaa.J
open Go.BigFrame Go.RowKit Go.Proofs.YteblpjnkinghoaaW.PrintWords Go.Proofs.YteblpjnkinghoaaW.PrintLast Go.Proofs.YteblpjnkinghoaaW.PrintMore
/-- An append whose run is known, as one step of a region that draws. -/
theorem step_append_runI {P : Program} {ops : Array Oper} {o : Oper} {a : Act} {w : World} {K : Act → World → Prop} {Q : Exit → Act → World → Prop} {E : Prop}
    (hg : o.guard = none) (d x : Operand) (dT sT : TypeId) (hop : o.op = Op.call { callee := Callee.builtin Builtin.append, args := #[d, x], argTypes := #[dT, sT] })
    (v u : Value) (hd : a.eval d = v) (hx : a.eval x = u) {v' : Value} {w' : World} (hr : (Builtin.append_ #[dT, sT] o.type #[v, u]).run P w = .ok v' w') (hK : K (a.put o.dst v') w') :
    if Region.wanted o (yielded ops a.tmps) = true then Oper.wp P o a w K Q else E := by
  have hw : Region.wanted o (yielded ops a.tmps) = true := by simp [Region.wanted, hg]
  rw [if_pos hw]
  unfold Oper.wp
  simp [execOp, hop, resolve, invoke, builtin, hd, hx, hr, Result.andThen]
  exact hK
/-- A clear whose run is known. -/
theorem wpList_clear_runI {P : Program} (w : World) {ops : Array Oper} {rest : List Oper} {o : Oper} {a : Act} {Q : Exit → Act → World → Prop} (hgd : o.guard = none) (d : Operand) (t : TypeId)
    (ho : o.op = .call { callee := .builtin .clear, args := #[d], argTypes := #[t] }) (v : Value) (hd : a.eval d = v) {v' : Value} {w' : World}
    (hr : (Builtin.clear_ #[t] o.type #[v]).run P w = .ok v' w') (h : wpList P ops Q rest (a.put o.dst v') w') : wpList P ops Q (o :: rest) a w :=
  wpList_plain hgd fun _ hK => by
    unfold Oper.wp execOp
    simp only [ho, resolve, invoke, builtin, Sem.run_bind, Sem.run_pure, Result.andThen_ok, List.map_toArray, List.map_cons, List.map_nil, hd, hr]
    exact hK _ _ h
set_option maxHeartbeats 4000000 in
set_option maxRecDepth 100000 in
/-- The walk; there is something behind the row's one. -/
theorem delete_walk (n i cp g : Nat) (w w1 w2 : World) (hn : n ≤ 1000000) (hi : i < n) (hcp : n ≤ cp) (hcm : cp ≤ maxLen) (hb2 : ¬ (cp = i + 1))
    (happ : ∀ ty, (Builtin.append_ #[22, 22] ty #[.slice (some ⟨g, 0, none⟩) i cp, .slice (some ⟨g, (i + 1) * 3, none⟩) (n - (i + 1)) (cp - (i + 1))]).run Try.prog w.drew = .ok (.slice (some ⟨g, 0, none⟩) (n - 1) cp) w1)
    (hclr : ∀ ty, (Builtin.clear_ #[22] ty #[.slice (some ⟨g, (n - 1) * 3, none⟩) 1 (cp - (n - 1))]).run Try.prog w1 = .ok (.tuple #[]) w2) :
    Calls Try.prog 50 #[.slice (some ⟨g, 0, none⟩) n cp, .int .i64 i, .int .i64 ((i : Int) + 1)] w fun e w' => e = .returned (.slice (some ⟨g, 0, none⟩) (n - 1) cp) ∧ w' = w2 := by
  have HC1 := Aside0.mk happ
  have HC2 := Aside0.mk hclr
  have hcm' : cp ≤ 9223372036854775807 := hcm
  clear happ hclr hcm
  have hb1 : (0 : Int) ≤ (i : Int) + 1 := by omega
  have hb0 : (i : Int) ≤ (n : Int) := by omega
  have hb3 : (i : Int) + 1 ≤ (n : Int) := by omega
  have htn : ((i : Int) + 1).toNat = i + 1 := by omega
  have hb4 : ¬ (cp = i) := by omega
  have hb6 : ((i : Int) == (i : Int) + 1) = false := by rw [Bool.eq_false_iff]; simp; omega
  have hb7 : ¬ ((i : Int) = (i : Int) + 1) := by omega
  have hin : i ≤ n := by omega
  have hb8 : (i : Int) ≤ (cp : Int) := by omega
  have hb9 : i ≤ cp := by omega
  go_enter Try.func50, Try.ntmps50
  go_upto_region 5 with (fail)
  go_region_law (refine step_append_runI rfl (.tmp 22) (.tmp 25) 22 22 rfl (.slice (some ⟨g, 0, none⟩) i cp) (.slice (some ⟨g, (i + 1) * 3, none⟩) (n - (i + 1)) (cp - (i + 1))) (by simp [Act.eval, Act.put]) (by simp [Act.eval, Act.put]) (HC1.out _) ?_)
  obtain ⟨m, rfl⟩ : ∃ m, n = m + 1 := ⟨n - 1, by omega⟩
  simp only [Nat.add_sub_cancel] at HC2 ⊢
  have hm1 : (0 : Int) ≤ (m : Int) := by omega
  have hm2 : (m : Int) ≤ (m : Int) + 1 := by omega
  have hm3 : (m : Int) + 1 ≤ (cp : Int) := by omega
  have hm4 : ¬ (cp = m) := by omega
  have hm5 : m + 1 - m = 1 := by omega
  go_wp2_with (first | (refine wpList_clear_runI _ rfl (.tmp 31) 22 rfl (.slice (some ⟨g, m * 3, none⟩) 1 (cp - m)) ?hd (HC2.out _) ?_; (case hd => simp [Act.eval, Act.put])))
  go_ret
  exact ⟨rfl, rfl⟩
set_option maxHeartbeats 4000000 in
set_option maxRecDepth 100000 in
/-- The walk; the row is full, its last goes. -/
theorem delete_walk_last (i g : Nat) (w w1 w2 : World) (hn : i ≤ 1000000)
    (happ : ∀ ty, (Builtin.append_ #[22, 22] ty #[.slice (some ⟨g, 0, none⟩) i (i + 1), .slice (some ⟨g, 0, none⟩) 0 0]).run Try.prog w.drew = .ok (.slice (some ⟨g, 0, none⟩) i (i + 1)) w1)
    (hclr : ∀ ty, (Builtin.clear_ #[22] ty #[.slice (some ⟨g, i * 3, none⟩) 1 1]).run Try.prog w1 = .ok (.tuple #[]) w2) :
    Calls Try.prog 50 #[.slice (some ⟨g, 0, none⟩) (i + 1) (i + 1), .int .i64 i, .int .i64 ((i : Int) + 1)] w fun e w' => e = .returned (.slice (some ⟨g, 0, none⟩) i (i + 1)) ∧ w' = w2 := by
  have HC1 := Aside0.mk happ
  have HC2 := Aside0.mk hclr
  clear happ hclr
  have hb1 : (0 : Int) ≤ (i : Int) + 1 := by omega
  have hb0 : (i : Int) ≤ (i : Int) + 1 := by omega
  have htn : ((i : Int) + 1).toNat = i + 1 := by omega
  have hb4 : ¬ (i + 1 = i) := by omega
  have hb6 : ((i : Int) == (i : Int) + 1) = false := by rw [Bool.eq_false_iff]; simp; omega
  have hb7 : ¬ ((i : Int) = (i : Int) + 1) := by omega
  have hb9 : i ≤ i + 1 := by omega
  have hm5 : i + 1 - i = 1 := by omega
  go_enter Try.func50, Try.ntmps50
  go_upto_region 5 with (fail)
  go_region_law (refine step_append_runI rfl (.tmp 22) (.tmp 25) 22 22 rfl (.slice (some ⟨g, 0, none⟩) i (i + 1)) (.slice (some ⟨g, 0, none⟩) 0 0) (by simp [Act.eval, Act.put]) (by simp [Act.eval, Act.put]) (HC1.out _) ?_)
  go_wp2_with (first | (refine wpList_clear_runI _ rfl (.tmp 31) 22 rfl (.slice (some ⟨g, i * 3, none⟩) 1 1) ?hd (HC2.out _) ?_; (case hd => simp [Act.eval, Act.put])))
  go_ret
  exact ⟨rfl, rfl⟩
/-- append(s[:i], s[i + 1:]...): in place. -/
theorem run_append41_room {w : World} {g cap : Nat} {cs : List Value} (h : Im w g cap cs) (ty : TypeId) (sLen m c : Nat) (a : Addr) (vs : List Value) (hl : vs.length = m * 3) (hn : ∀ j u, vs[j]? = some u → w.cell? (a.add j) = some u) (h1 : ∀ u ∈ vs, u.oneCell' = true)
    (hroom : sLen + m ≤ cap) : (Builtin.append_ #[22, 22] ty #[.slice (some ⟨g, 0, none⟩) sLen cap, .slice (some a) m c]).run Try.prog w = .ok (.slice (some ⟨g, 0, none⟩) (sLen + m) cap) (w.setRow g (spliced cs (sLen * 3) vs).toArray) := by
  obtain ⟨i, hi, hz, _, _⟩ := info41p
  have := run_append_room (P := Try.prog) w 22 ty 41 i Try.underlying22 hi g sLen cap cs.toArray h.1 a m c vs (by rw [hl, hz]) hn h1 hroom (by rw [hl, hz, List.size_toArray, h.2.1]; omega)
  rw [hz] at this
  exact this
/-- slices.Delete(row, i, i + 1). -/
theorem delete_calls (xs : List S41) (base i : Nat) (v : Value) (w : World) (hR : Kd.R k41 41 w base (fun _ => True) v xs) (hl : xs.length ≤ 1000000) (hi : i < xs.length) :
    Calls Try.prog 50 #[v, .int .i64 i, .int .i64 ((i : Int) + 1)] w fun e w' => ∃ v' : Value, e = .returned v' ∧ Kd.R k41 41 w' base (fun _ => True) v' (xs.take i ++ xs.drop (i + 1)) ∧ Below base w w' := by
  rcases R_im hR with ⟨rfl, _⟩ | ⟨g, cap, rest, rfl, _, hg, hlc, hI⟩
  · simp at hi
  have hlen : rest.length = (cap - xs.length) * 3 := by have := hI.2.1; rw [List.length_append, flat_length] at this; omega
  have hlt2 : (xs.take i).length = i := by rw [List.length_take]; omega
  have hdr : (flat (xs.drop (i + 1))).length = (xs.length - (i + 1)) * 3 := by rw [flat_length, List.length_drop]
  have hID := hI.below ((Below.refl w.heap.size w).drew)
  obtain ⟨y, hy⟩ : ∃ y, xs.drop i = y :: xs.drop (i + 1) := ⟨xs[i], List.drop_eq_getElem_cons hi⟩
  have e0 : flat xs ++ rest = flat (xs.take i) ++ (flat (xs.drop i) ++ rest) := by rw [← List.append_assoc, ← flat_append, List.take_append_drop]
  have hln : (xs.take i ++ xs.drop (i + 1)).length = xs.length - 1 := by rw [List.length_append, hlt2, List.length_drop]; omega
  -- what is left behind the row's new end: the cells of one image, then what was spare
  obtain ⟨L, hL3, e1⟩ : ∃ L : List Value, L.length = 3 ∧ spliced (flat xs ++ rest) (i * 3) (flat (xs.drop (i + 1))) = flat (xs.take i ++ xs.drop (i + 1)) ++ (L ++ rest) := by
    have h1 := spliced_flat (xs.take i) (flat (xs.drop i) ++ rest) (flat (xs.drop (i + 1)))
    rw [hlt2] at h1
    have hld : (flat (xs.drop i)).length = (xs.length - i) * 3 := by rw [flat_length, List.length_drop]
    refine ⟨(flat (xs.drop i)).drop (flat (xs.drop (i + 1))).length, ?_, ?_⟩
    · rw [List.length_drop, hdr, hld]; omega
    · rw [e0, h1, flat_append, List.drop_append_of_le_length (by rw [hdr, hld]; omega)]
  have hI1 := hID.put (i * 3) (flat (xs.drop (i + 1))) (by rw [hdr, List.length_append, flat_length, hlen]; omega)
  rw [e1] at hI1
  obtain ⟨w1, hw1⟩ : ∃ w1, w1 = w.drew.setRow g (flat (xs.take i ++ xs.drop (i + 1)) ++ (L ++ rest)).toArray := ⟨_, rfl⟩
  rw [← hw1] at hI1
  have hB1 : Below base w w1 := by rw [hw1]; exact below_row (Below.refl _ _).drew hg _
  have hz : (Builtin.zeroCells (Value.agg #[(.string ⟨#[]⟩), (.bool false), (.string ⟨#[]⟩)]).cells 1).toList.length = 3 := by rw [Array.length_toList, zeroCells3_length]
  have hlf : (xs.length - 1) * 3 + 1 * 3 ≤ (flat (xs.take i ++ xs.drop (i + 1)) ++ (L ++ rest)).length := by rw [List.length_append, flat_length, hln, List.length_append, hL3]; omega
  have hclr : ∀ ty c, (Builtin.clear_ #[22] ty #[.slice (some ⟨g, (xs.length - 1) * 3, none⟩) 1 c]).run Try.prog w1 = _ := fun ty c => run_clear41 hI1 ty ((xs.length - 1) * 3) 1 c (by decide) hlf
  have hI2 := hI1.put ((xs.length - 1) * 3) (Builtin.zeroCells (Value.agg #[(.string ⟨#[]⟩), (.bool false), (.string ⟨#[]⟩)]).cells 1).toList (by rw [hz]; exact hlf)
  have e2 := spliced_flat (xs.take i ++ xs.drop (i + 1)) (L ++ rest) (Builtin.zeroCells (Value.agg #[(.string ⟨#[]⟩), (.bool false), (.string ⟨#[]⟩)]).cells 1).toList
  rw [hln] at e2
  rw [e2, List.append_assoc] at hI2
  rw [e2] at hclr
  have hfin : ∀ w', w' = w1.setRow g (flat (xs.take i ++ xs.drop (i + 1)) ++ (Builtin.zeroCells (Value.agg #[(.string ⟨#[]⟩), (.bool false), (.string ⟨#[]⟩)]).cells 1).toList ++ (L ++ rest).drop (Builtin.zeroCells (Value.agg #[(.string ⟨#[]⟩), (.bool false), (.string ⟨#[]⟩)]).cells 1).toList.length).toArray →
      Kd.R k41 41 w' base (fun _ => True) (.slice (some ⟨g, 0, none⟩) (xs.length - 1) cap) (xs.take i ++ xs.drop (i + 1)) ∧ Below base w w' := fun w' hw' => by
    subst hw'
    have := im_R (base := base) (ok := fun _ => True) (w := w1.setRow g (flat (xs.take i ++ xs.drop (i + 1)) ++ (Builtin.zeroCells (Value.agg #[(.string ⟨#[]⟩), (.bool false), (.string ⟨#[]⟩)]).cells 1).toList ++ (L ++ rest).drop (Builtin.zeroCells (Value.agg #[(.string ⟨#[]⟩), (.bool false), (.string ⟨#[]⟩)]).cells 1).toList.length).toArray) (by rw [List.append_assoc]; exact hI2) (by rw [hln]; omega) hg trivial
    rw [hln] at this
    exact ⟨this, below_row hB1 hg _⟩
  by_cases hc : cap = i + 1
  · have hxl : xs.length = i + 1 := by omega
    have happ : ∀ ty, (Builtin.append_ #[22, 22] ty #[.slice (some ⟨g, 0, none⟩) i (i + 1), .slice (some ⟨g, 0, none⟩) 0 0]).run Try.prog w.drew = .ok (.slice (some ⟨g, 0, none⟩) i (i + 1)) w1 := fun ty => by
      have hnil : xs.drop (i + 1) = [] := List.drop_eq_nil_of_le (by omega)
      have := run_append41_room hID ty i 0 0 ⟨g, 0, none⟩ [] rfl (by simp) (by simp) (by omega)
      rw [hnil] at e1
      rw [show flat ([] : List S41) = [] from rfl] at e1
      rw [e1, Nat.add_zero, hc] at this
      rw [hw1, hnil]
      exact this
    rw [hxl, hc]
    refine (delete_walk_last i g w w1 _ (by omega) happ (fun ty => by have := hclr ty 1; rw [hxl, Nat.add_sub_cancel] at this; exact this)).mono ?_
    rintro e w' ⟨rfl, hw'⟩
    have := hfin w' hw'
    rw [hxl, Nat.add_sub_cancel, hc] at this
    exact ⟨_, rfl, this⟩
  · have happ : ∀ ty, (Builtin.append_ #[22, 22] ty #[.slice (some ⟨g, 0, none⟩) i cap, .slice (some ⟨g, (i + 1) * 3, none⟩) (xs.length - (i + 1)) (cap - (i + 1))]).run Try.prog w.drew = .ok (.slice (some ⟨g, 0, none⟩) (xs.length - 1) cap) w1 := fun ty => by
      have := run_append41_room hID ty i (xs.length - (i + 1)) (cap - (i + 1)) ⟨g, (i + 1) * 3, none⟩ (flat (xs.drop (i + 1))) hdr (fun j u hj => by
        have h2 := hID.get ((i + 1) * 3) ((xs.length - (i + 1)) * 3) j u
        rw [List.drop_append_of_le_length (by rw [flat_length]; omega), flat_drop, List.take_append_of_le_length (by rw [hdr]; exact Nat.le_refl _), List.take_of_length_le (by rw [hdr]; exact Nat.le_refl _)] at h2
        exact h2 hj) (flat_one _) (by omega)
      rw [e1, show i + (xs.length - (i + 1)) = xs.length - 1 by omega, ← hw1] at this
      exact this
    refine (delete_walk xs.length i cap g w w1 _ hl hi hlc hI.2.2 hc happ (fun ty => hclr ty _)).mono ?_
    rintro e w' ⟨rfl, hw'⟩
    exact ⟨_, rfl, hfin w' hw'⟩
end Go.Proofs.Yteblpjnkinghoaa.J
/- The contracts of slices.ContainsFunc, slices.Clone and slices.BinarySearchFunc at images, as journal.Apply calls them. -/
namespace Go.Proofs.Yteblpjnkinghoaa.J
open Go.BigFrame Go.RowKit Go.Proofs.YteblpjnkinghoaaW.PrintWords Go.Proofs.YteblpjnkinghoaaW.PrintLast Go.Proofs.YteblpjnkinghoaaW.PrintMore
theorem not_img_calls (x : S41) (w : World) : Calls Try.prog 43 #[.agg #[.string x.f0, .bool x.f1, .string x.f2]] w fun e w' => e = .returned (.bool (!img x)) ∧ Below w.heap.size w w' := by
  have hnot : ∀ (x : Bool) (w : World), (Op.unary .not (.bool x)).run Try.prog w = .ok (.bool (!x)) w := fun _ _ => rfl
  go_enter Try.func43, Try.ntmps43
  go_wp2_with fail
  refine (img_calls x _).mono ?_
  rintro e w1 ⟨rfl, hb⟩
  go_wp2
  go_ret
  exact ⟨rfl, below_step ((Below.refl _ _).alloc (Nat.le_refl _) _) hb⟩
/-- The first image of which p holds, from k on. -/
def idx41 (p : S41 → Bool) : List S41 → Int → Int
  | [], _ => -1
  | n :: l, k => if p n then k else idx41 p l (k + 1)
theorem idx41_any (p : S41 → Bool) : ∀ (l : List S41) (k : Int), 0 ≤ k → decide (0 ≤ idx41 p l k) = l.any p
  | [], _, _ => rfl
  | n :: l, k, h => by
    unfold idx41
    rw [List.any_cons]
    cases hp : p n
    · simpa using idx41_any p l (k + 1) (by omega)
    · simp [h]
theorem index41_calls (A0 : Option Addr) (c0 : Nat) (l0 : List S41) (w : World) (hr0 : Kd.C k41 w A0 l0.length l0) :
    Calls Try.prog 68 #[.slice A0 l0.length c0, .func (.func 43) #[] #[]] w fun e w' => e = .returned (.int .i64 (idx41 (fun n => !img n) l0 0)) ∧ Below w.heap.size w w' := by
  have HR0 := Aside0.mk hr0
  have hlm : l0.length ≤ 9223372036854775807 := Kd.C_max hr0
  clear hr0
  go_enter Try.func68, Try.ntmps68
  go_wp2
  go_loopg [8] (l0.length + 1) (fun kq v8 w' => ∃ k : Nat, k ≤ l0.length ∧ v8 = .int .i64 k ∧ Aside0 (kq + k = l0.length + 1) ∧ Aside0 (idx41 (fun n => !img n) l0 0 = idx41 (fun n => !img n) (l0.drop k) k) ∧ Aside0 (Below w.heap.size w w'))
  case atStart => exact ⟨0, Nat.zero_le _, rfl, ⟨by omega⟩, ⟨by simp⟩, ⟨Below.refl _ _⟩⟩
  case round =>
    obtain ⟨k, hk, rfl, HQ, HX, HB⟩ := hrel
    by_cases hlt : k < l0.length
    · obtain ⟨ad, rfl, h0, h1, h2⟩ := at_T41 (Kd.C_below HR0.out HB.out) (k : Int) (by omega) (by omega)
      rw [Int.toNat_natCast] at h0 h1 h2
      have hd := drop_rd41 hlt
      generalize rd_T41 l0 (k : Int) = n at h0 h1 h2 hd
      have HX' := Aside0.mk (HX.out.trans (congrArg (fun l => idx41 (fun n => !img n) l k) hd))
      clear hd HX
      have HC := Aside0.mk (fun w => not_img_calls n w)
      cases hv : img n
      · rw [hv] at HC
        have HY := Aside0.mk (HX'.out.trans (show idx41 (fun n => !img n) (n :: l0.drop (k + 1)) k = k by unfold idx41; rw [hv]; rfl))
        clear hv HX'
        go_wp2_with (go_at_call 43; refine (HC.out _).mono ?_; rintro e w1 ⟨rfl, hb⟩)
        go_ret
        exact ⟨by rw [HY.out]; rfl, below_step HB.out hb⟩
      · rw [hv] at HC
        have HY := Aside0.mk (HX'.out.trans (show idx41 (fun n => !img n) (n :: l0.drop (k + 1)) k = idx41 (fun n => !img n) (l0.drop (k + 1)) (k + 1) by rw [idx41]; rw [hv]; rfl))
        clear hv HX'
        go_wp2_with (go_at_call 43; refine (HC.out _).mono ?_; rintro e w1 ⟨rfl, hb⟩)
        go_roundg (gk - 1)
        case measure => have := HQ.out; omega
        case rel => exact ⟨k + 1, by omega, by go_num, ⟨by have := HQ.out; omega⟩, ⟨by rw [HY.out]; rfl⟩, ⟨below_step HB.out hb⟩⟩
    · have hke : k = l0.length := by omega
      subst hke
      have HY := Aside0.mk (HX.out.trans (show idx41 (fun n => !img n) (l0.drop l0.length) l0.length = -1 by rw [List.drop_length]; rfl))
      clear HX
      go_wp2
      go_ret
      exact ⟨by rw [HY.out]; rfl, HB.out⟩
theorem contains41_calls (A0 : Option Addr) (c0 : Nat) (l0 : List S41) (w : World) (hr0 : Kd.C k41 w A0 l0.length l0) :
    Calls Try.prog 42 #[.slice A0 l0.length c0, .func (.func 43) #[] #[]] w fun e w' => e = .returned (.bool (!l0.all img)) ∧ Below w.heap.size w w' := by
  have HR0 := Aside0.mk hr0
  clear hr0
  have HI := Aside0.mk ((idx41_any (fun n => !img n) l0 0 (by omega)).trans (show l0.any (fun n => !img n) = !l0.all img by rw [List.all_eq_not_any_not, Bool.not_not]))
  go_enter Try.func42, Try.ntmps42
  go_wp2_with (go_at_call 68; refine (index41_calls _ _ _ _ HR0.out).mono ?_; rintro e w1 ⟨rfl, hb⟩)
  go_ret
  exact ⟨by rw [← HI.out]; rfl, hb⟩
set_option maxRecDepth 100000 in
/-- slices.Clone. -/
theorem clone_calls (A0 : Option Addr) (c0 : Nat) (l0 : List S41) (w : World) (hr0 : Kd.C k41 w A0 l0.length l0) (hl : l0.length ≤ 1000000) :
    Calls Try.prog 45 #[.slice A0 l0.length c0] w fun e w' => ∃ v : Value, e = .returned v ∧ Kd.R k41 41 w' w.heap.size (fun _ => True) v l0 ∧ Below w.heap.size w w' := by
  have q22 : ∀ (w : World) (a : Option Addr) (n c n' c' : Nat), (binOp .eql 22 (.slice a n c) (.slice none n' c')).run Try.prog w = .ok (.bool a.isNone) w := fun w a n c n' c' => Lib.run_eql_slice_nil w _ _ a n c n' c' Try.underlying22
  cases A0 with
  | none =>
    have h0 : l0 = [] := by
      cases l0 with
      | nil => rfl
      | cons x l => obtain ⟨ad, h, _⟩ := hr0.2.2 (by simp); cases h
    subst h0
    clear hr0
    go_enter Try.func45, Try.ntmps45
    go_wp2
    go_ret
    exact ⟨_, rfl, Kd.R_nil _ _ _ _ _, Below.refl _ _⟩
  | some ad =>
    have HR0 := Aside0.mk hr0
    clear hr0
    go_enter Try.func45, Try.ntmps45
    go_wp2_with (first | (at_builtin; refine Kd.R_append_rows k41 (Rr := k41.K w) (w0 := w) w.heap.size rfl (.tmp 5) (.tmp 6) 22 41 (.agg #[(.string ⟨#[]⟩), (.bool false), (.string ⟨#[]⟩)]) 40 rfl Try.underlying22 info41 rfl (by decide) (by decide) _ [] l0 (some ad) l0.length c0 (fun _ => True) (fun _ => False) rfl rfl ?aO ?aR ?aK (fun _ hk => hk.elim) (fun _ _ => trivial) ?aB ?aS ?aL ?_; (case aO => exact R_lit0 w w.heap.size _ (Nat.le_refl _) trivial); (case aR => exact ReadsRow.imp_ HR0.out ((Below.refl _ _).alloc (Nat.le_refl _) _) (fun _ _ hp => hp)); (case aK => exact fun x cs hx => k41_KM _ _ _ x cs hx); (case aB => exact (Below.refl _ _).alloc (Nat.le_refl _) _); (case aS => simp); (case aL => simp; omega); intro v1 w1 ho hb _ _; rw [List.nil_append] at ho))
    go_ret
    exact ⟨_, rfl, ho, hb⟩
/-- strings.Compare's number. -/
def cmpV (a b : ByteArray) : Int := Lib.compareBytes a.data.toList b.data.toList
theorem compare0_calls (a b : ByteArray) (w : World) : Calls Try.prog 69 #[.string a, .string b] w fun e w' => e = .returned (.int .i64 (cmpV a b)) ∧ Below w.heap.size w w' := by
  have hc : (callFunc 84 #[.string a, .string b]).run Try.prog w = .ok (.value (.int .i64 (cmpV a b))) w := by
    rw [run_callFunc_extern Try.func84 (by kernel_rfl) (by kernel_rfl) (by kernel_rfl) (e := Extern.BytealgCompare.compare) (by kernel_rfl), Lib.run_compareString]
    rfl
  go_enter Try.func69, Try.ntmps69
  go_wp2_with (simp only [hc])
  go_ret
  exact ⟨rfl, Below.refl _ _⟩
theorem compare_calls (a b : ByteArray) (w : World) : Calls Try.prog 48 #[.string a, .string b] w fun e w' => e = .returned (.int .i64 (cmpV a b)) ∧ Below w.heap.size w w' := by
  go_enter Try.func48, Try.ntmps48
  go_wp2_with fail
  refine (compare0_calls a b _).mono ?_
  rintro e w1 ⟨rfl, hb⟩
  go_wp2
  go_ret
  exact ⟨rfl, hb⟩
theorem cmp_calls (x : S41) (k : ByteArray) (w : World) : Calls Try.prog 47 #[.agg #[.string x.f0, .bool x.f1, .string x.f2], .string k] w fun e w' => e = .returned (.int .i64 (cmpV x.f0 k)) ∧ Below w.heap.size w w' := by
  go_enter Try.func47, Try.ntmps47
  go_wp2_with fail
  refine (compare_calls x.f0 k _).mono ?_
  rintro e w1 ⟨rfl, hb⟩
  go_wp2
  go_ret
  exact ⟨rfl, below_step ((Below.refl _ _).alloc (Nat.le_refl _) _) hb⟩
theorem cmpB_less : ∀ (a b : List UInt8), decide (Lib.compareBytes a b < 0) = Op.bytesLess a b
  | [], [] => rfl
  | [], _ :: _ => rfl
  | _ :: _, [] => rfl
  | x :: a, y :: b => by
    unfold Lib.compareBytes Op.bytesLess
    by_cases h1 : x < y
    · simp [h1]
    · by_cases h2 : y < x
      · have hne : ¬ (x = y) := fun e => by subst e; exact h1 h2
        simp [h1, h2, hne]
      · have he : x = y := UInt8.le_antisymm (UInt8.not_lt.1 h2) (UInt8.not_lt.1 h1)
        subst he
        simp [h1, cmpB_less a b]
theorem cmpB_eq : ∀ (a b : List UInt8), Lib.compareBytes a b = 0 ↔ a = b
  | [], [] => by simp [Lib.compareBytes]
  | [], _ :: _ => by simp [Lib.compareBytes]
  | _ :: _, [] => by simp [Lib.compareBytes]
  | x :: a, y :: b => by
    unfold Lib.compareBytes
    by_cases h1 : x < y
    · have hne : ¬ (x = y) := fun e => by subst e; exact UInt8.lt_irrefl _ h1
      simp [h1, hne]
    · by_cases h2 : y < x
      · have hne : ¬ (x = y) := fun e => by subst e; exact h1 h2
        simp [h1, h2, hne]
      · have he : x = y := UInt8.le_antisymm (UInt8.not_lt.1 h2) (UInt8.not_lt.1 h1)
        subst he
        simp [h1, cmpB_eq a b]
theorem cmpV_less (a b : ByteArray) : decide (cmpV a b < 0) = kless a b := by
  unfold cmpV kless
  rw [cmpB_less, ByteArray.toList_eq, ByteArray.toList_eq]
theorem cmpV_eq (a b : ByteArray) : cmpV a b = 0 ↔ a = b := by
  unfold cmpV
  rw [cmpB_eq]
  cases a; cases b
  simp
/-- Where a key's place is. -/
def kpos (xs : List S41) (k : ByteArray) : Nat := (xs.takeWhile fun y => kless y.f0 k).length
def kthere (xs : List S41) (k : ByteArray) : Bool := decide (kpos xs k < xs.length) && decide ((rd_T41 xs (kpos xs k)).f0 = k)
set_option maxHeartbeats 1000000 in
set_option maxRecDepth 100000 in
/-- slices.BinarySearchFunc, where what stands before the key's place stands at the beginning. -/
theorem search_calls (xs : List S41) (key : ByteArray) (A : Option Addr) (c : Nat) (w : World) (hC : Kd.C k41 w A xs.length xs) (hl : xs.length ≤ 1000000)
    (hs : ∀ t, kpos xs key ≤ t → t < xs.length → kless (rd_T41 xs (t : Int)).f0 key = false) :
    Calls Try.prog 46 #[.slice A xs.length c, .string key, .func (.func 47) #[] #[]] w fun e w' => e = .returned (.tuple #[.int .i64 (kpos xs key), .bool (kthere xs key)]) ∧ Below w.heap.size w w' := by
  have HC := Aside0.mk hC
  have HS := Aside0.mk hs
  have HT := Aside0.mk (show kthere xs key = (decide (kpos xs key < xs.length) && decide ((rd_T41 xs (kpos xs key)).f0 = key)) from rfl)
  have HW := Aside0.mk (show ∀ t, t < kpos xs key → kless (rd_T41 xs (t : Int)).f0 key = true from fun t ht => tw_at (fun y => kless y.f0 key) xs t ht)
  have hk : kpos xs key ≤ xs.length := tw_le _ _
  clear hC hs
  generalize kpos xs key = kp at *
  generalize kthere xs key = th at *
  go_enter Try.func46, Try.ntmps46
  go_wp2
  go_loopg [9, 10] (xs.length + 1) (fun kq v9 v10 w' => ∃ i j : Nat, v9 = .int .i64 i ∧ v10 = .int .i64 j ∧ i ≤ kp ∧ kp ≤ j ∧ j ≤ xs.length ∧ Aside0 (kq + i = j + 1) ∧ Aside0 (Below w.heap.size w w'))
  case atStart => exact ⟨0, xs.length, rfl, rfl, by omega, hk, by omega, ⟨by omega⟩, ⟨Below.refl _ _⟩⟩
  case round =>
    obtain ⟨i, j, rfl, rfl, hi, hj, hjn, HQ, HB⟩ := hrel
    by_cases hlt : i < j
    · go_upto_region 5 with (fail)
      obtain ⟨h, hh⟩ : ∃ h : Nat, ((i : Int) + (j : Int)) / 2 = h := ⟨(i + j) / 2, by omega⟩
      have hih : i ≤ h := by omega
      have hhj : h < j := by omega
      simp only [hh]
      clear hh
      obtain ⟨ad, rfl, h0, h1, h2⟩ := at_T41 (Kd.C_below HC.out HB.out) (h : Int) (by omega) (by omega)
      rw [Int.toNat_natCast] at h0 h1 h2
      by_cases hkk : h < kp
      · have hv : kless (rd_T41 xs (h : Int)).f0 key = true := HW.out h hkk
        generalize rd_T41 xs (h : Int) = x at h0 h1 h2 hv
        have hcv : decide (cmpV x.f0 key < 0) = true := by rw [cmpV_less]; exact hv
        have HCL := Aside0.mk (fun w => cmp_calls x key w)
        clear hv
        generalize cmpV x.f0 key = cv at HCL hcv
        go_wp2_with (go_at_call 47; refine (HCL.out _).mono ?_; rintro e w1 ⟨rfl, hb⟩)
        go_roundg (j - h)
        case measure => have := HQ.out; omega
        case rel => exact ⟨h + 1, j, by go_num, rfl, by omega, by omega, by omega, ⟨by omega⟩, ⟨below_step HB.out hb⟩⟩
      · have hv : kless (rd_T41 xs (h : Int)).f0 key = false := HS.out h (by omega) (by omega)
        generalize rd_T41 xs (h : Int) = x at h0 h1 h2 hv
        have hcv : decide (cmpV x.f0 key < 0) = false := by rw [cmpV_less]; exact hv
        have HCL := Aside0.mk (fun w => cmp_calls x key w)
        clear hv
        generalize cmpV x.f0 key = cv at HCL hcv
        go_wp2_with (go_at_call 47; refine (HCL.out _).mono ?_; rintro e w1 ⟨rfl, hb⟩)
        go_roundg (h - i + 1)
        case measure => have := HQ.out; omega
        case rel => exact ⟨i, h, rfl, rfl, by omega, by omega, by omega, ⟨by omega⟩, ⟨below_step HB.out hb⟩⟩
    · have : i = kp := by omega
      subst this
      by_cases hlt2 : i < xs.length
      · obtain ⟨ad, rfl, h0, h1, h2⟩ := at_T41 (Kd.C_below HC.out HB.out) (i : Int) (by omega) (by omega)
        rw [Int.toNat_natCast] at h0 h1 h2
        have HT2 := Aside0.mk (show th = decide ((rd_T41 xs (i : Int)).f0 = key) by rw [HT.out, decide_eq_true hlt2, Bool.true_and])
        generalize rd_T41 xs (i : Int) = x at h0 h1 h2 HT2
        have hcv : (cmpV x.f0 key == 0) = th := by rw [HT2.out, Bool.eq_iff_iff]; simp [cmpV_eq]
        have HCL := Aside0.mk (fun w => cmp_calls x key w)
        clear HT HT2
        have d1 : decide ((i : Int) < (xs.length : Int)) = true := decide_eq_true (by omega)
        generalize cmpV x.f0 key = cv at HCL hcv
        go_wp2_with (go_at_call 47; refine (HCL.out _).mono ?_; rintro e w1 ⟨rfl, hb⟩)
        go_ret2
        exact ⟨rfl, below_step HB.out hb⟩
      · have ht : th = false := by rw [HT.out, decide_eq_false hlt2, Bool.false_and]
        subst ht
        clear HT
        have d1 : decide ((i : Int) < (xs.length : Int)) = false := decide_eq_false (by omega)
        go_wp2
        go_ret2
        exact ⟨rfl, HB.out⟩
end Go.Proofs.Yteblpjnkinghoaa.J
/- The order of keys, and what an image does to a sorted state. -/
namespace Go.Proofs.Yteblpjnkinghoaa.J
open Go.RowKit
theorem bl_trans : ∀ {a b c : List UInt8}, Op.bytesLess a b = true → Op.bytesLess b c = true → Op.bytesLess a c = true
  | _, _, [], _, h => by unfold Op.bytesLess at h; cases h
  | [], _, _ :: _, _, _ => rfl
  | _ :: _, [], _ :: _, h, _ => by cases h
  | x :: a, y :: b, z :: c, h1, h2 => by
    unfold Op.bytesLess at h1 h2 ⊢
    simp only [Bool.or_eq_true, decide_eq_true_eq, Bool.and_eq_true, beq_iff_eq] at h1 h2 ⊢
    rcases h1 with h1 | ⟨rfl, h1⟩
    · rcases h2 with h2 | ⟨rfl, h2⟩
      · exact .inl (UInt8.lt_trans h1 h2)
      · exact .inl h1
    · rcases h2 with h2 | ⟨rfl, h2⟩
      · exact .inl h2
      · exact .inr ⟨rfl, bl_trans h1 h2⟩
theorem bl_tri : ∀ {a b : List UInt8}, Op.bytesLess a b = false → a ≠ b → Op.bytesLess b a = true
  | [], [], _, h => absurd rfl h
  | [], _ :: _, h, _ => by cases h
  | _ :: _, [], _, _ => rfl
  | x :: a, y :: b, h, hne => by
    unfold Op.bytesLess at h ⊢
    simp only [Bool.or_eq_false_iff, decide_eq_false_iff_not, Bool.and_eq_false_iff, beq_eq_false_iff_ne] at h
    simp only [Bool.or_eq_true, decide_eq_true_eq, Bool.and_eq_true, beq_iff_eq]
    by_cases hxy : x = y
    · subst hxy
      refine .inr ⟨rfl, bl_tri (h.2.resolve_left (fun h => h rfl)) (fun e => hne (by rw [e]))⟩
    · exact .inl (UInt8.lt_of_le_of_ne (UInt8.not_lt.1 h.1) (Ne.symm hxy))
theorem toList_inj {a b : ByteArray} (h : a.toList = b.toList) : a = b := by
  rw [ByteArray.toList_eq, ByteArray.toList_eq] at h; cases a; cases b; simpa using h
theorem kless_trans {a b c : ByteArray} (h1 : kless a b = true) (h2 : kless b c = true) : kless a c = true := bl_trans h1 h2
theorem kless_tri {a b : ByteArray} (h : kless a b = false) (hne : a ≠ b) : kless b a = true := bl_tri h (fun e => hne (toList_inj e))
/-- A state in order. -/
def Sorted (l : List S41) : Prop := l.Pairwise fun a b => kless a.f0 b.f0 = true
theorem apRest_cons (x y : S41) (r : List S41) : apRest x (y :: r) = if y.f0 = x.f0 then r else y :: r := rfl
theorem rest_sorted {x : S41} {l : List S41} (h : Sorted l) (hx : ∀ y ∈ l.head?, kless y.f0 x.f0 = false) : Sorted (apRest x l) ∧ ∀ b ∈ apRest x l, kless x.f0 b.f0 = true := by
  cases l with
  | nil => exact ⟨List.Pairwise.nil, fun b hb => by cases hb⟩
  | cons y r =>
    have hy := hx y rfl
    have hp := List.pairwise_cons.1 h
    rw [apRest_cons]
    by_cases he : y.f0 = x.f0
    · rw [if_pos he]
      exact ⟨hp.2, fun b hb => by rw [← he]; exact hp.1 b hb⟩
    · rw [if_neg he]
      have hxy := kless_tri hy he
      refine ⟨h, fun b hb => ?_⟩
      rcases List.mem_cons.1 hb with rfl | hb
      · exact hxy
      · exact kless_trans hxy (hp.1 b hb)
theorem tw_all (p : S41 → Bool) : ∀ (l : List S41) (a : S41), a ∈ l.takeWhile p → p a = true
  | [], _, h => by cases h
  | b :: l, a, h => by
    rw [List.takeWhile_cons] at h
    split at h
    · rcases List.mem_cons.1 h with rfl | h
      · assumption
      · exact tw_all p l a h
    · cases h
theorem dw_head (p : S41 → Bool) : ∀ (l : List S41), ∀ y ∈ (l.dropWhile p).head?, p y = false
  | [], y, h => by cases h
  | b :: l, y, h => by
    rw [List.dropWhile_cons] at h
    split at h
    · exact dw_head p l y h
    · rename_i hp
      cases h
      exact Bool.eq_false_iff.2 hp
theorem rest_sub (x : S41) (l : List S41) : ∀ b ∈ apRest x l, b ∈ l := by
  cases l with
  | nil => intro b hb; exact hb
  | cons y r =>
    intro b hb
    rw [apRest_cons] at hb
    split at hb
    · exact List.mem_cons_of_mem _ hb
    · exact hb
theorem apStep_sorted {cur : List S41} (h : Sorted cur) (x : S41) : Sorted (apStep cur x) := by
  have hs : Sorted (cur.takeWhile (fun y => kless y.f0 x.f0) ++ cur.dropWhile (fun y => kless y.f0 x.f0)) := by rw [List.takeWhile_append_dropWhile]; exact h
  obtain ⟨h1, h2, h3⟩ := List.pairwise_append.1 hs
  obtain ⟨h4, h5⟩ := rest_sorted (x := x) h2 (dw_head _ _)
  have h6 := tw_all (fun y => kless y.f0 x.f0) cur
  unfold apStep Sorted
  rw [List.pairwise_append, List.pairwise_append]
  refine ⟨⟨h1, ?_, fun a ha b hb => ?_⟩, h4, fun a ha b hb => ?_⟩
  · split <;> simp
  · split at hb
    · rw [List.mem_singleton] at hb; subst hb; exact h6 a ha
    · cases hb
  · rcases List.mem_append.1 ha with ha | ha
    · exact h3 a ha b (rest_sub x _ b hb)
    · split at ha
      · rw [List.mem_singleton] at ha; subst ha; exact h5 b hb
      · cases ha
theorem rd_mem {l : List S41} {t : Nat} (h : t < l.length) : rd_T41 l (t : Int) = l[t] := by
  unfold rd_T41; rw [Int.toNat_natCast, List.getD_eq_getElem?_getD, List.getElem?_eq_getElem h]; rfl
theorem sorted_behind {cur : List S41} (h : Sorted cur) (key : ByteArray) (t : Nat) (h1 : kpos cur key ≤ t) (h2 : t < cur.length) : kless (rd_T41 cur (t : Int)).f0 key = false := by
  have he := tw_end (fun y => kless y.f0 key) cur (by have : kpos cur key < cur.length := by omega
                                                      exact this)
  change kless (rd_T41 cur (kpos cur key : Int)).f0 key = false at he
  rcases Nat.lt_or_eq_of_le h1 with hlt | rfl
  · cases hk : kless (rd_T41 cur (t : Int)).f0 key with
    | false => rfl
    | true =>
      rw [rd_mem (by omega)] at he
      rw [rd_mem h2] at hk
      have := List.pairwise_iff_getElem.1 h (kpos cur key) t (by omega) h2 hlt
      rw [kless_trans this hk] at he
      cases he
  · exact he
/-- What the program does to its row, case by case. -/
theorem apStep_put {cur : List S41} {x : S41} (hf : x.f1 = true) (ht : kthere cur x.f0 = true) : apStep cur x = cur.take (kpos cur x.f0) ++ x :: cur.drop (kpos cur x.f0 + 1) := by
  unfold kthere at ht
  simp only [Bool.and_eq_true, decide_eq_true_eq] at ht
  have hd := List.drop_eq_getElem_cons ht.1
  rw [rd_mem ht.1] at ht
  unfold apStep
  rw [if_pos hf, ← tw_take, ← tw_drop]
  change cur.take (kpos cur x.f0) ++ [x] ++ apRest x (cur.drop (kpos cur x.f0)) = _
  rw [hd, apRest, if_pos ht.2]
  simp
theorem apStep_ins {cur : List S41} {x : S41} (hf : x.f1 = true) (ht : kthere cur x.f0 = false) : apStep cur x = cur.take (kpos cur x.f0) ++ x :: cur.drop (kpos cur x.f0) := by
  unfold apStep
  rw [if_pos hf, ← tw_take, ← tw_drop]
  change cur.take (kpos cur x.f0) ++ [x] ++ apRest x (cur.drop (kpos cur x.f0)) = _
  have : apRest x (cur.drop (kpos cur x.f0)) = cur.drop (kpos cur x.f0) := by
    by_cases hlt : kpos cur x.f0 < cur.length
    · unfold kthere at ht
      rw [decide_eq_true hlt, Bool.true_and, decide_eq_false_iff_not, rd_mem hlt] at ht
      rw [List.drop_eq_getElem_cons hlt, apRest, if_neg ht]
    · rw [List.drop_eq_nil_of_le (by omega)]; rfl
  rw [this]; simp
theorem apStep_del {cur : List S41} {x : S41} (hf : x.f1 = false) (ht : kthere cur x.f0 = true) : apStep cur x = cur.take (kpos cur x.f0) ++ cur.drop (kpos cur x.f0 + 1) := by
  unfold kthere at ht
  simp only [Bool.and_eq_true, decide_eq_true_eq] at ht
  have hd := List.drop_eq_getElem_cons ht.1
  rw [rd_mem ht.1] at ht
  unfold apStep
  rw [if_neg (by rw [hf]; decide), ← tw_take, ← tw_drop]
  change cur.take (kpos cur x.f0) ++ [] ++ apRest x (cur.drop (kpos cur x.f0)) = _
  rw [hd, apRest, if_pos ht.2]
  simp
theorem apStep_no {cur : List S41} {x : S41} (hf : x.f1 = false) (ht : kthere cur x.f0 = false) : apStep cur x = cur := by
  unfold apStep
  rw [if_neg (by rw [hf]; decide), ← tw_take, ← tw_drop]
  change cur.take (kpos cur x.f0) ++ [] ++ apRest x (cur.drop (kpos cur x.f0)) = _
  have : apRest x (cur.drop (kpos cur x.f0)) = cur.drop (kpos cur x.f0) := by
    by_cases hlt : kpos cur x.f0 < cur.length
    · unfold kthere at ht
      rw [decide_eq_true hlt, Bool.true_and, decide_eq_false_iff_not, rd_mem hlt] at ht
      rw [List.drop_eq_getElem_cons hlt, apRest, if_neg ht]
    · rw [List.drop_eq_nil_of_le (by omega)]; rfl
  rw [this, List.append_nil, List.take_append_drop]
theorem good_sorted {l : List S41} (h : (List.range l.length).all (goodAt l) = true) : Sorted l := by
  have hadj : ∀ k, k + 1 < l.length → kless (rd_T41 l (k : Int)).f0 (rd_T41 l ((k + 1 : Nat) : Int)).f0 = true := fun k hk => by
    have := List.all_eq_true.1 h (k + 1) (List.mem_range.2 hk)
    unfold goodAt at this
    simp only [Bool.and_eq_true, Bool.or_eq_true, decide_eq_true_eq] at this
    have h2 := this.2.resolve_left (by omega)
    rw [show ((k + 1 : Nat) : Int) - 1 = k by omega] at h2
    exact h2
  refine List.pairwise_iff_getElem.2 fun i j hi hj hij => ?_
  induction j with
  | zero => omega
  | succ j ih =>
    have hs := hadj j hj
    rw [rd_mem (by omega), rd_mem hj] at hs
    rcases Nat.lt_or_eq_of_le (Nat.le_of_lt_succ hij) with hlt | rfl
    · exact kless_trans (ih (by omega) hlt) hs
    · exact hs
end Go.Proofs.Yteblpjnkinghoaa.J
/- The contract of journal.Apply. -/
namespace Go.Proofs.Yteblpjnkinghoaa.J
open Go.BigFrame Go.RowKit Go.Proofs.YteblpjnkinghoaaW.PrintWords Go.Proofs.YteblpjnkinghoaaW.PrintLast Go.Proofs.YteblpjnkinghoaaW.PrintMore
/-- Whether images are a state, as journal.ordered has it. -/
def ordV (l : List S41) : Bool := (List.range l.length).all (goodAt l) && decide (l.length ≤ 500)
def journal_Apply.f (l0 : List (S41)) (l1 : List (S41)) : Option ((List (S41)) × Int) :=
  if l1.length ≤ 900000 then
    (if ordV l0 = true ∧ l1.all img = true then (if 500 < (l1.foldl apStep l0).length then some ([], 4) else some (l1.foldl apStep l0, 0)) else some ([], 1))
  else none
theorem Im.set3 {w : World} {g cap : Nat} {cs : List Value} (h : Im w g cap cs) (o : Nat) (x : S41) (hf : o + 3 ≤ cs.length) :
    Im (((w.setCell ⟨g, o, none⟩ (.string x.f0)).setCell ⟨g, o + 1, none⟩ (.bool x.f1)).setCell ⟨g, o + 2, none⟩ (.string x.f2)) g cap (spliced cs o (cells3 x)) := by
  obtain ⟨cur', h1, h2, h3⟩ := setCells_row (cells3 x) o w cs.toArray h.1 (by simpa [cells3] using hf)
  refine ⟨?_, by rw [spliced_length _ _ _ (by simpa [cells3] using hf)]; exact h.2.1, h.2.2⟩
  have e : cur' = (spliced cs o (cells3 x)).toArray := Array.ext' (by rw [h3]; rfl)
  rw [e] at h1
  exact h1
theorem apply_no (A0 : Option Addr) (c0 : Nat) (l0 : List (S41)) (A1 : Option Addr) (c1 : Nat) (l1 : List (S41)) (w : World) (hr0 : Kd.C k41 w A0 l0.length l0) (hc0 : l0.length ≤ c0) (hr1 : Kd.C k41 w A1 l1.length l1) (hc1 : l1.length ≤ c1) (h : ¬ (ordV l0 = true ∧ l1.all img = true)) :
    Calls Try.prog 20 #[.slice A0 l0.length c0, .slice A1 l1.length c1] w fun e w' => e = .returned (.tuple #[.slice none 0 0, .int .i64 1]) ∧ Below w.heap.size w w' := by
  have HR0 := Aside0.mk hr0
  have HC0 := Aside0.mk hc0
  have HR1 := Aside0.mk hr1
  have HC1 := Aside0.mk hc1
  have HO := Aside0.mk (show journal_ordered.f l0 = some (ordV l0) from rfl)
  clear hr0 hc0 hr1 hc1
  cases ho : ordV l0 with
  | false =>
    rw [ho] at HO
    clear h ho
    go_enter Try.func20, Try.ntmps20
    go_wp2_with (go_at_call 36; refine (journal_ordered.calls _ _ _ _ _ HR0.out HC0.out HO.out).mono ?_; rintro r w1 ⟨rfl, hb⟩)
    go_ret2
    exact ⟨rfl, hb⟩
  | true =>
    have hi : l1.all img = false := Bool.eq_false_iff.2 (fun hi => h ⟨ho, hi⟩)
    rw [ho] at HO
    have HI := Aside0.mk hi
    clear h ho hi
    go_enter Try.func20, Try.ntmps20
    go_wp2_with (first | (go_at_call 36; refine (journal_ordered.calls _ _ _ _ _ HR0.out HC0.out HO.out).mono ?_; rintro r w1 ⟨rfl, hb⟩) | (go_at_call 42; refine (contains41_calls _ _ _ _ (Kd.C_below HR1.out hb)).mono ?_; rintro r w2 ⟨rfl, hb2⟩; rw [HI.out]))
    go_ret2
    exact ⟨rfl, below_step hb hb2⟩
set_option maxHeartbeats 4000000 in
set_option maxRecDepth 100000 in
theorem apply_yes (A0 : Option Addr) (c0 : Nat) (l0 : List (S41)) (A1 : Option Addr) (c1 : Nat) (l1 : List (S41)) (w : World) (hr0 : Kd.C k41 w A0 l0.length l0) (hc0 : l0.length ≤ c0) (hr1 : Kd.C k41 w A1 l1.length l1) (hc1 : l1.length ≤ c1) (ho : ordV l0 = true) (hi : l1.all img = true) (hl : l1.length ≤ 900000)
    (r1 : List S41) (r2 : Int) (hr : (if 500 < (l1.foldl apStep l0).length then (([] : List S41), (4 : Int)) else (l1.foldl apStep l0, 0)) = (r1, r2)) :
    Calls Try.prog 20 #[.slice A0 l0.length c0, .slice A1 l1.length c1] w fun e w' => ∃ v0_ : Value, e = .returned (.tuple #[v0_, .int .i64 r2]) ∧ Kd.R k41 41 w' w.heap.size (fun _ => True) v0_ r1 ∧ Below w.heap.size w w' := by
  have hl0 : l0.length ≤ 500 := by unfold ordV at ho; simp at ho; exact ho.2
  have hso : Sorted l0 := good_sorted (by unfold ordV at ho; rw [Bool.and_eq_true] at ho; exact ho.1)
  have HSO := Aside0.mk hso
  have HR0 := Aside0.mk hr0
  have HC0 := Aside0.mk hc0
  have HR1 := Aside0.mk hr1
  have HC1 := Aside0.mk hc1
  have HI := Aside0.mk hi
  have HRR := Aside0.mk hr
  have HO := Aside0.mk (show journal_ordered.f l0 = some true by rw [← ho]; rfl)
  clear hr0 hc0 hr1 hc1 hi ho hso hr
  go_enter Try.func20, Try.ntmps20
  go_wp2_with (first | (go_at_call 36; refine (journal_ordered.calls _ _ _ _ _ HR0.out HC0.out HO.out).mono ?_; rintro r w1 ⟨rfl, hb⟩) | (go_at_call 42; refine (contains41_calls _ _ _ _ (Kd.C_below HR1.out hb)).mono ?_; rintro r w2 ⟨rfl, hb2⟩; rw [HI.out]) | (go_at_call 45; refine (clone_calls _ _ _ _ (Kd.C_below (Kd.C_below HR0.out hb) hb2) (by omega)).mono ?_; rintro r w3 ⟨v3, rfl, ho3, hb3⟩))
  have hB3 := below_step (below_step hb hb2) hb3
  have HO3 := Aside0.mk (Kd.R_lower ho3 (below_size (below_step hb hb2)))
  have HB3 := Aside0.mk hB3
  clear hb hb2 hb3 ho3 hB3 HR0 HC0 HO HI
  go_loopg [6, 22] (l1.length + 1) (fun kq v6 v22 w' => ∃ (i : Nat) (cur : List S41), v22 = .int .i64 i ∧ i ≤ l1.length ∧ Aside0 (kq + i = l1.length + 1) ∧ Aside0 ((l1.drop i).foldl apStep cur = l1.foldl apStep l0) ∧ Aside0 (cur.length ≤ 500 + i) ∧ Aside0 (Sorted cur) ∧ Aside0 (Kd.R k41 41 w' w.heap.size (fun _ => True) v6 cur) ∧ Aside0 (Below w.heap.size w w'))
  case atStart => exact ⟨0, l0, rfl, by omega, ⟨by omega⟩, ⟨rfl⟩, ⟨by omega⟩, HSO, HO3, HB3⟩
  case round =>
    clear HO3 HB3 HSO
    obtain ⟨i, cur, rfl, hi, HQ, HS, HL, HSO, HO, HB⟩ := hrel
    by_cases hlt : i < l1.length
    · obtain ⟨a1, rfl, h0, h1, h2⟩ := at_T41 (Kd.C_below HR1.out HB.out) (i : Int) (by omega) (by omega)
      rw [Int.toNat_natCast] at h0 h1 h2
      have HS2 := Aside0.mk (show (l1.drop (i + 1)).foldl apStep (apStep cur (rd_T41 l1 (i : Int))) = l1.foldl apStep l0 by rw [← HS.out, drop_rd41 hlt]; rfl)
      generalize rd_T41 l1 (i : Int) = x at h0 h1 h2 HS2
      clear HS
      obtain ⟨A, c, hv6, hlc, hC⟩ := Kd.R_reads HO.out
      subst hv6
      have HSE := Aside0.mk (fun (w' : World) (hC : Kd.C k41 w' A cur.length cur) => search_calls cur x.f0 A c w' hC (by have := HL.out; omega) (fun t h1 h2 => sorted_behind HSO.out x.f0 t h1 h2))
      have hkl : kpos cur x.f0 ≤ cur.length := tw_le _ _
      clear hC
      have hkk := heap_alloc_new wr (.cells #[.string x.f0, .bool x.f1, .string x.f2] 41)
      have HB5 := Aside0.mk (HB.out.alloc (below_size HB.out) (.cells #[.string x.f0, .bool x.f1, .string x.f2] 41))
      have HO5 := Aside0.mk (show Kd.R k41 41 (wr.alloc (.cells #[.string x.f0, .bool x.f1, .string x.f2] 41)) w.heap.size (fun k => k ≠ wr.heap.size) (.slice A cur.length c) cur from Kd.R_alloc (Kd.R_mono (Kd.R_bound HO.out) (fun k hk => by have := hk.2.2.1; omega)) _)
      obtain ⟨tb, htb⟩ : ∃ tb, tb = wr.heap.size := ⟨_, rfl⟩
      go_upto_region 8 with (first | (go_at_call 46; generalize wr.alloc (.cells #[.string x.f0, .bool x.f1, .string x.f2] 41) = w5 at hkk HB5 HO5 ⊢; refine (HSE.out _ (R_C41 HO5.out).1).mono ?_; rintro r w6 ⟨rfl, hb6⟩))
      have HB6 := Aside0.mk (below_step HB5.out hb6)
      have HO6 := Aside0.mk (Kd.R_below HO5.out hb6)
      have hk6 := (hb6.block _ (Array.getElem?_eq_some_iff.1 hkk).1).trans hkk
      have hlt6 := (Array.getElem?_eq_some_iff.1 hk6).1
      clear HSE HB5 HO5 hkk hb6 HO HB h0 h1 h2 htb
      have hkt : kthere cur x.f0 = true → kpos cur x.f0 < cur.length := fun h => by unfold kthere at h; simp at h; exact h.1
      obtain ⟨x0, x1, x2⟩ := x
      have hc0 := (blk_cell hk6 0).trans (show _ = some (Value.string x0) from rfl)
      have hc1 := (blk_cell hk6 1).trans (show _ = some (Value.bool x1) from rfl)
      have hc2 := (blk_cell hk6 2).trans (show _ = some (Value.string x2) from rfl)
      have HAL := Aside0.mk (apStep_le cur ⟨x0, x1, x2⟩)
      have HAS := Aside0.mk (apStep_sorted HSO.out ⟨x0, x1, x2⟩)
      clear hk6 HSO
      simp only at hkt hkl ⊢
      cases x1
      · cases ht : kthere cur x0
        · have HAP := Aside0.mk (apStep_no (cur := cur) (x := ⟨x0, false, x2⟩) rfl ht)
          clear ht hkt
          generalize kpos cur x0 = kp at hkl ⊢
          go_wp2
          go_roundg (gk - 1)
          case measure => have := HQ.out; omega
          case rel => exact ⟨i + 1, _, rfl, by omega, ⟨by have := HQ.out; omega⟩, HS2, ⟨by have := HL.out; have := HAL.out; omega⟩, HAS, ⟨by rw [HAP.out]; exact Kd.R_mono HO6.out (fun _ _ => trivial)⟩, HB6⟩
        · have HAP := Aside0.mk (apStep_del (cur := cur) (x := ⟨x0, false, x2⟩) rfl ht)
          have hkl2 := hkt ht
          clear ht hkt
          change Aside0 (apStep cur ⟨x0, false, x2⟩ = cur.take (kpos cur x0) ++ cur.drop (kpos cur x0 + 1)) at HAP
          generalize kpos cur x0 = kp at hkl hkl2 HAP ⊢
          have hkb : kp ≤ 2000000 := by have := HL.out; omega
          have HDE := Aside0.mk (delete_calls cur w.heap.size kp _ w6 (Kd.R_mono HO6.out (fun _ _ => trivial)) (by have := HL.out; omega) hkl2)
          go_wp2_with (go_at_call 50; refine HDE.out.mono ?_; rintro r w7 ⟨v7, rfl, ho7, hb7⟩)
          go_roundg (gk - 1)
          case measure => have := HQ.out; omega
          case rel => exact ⟨i + 1, _, rfl, by omega, ⟨by have := HQ.out; omega⟩, HS2, ⟨by have := HL.out; have := HAL.out; omega⟩, HAS, ⟨by rw [HAP.out]; exact ho7⟩, ⟨HB6.out.trans hb7⟩⟩
      · cases ht : kthere cur x0
        · have HAP := Aside0.mk (apStep_ins (cur := cur) (x := ⟨x0, true, x2⟩) rfl ht)
          clear ht hkt
          change Aside0 (apStep cur ⟨x0, true, x2⟩ = cur.take (kpos cur x0) ++ ⟨x0, true, x2⟩ :: cur.drop (kpos cur x0)) at HAP
          generalize kpos cur x0 = kp at hkl HAP ⊢
          have HIN := Aside0.mk (insert_calls cur ⟨x0, true, x2⟩ w6.heap.size w.heap.size kp (.slice A cur.length c) (w6.alloc (.cells #[.string x0, .bool true, .string x2] 41)) (Kd.R_alloc (Kd.R_mono (Kd.R_bound HO6.out) (fun k hk => by have := hk.2.2.1; omega)) _) (heap_alloc_new _ _) (by have := below_size HB6.out; simp; omega) (by have := HL.out; omega) hkl)
          have HB6' := Aside0.mk (HB6.out.alloc (below_size HB6.out) (.cells #[.string x0, .bool true, .string x2] 41))
          go_wp2_with (go_at_call 49; refine HIN.out.mono ?_; rintro r w7 ⟨v7, rfl, ho7, hb7⟩)
          go_roundg (gk - 1)
          case measure => have := HQ.out; omega
          case rel => exact ⟨i + 1, _, rfl, by omega, ⟨by have := HQ.out; omega⟩, HS2, ⟨by have := HL.out; have := HAL.out; omega⟩, HAS, ⟨by rw [HAP.out]; exact ho7⟩, ⟨HB6'.out.trans hb7⟩⟩
        · have HAP := Aside0.mk (apStep_put (cur := cur) (x := ⟨x0, true, x2⟩) rfl ht)
          have hkl2 := hkt ht
          clear ht hkt
          change Aside0 (apStep cur ⟨x0, true, x2⟩ = cur.take (kpos cur x0) ++ ⟨x0, true, x2⟩ :: cur.drop (kpos cur x0 + 1)) at HAP
          generalize kpos cur x0 = kp at hkl hkl2 HAP ⊢
          rcases R_im HO6.out with ⟨hnil, _⟩ | ⟨g, cap, rest, hv, _, hg, hcl, hI⟩
          · subst hnil; simp at hkl2
          injection hv with e1 e2 e3
          subst e1; subst e3
          have hkb : kp ≤ 2000000 := by have := HL.out; omega
          have hcb : cur.length ≤ 2000000 := by have := HL.out; omega
          obtain ⟨y, hy⟩ : ∃ y, cur.drop kp = y :: cur.drop (kp + 1) := ⟨cur[kp], List.drop_eq_getElem_cons hkl2⟩
          have hlt3 : (cur.take kp).length = kp := by rw [List.length_take]; omega
          have e0 : flat cur ++ rest = flat (cur.take kp) ++ (cells3 y ++ (flat (cur.drop (kp + 1)) ++ rest)) := by
            have e : flat cur = flat (cur.take kp) ++ (cells3 y ++ flat (cur.drop (kp + 1))) := by rw [← flat_cons, ← hy, ← flat_append, List.take_append_drop]
            rw [e, List.append_assoc, List.append_assoc]
          have hcell : ∀ j u, (cells3 y)[j]? = some u → w6.cell? ⟨g, kp * 3 + j, none⟩ = some u := fun j u hj => hI.cell _ _ (by
            rw [e0, List.getElem?_append_right (by rw [flat_length, hlt3]; omega), flat_length, hlt3, Nat.add_sub_cancel_left, List.getElem?_append_left (List.getElem?_eq_some_iff.1 hj).1]; exact hj)
          have z0 : w6.cell? ⟨g, kp * 3, none⟩ = some (.string y.f0) := hcell 0 _ rfl
          have z1 := hcell 1 _ rfl
          have z2 := hcell 2 _ rfl
          have f0 := hI.frozen (kp * 3)
          have f1 := hI.frozen (kp * 3 + 1)
          have f2 := hI.frozen (kp * 3 + 2)
          have hI9 := hI.set3 (kp * 3) ⟨x0, true, x2⟩ (by rw [List.length_append, flat_length]; omega)
          have e9 : spliced (flat cur ++ rest) (kp * 3) (cells3 ⟨x0, true, x2⟩) = flat (cur.take kp ++ ⟨x0, true, x2⟩ :: cur.drop (kp + 1)) ++ rest := by
            have h1 := spliced_flat (cur.take kp) (cells3 y ++ (flat (cur.drop (kp + 1)) ++ rest)) (cells3 ⟨x0, true, x2⟩)
            rw [hlt3] at h1
            rw [e0, h1, show (cells3 (⟨x0, true, x2⟩ : S41)).length = (cells3 y).length from rfl, List.drop_left, flat_append, flat_cons]
            simp [List.append_assoc]
          rw [e9] at hI9
          have hln : (cur.take kp ++ ⟨x0, true, x2⟩ :: cur.drop (kp + 1)).length = cur.length := by simp; omega
          have HO9 := Aside0.mk (show Kd.R k41 41 (((w6.setCell ⟨g, kp * 3, none⟩ (.string x0)).setCell ⟨g, kp * 3 + 1, none⟩ (.bool true)).setCell ⟨g, kp * 3 + 2, none⟩ (.string x2)) w.heap.size (fun _ => True) (.slice (some ⟨g, 0, none⟩) cur.length c) (cur.take kp ++ ⟨x0, true, x2⟩ :: cur.drop (kp + 1)) by
            have := im_R (base := w.heap.size) (ok := fun _ => True) hI9 (by rw [hln]; exact hlc) hg trivial
            rwa [hln] at this)
          have HB9 := Aside0.mk (((HB6.out.setCell (p := ⟨g, kp * 3, none⟩) hg (.string x0)).setCell (p := ⟨g, kp * 3 + 1, none⟩) hg (.bool true)).setCell (p := ⟨g, kp * 3 + 2, none⟩) hg (.string x2))
          clear hcell hI e0 hy hI9 e9
          go_wp2
          go_roundg (gk - 1)
          case measure => have := HQ.out; omega
          case rel => exact ⟨i + 1, _, rfl, by omega, ⟨by have := HQ.out; omega⟩, HS2, ⟨by have := HL.out; have := HAL.out; omega⟩, HAS, ⟨by rw [HAP.out]; exact HO9.out⟩, HB9⟩
    · have hi : i = l1.length := by omega
      subst hi
      have HS' := Aside0.mk (show cur = l1.foldl apStep l0 by rw [← HS.out, List.drop_length]; rfl)
      clear HS
      obtain ⟨A, c, hv6, hlc, hC⟩ := Kd.R_reads HO.out
      subst hv6
      clear hC
      rw [← HS'.out] at HRR
      by_cases h5 : 500 < cur.length
      · obtain ⟨rfl, rfl⟩ := Prod.mk.inj (show (([] : List S41), (4 : Int)) = (r1, r2) by rw [← HRR.out, if_pos h5])
        clear HRR
        go_wp2
        go_ret2
        exact ⟨_, rfl, Kd.R_nil _ _ _ _ _, HB.out⟩
      · obtain ⟨rfl, rfl⟩ := Prod.mk.inj (show (cur, (0 : Int)) = (r1, r2) by rw [← HRR.out, if_neg h5])
        clear HRR
        go_wp2
        go_ret2
        exact ⟨_, rfl, HO.out, HB.out⟩
theorem journal_Apply.calls (A0 : Option Addr) (c0 : Nat) (l0 : List (S41)) (A1 : Option Addr) (c1 : Nat) (l1 : List (S41)) (r1 : List (S41)) (r2 : Int) (w : World) (hr0 : Kd.C k41 w A0 l0.length l0) (hc0 : l0.length ≤ c0) (hr1 : Kd.C k41 w A1 l1.length l1) (hc1 : l1.length ≤ c1) (h : journal_Apply.f l0 l1 = some (r1, r2)) :
    Calls Try.prog 20 #[.slice A0 l0.length c0, .slice A1 l1.length c1] w fun e w' => ∃ v0_ : Value, e = .returned (.tuple #[v0_, .int .i64 r2]) ∧ Kd.R k41 41 w' w.heap.size (fun _ => True) v0_ r1 ∧ Below w.heap.size w w' := by
  unfold journal_Apply.f at h
  by_cases hl : l1.length ≤ 900000
  · rw [if_pos hl] at h
    by_cases hv : ordV l0 = true ∧ l1.all img = true
    · rw [if_pos hv] at h
      refine apply_yes A0 c0 l0 A1 c1 l1 w hr0 hc0 hr1 hc1 hv.1 hv.2 hl r1 r2 (Option.some.inj ?_)
      rw [← h]
      split <;> rfl
    · rw [if_neg hv] at h
      obtain ⟨rfl, rfl⟩ := Prod.mk.inj (Option.some.inj h)
      exact (apply_no A0 c0 l0 A1 c1 l1 w hr0 hc0 hr1 hc1 hv).mono fun e w' ⟨h1, h2⟩ => ⟨_, h1, Kd.R_nil _ _ _ _ _, h2⟩
  · rw [if_neg hl] at h; cases h
end Go.Proofs.Yteblpjnkinghoaa.J
/- Contracts of journal.Valid and journal.valid (with the closure and the library functions between them), for every note and every slice of notes. -/
namespace Go.Proofs.Yteblpjnkinghoaa.J
open Go.BigFrame Go.RowKit Go.Proofs.YteblpjnkinghoaaW.PrintWords Go.Proofs.YteblpjnkinghoaaW.PrintLast Go.Proofs.YteblpjnkinghoaaW.PrintMore
def kindsV : Value := .agg #[.nilFunc, .func (.func 75) #[] #[], .func (.func 76) #[] #[], .func (.func 76) #[] #[], .func (.func 75) #[] #[], .func (.func 75) #[] #[], .func (.func 77) #[] #[], .func (.func 75) #[] #[]]
theorem kinds_calls (w : World) : Calls Try.prog 58 #[] w fun e w' => e = .returned kindsV ∧ Below w.heap.size w w' := by
  go_enter Try.func58, Try.ntmps58
  go_wp2
  exact bodyPost_ret (v := kindsV) (by simp [results, Try.results58, go_sem, kindsV]) rfl ⟨rfl, (Below.refl _ _).alloc (Nat.le_refl _) _⟩
theorem kinds_at1 (w : World) : (Instr.index 87 kindsV (.int .i64 1)).run Try.prog w = .ok (.func (.func 75) #[] #[]) w := by kernel_rfl
theorem kinds_at2 (w : World) : (Instr.index 87 kindsV (.int .i64 2)).run Try.prog w = .ok (.func (.func 76) #[] #[]) w := by kernel_rfl
theorem kinds_at3 (w : World) : (Instr.index 87 kindsV (.int .i64 3)).run Try.prog w = .ok (.func (.func 76) #[] #[]) w := by kernel_rfl
theorem kinds_at4 (w : World) : (Instr.index 87 kindsV (.int .i64 4)).run Try.prog w = .ok (.func (.func 75) #[] #[]) w := by kernel_rfl
theorem kinds_at5 (w : World) : (Instr.index 87 kindsV (.int .i64 5)).run Try.prog w = .ok (.func (.func 75) #[] #[]) w := by kernel_rfl
theorem kinds_at6 (w : World) : (Instr.index 87 kindsV (.int .i64 6)).run Try.prog w = .ok (.func (.func 77) #[] #[]) w := by kernel_rfl
theorem kinds_at7 (w : World) : (Instr.index 87 kindsV (.int .i64 7)).run Try.prog w = .ok (.func (.func 75) #[] #[]) w := by kernel_rfl

/-- The note's own cells, in every world behind. -/
theorem note_cells {w1 : World} {b : Nat} {v0 v1 v2 v3 v4 : Value} {t : TypeId} (hk : w1.heap[b]? = some (.cells #[v0, v1, v2, v3, v4] t)) :
    (∀ p : Past w1, p.W.cell? ⟨b, 0, none⟩ = some v0) ∧ (∀ p : Past w1, p.W.cell? ⟨b, 1, none⟩ = some v1) ∧ (∀ p : Past w1, p.W.cell? ⟨b, 2, none⟩ = some v2) ∧ (∀ p : Past w1, p.W.cell? ⟨b, 3, none⟩ = some v3) ∧ (∀ p : Past w1, p.W.cell? ⟨b, 4, none⟩ = some v4) :=
  ⟨Past.cell ((blk_cell hk 0).trans rfl), Past.cell ((blk_cell hk 1).trans rfl), Past.cell ((blk_cell hk 2).trans rfl), Past.cell ((blk_cell hk 3).trans rfl), Past.cell ((blk_cell hk 4).trans rfl)⟩

theorem valid_75 (a0 a1 : Int) (a2 : ByteArray) (a3 : Bool) (a4 : ByteArray) (r : Bool) (w : World) (h1 : decide (1 ≤ a0) = true) (h7 : decide (a0 ≤ 7) = true) (hix : ∀ w : World, (Instr.index 87 kindsV (.int .i64 a0)).run Try.prog w = .ok (.func (.func 75) #[] #[]) w)
    (h : ∀ w : World, Calls Try.prog 75 #[.agg #[.int .i64 a0, .int .i64 a1, .string a2, .bool a3, .string a4]] w fun e w' => e = .returned (.bool r) ∧ Below w.heap.size w w') :
    Calls Try.prog 27 #[.agg #[.int .i64 a0, .int .i64 a1, .string a2, .bool a3, .string a4]] w fun e w' => e = .returned (.bool r) ∧ Below w.heap.size w w' := by
  have H := Aside0.mk h
  clear h
  go_enter Try.func27, Try.ntmps27
  go_wp2
  have hb := (Below.refl w.heap.size w).alloc (Nat.le_refl _) (.cells #[.int .i64 a0, .int .i64 a1, .string a2, .bool a3, .string a4] 39)
  have hk : (w.alloc (.cells #[.int .i64 a0, .int .i64 a1, .string a2, .bool a3, .string a4] 39)).heap[w.heap.size]? = some (.cells #[.int .i64 a0, .int .i64 a1, .string a2, .bool a3, .string a4] 39) := heap_alloc_new w _
  generalize (w.alloc (.cells #[.int .i64 a0, .int .i64 a1, .string a2, .bool a3, .string a4] 39)) = w1 at hb hk ⊢
  obtain ⟨c0, c1, c2, c3, c4⟩ := note_cells hk
  clear hk
  refine wp_region_past (by kernel_rfl) (by kernel_rfl) ?_
  repeat (go_big_quiet_step (first | (go_at_call 58; exact Calls.past_of (kinds_calls _)) | (go_at_call 75; exact Calls.past_of (H.out _))))
  refine wpQuiet_nil ?_
  rintro _ ⟨p, rfl⟩
  go_wp2
  go_ret
  exact ⟨rfl, below_step hb p.h⟩
theorem valid_76 (a0 a1 : Int) (a2 : ByteArray) (a3 : Bool) (a4 : ByteArray) (r : Bool) (w : World) (h1 : decide (1 ≤ a0) = true) (h7 : decide (a0 ≤ 7) = true) (hix : ∀ w : World, (Instr.index 87 kindsV (.int .i64 a0)).run Try.prog w = .ok (.func (.func 76) #[] #[]) w)
    (h : ∀ w : World, Calls Try.prog 76 #[.agg #[.int .i64 a0, .int .i64 a1, .string a2, .bool a3, .string a4]] w fun e w' => e = .returned (.bool r) ∧ Below w.heap.size w w') :
    Calls Try.prog 27 #[.agg #[.int .i64 a0, .int .i64 a1, .string a2, .bool a3, .string a4]] w fun e w' => e = .returned (.bool r) ∧ Below w.heap.size w w' := by
  have H := Aside0.mk h
  clear h
  go_enter Try.func27, Try.ntmps27
  go_wp2
  have hb := (Below.refl w.heap.size w).alloc (Nat.le_refl _) (.cells #[.int .i64 a0, .int .i64 a1, .string a2, .bool a3, .string a4] 39)
  have hk : (w.alloc (.cells #[.int .i64 a0, .int .i64 a1, .string a2, .bool a3, .string a4] 39)).heap[w.heap.size]? = some (.cells #[.int .i64 a0, .int .i64 a1, .string a2, .bool a3, .string a4] 39) := heap_alloc_new w _
  generalize (w.alloc (.cells #[.int .i64 a0, .int .i64 a1, .string a2, .bool a3, .string a4] 39)) = w1 at hb hk ⊢
  obtain ⟨c0, c1, c2, c3, c4⟩ := note_cells hk
  clear hk
  refine wp_region_past (by kernel_rfl) (by kernel_rfl) ?_
  repeat (go_big_quiet_step (first | (go_at_call 58; exact Calls.past_of (kinds_calls _)) | (go_at_call 76; exact Calls.past_of (H.out _))))
  refine wpQuiet_nil ?_
  rintro _ ⟨p, rfl⟩
  go_wp2
  go_ret
  exact ⟨rfl, below_step hb p.h⟩
theorem valid_77 (a0 a1 : Int) (a2 : ByteArray) (a3 : Bool) (a4 : ByteArray) (r : Bool) (w : World) (h1 : decide (1 ≤ a0) = true) (h7 : decide (a0 ≤ 7) = true) (hix : ∀ w : World, (Instr.index 87 kindsV (.int .i64 a0)).run Try.prog w = .ok (.func (.func 77) #[] #[]) w)
    (h : ∀ w : World, Calls Try.prog 77 #[.agg #[.int .i64 a0, .int .i64 a1, .string a2, .bool a3, .string a4]] w fun e w' => e = .returned (.bool r) ∧ Below w.heap.size w w') :
    Calls Try.prog 27 #[.agg #[.int .i64 a0, .int .i64 a1, .string a2, .bool a3, .string a4]] w fun e w' => e = .returned (.bool r) ∧ Below w.heap.size w w' := by
  have H := Aside0.mk h
  clear h
  go_enter Try.func27, Try.ntmps27
  go_wp2
  have hb := (Below.refl w.heap.size w).alloc (Nat.le_refl _) (.cells #[.int .i64 a0, .int .i64 a1, .string a2, .bool a3, .string a4] 39)
  have hk : (w.alloc (.cells #[.int .i64 a0, .int .i64 a1, .string a2, .bool a3, .string a4] 39)).heap[w.heap.size]? = some (.cells #[.int .i64 a0, .int .i64 a1, .string a2, .bool a3, .string a4] 39) := heap_alloc_new w _
  generalize (w.alloc (.cells #[.int .i64 a0, .int .i64 a1, .string a2, .bool a3, .string a4] 39)) = w1 at hb hk ⊢
  obtain ⟨c0, c1, c2, c3, c4⟩ := note_cells hk
  clear hk
  refine wp_region_past (by kernel_rfl) (by kernel_rfl) ?_
  repeat (go_big_quiet_step (first | (go_at_call 58; exact Calls.past_of (kinds_calls _)) | (go_at_call 77; exact Calls.past_of (H.out _))))
  refine wpQuiet_nil ?_
  rintro _ ⟨p, rfl⟩
  go_wp2
  go_ret
  exact ⟨rfl, below_step hb p.h⟩
theorem valid_low (a0 a1 : Int) (a2 : ByteArray) (a3 : Bool) (a4 : ByteArray) (w : World) (h1 : decide (1 ≤ a0) = false) :
    Calls Try.prog 27 #[.agg #[.int .i64 a0, .int .i64 a1, .string a2, .bool a3, .string a4]] w fun e w' => e = .returned (.bool false) ∧ Below w.heap.size w w' := by
  go_enter Try.func27, Try.ntmps27
  go_wp2
  have hb := (Below.refl w.heap.size w).alloc (Nat.le_refl _) (.cells #[.int .i64 a0, .int .i64 a1, .string a2, .bool a3, .string a4] 39)
  have hk : (w.alloc (.cells #[.int .i64 a0, .int .i64 a1, .string a2, .bool a3, .string a4] 39)).heap[w.heap.size]? = some (.cells #[.int .i64 a0, .int .i64 a1, .string a2, .bool a3, .string a4] 39) := heap_alloc_new w _
  generalize (w.alloc (.cells #[.int .i64 a0, .int .i64 a1, .string a2, .bool a3, .string a4] 39)) = w1 at hb hk ⊢
  obtain ⟨c0, c1, c2, c3, c4⟩ := note_cells hk
  clear hk
  refine wp_region_past (by kernel_rfl) (by kernel_rfl) ?_
  repeat (go_big_quiet_step (fail))
  refine wpQuiet_nil ?_
  rintro _ ⟨p, rfl⟩
  go_wp2
  go_ret
  exact ⟨rfl, below_step hb p.h⟩
theorem valid_high (a0 a1 : Int) (a2 : ByteArray) (a3 : Bool) (a4 : ByteArray) (w : World) (h1 : decide (1 ≤ a0) = true) (h7 : decide (a0 ≤ 7) = false) :
    Calls Try.prog 27 #[.agg #[.int .i64 a0, .int .i64 a1, .string a2, .bool a3, .string a4]] w fun e w' => e = .returned (.bool false) ∧ Below w.heap.size w w' := by
  go_enter Try.func27, Try.ntmps27
  go_wp2
  have hb := (Below.refl w.heap.size w).alloc (Nat.le_refl _) (.cells #[.int .i64 a0, .int .i64 a1, .string a2, .bool a3, .string a4] 39)
  have hk : (w.alloc (.cells #[.int .i64 a0, .int .i64 a1, .string a2, .bool a3, .string a4] 39)).heap[w.heap.size]? = some (.cells #[.int .i64 a0, .int .i64 a1, .string a2, .bool a3, .string a4] 39) := heap_alloc_new w _
  generalize (w.alloc (.cells #[.int .i64 a0, .int .i64 a1, .string a2, .bool a3, .string a4] 39)) = w1 at hb hk ⊢
  obtain ⟨c0, c1, c2, c3, c4⟩ := note_cells hk
  clear hk
  refine wp_region_past (by kernel_rfl) (by kernel_rfl) ?_
  repeat (go_big_quiet_step (fail))
  refine wpQuiet_nil ?_
  rintro _ ⟨p, rfl⟩
  go_wp2
  go_ret
  exact ⟨rfl, below_step hb p.h⟩

/-- What Valid answers. -/
def journal_Valid.f (a0 a1 : Int) (a2 : ByteArray) (a3 : Bool) (a4 : ByteArray) : Option Bool :=
  if a0 < 1 then some false else if 7 < a0 then some false
  else if a0 = 2 ∨ a0 = 3 then journal_imaged.f a0 a1 a2 a3 a4
  else if a0 = 6 then journal_named.f a0 a1 a2 a3 a4
  else journal_plain.f a0 a1 a2 a3 a4
theorem journal_Valid.calls (a0_0 : Int) (a0_1 : Int) (a0_2 : ByteArray) (a0_3 : Bool) (a0_4 : ByteArray) (r : Bool) (w : World) (h : journal_Valid.f a0_0 a0_1 a0_2 a0_3 a0_4 = some r) :
    Calls Try.prog 27 #[.agg #[.int .i64 a0_0, .int .i64 a0_1, .string a0_2, .bool a0_3, .string a0_4]] w fun e w' => e = .returned (.bool r) ∧ Below w.heap.size w w' := by
  unfold journal_Valid.f at h
  by_cases h1 : a0_0 < 1
  · rw [if_pos h1] at h
    obtain rfl := Option.some.inj h
    exact valid_low _ _ _ _ _ w (decide_eq_false (by omega))
  rw [if_neg h1] at h
  have d1 : decide (1 ≤ a0_0) = true := decide_eq_true (by omega)
  by_cases h7 : 7 < a0_0
  · rw [if_pos h7] at h
    obtain rfl := Option.some.inj h
    exact valid_high _ _ _ _ _ w d1 (decide_eq_false (by omega))
  rw [if_neg h7] at h
  have d7 : decide (a0_0 ≤ 7) = true := decide_eq_true (by omega)
  by_cases h23 : a0_0 = 2 ∨ a0_0 = 3
  · rw [if_pos h23] at h
    refine valid_76 _ _ _ _ _ r w d1 d7 (fun w => ?_) (fun w => journal_imaged.calls _ _ _ _ _ r w h)
    rcases h23 with rfl | rfl
    · exact kinds_at2 w
    · exact kinds_at3 w
  rw [if_neg h23] at h
  by_cases h6 : a0_0 = 6
  · rw [if_pos h6] at h
    subst h6
    exact valid_77 _ _ _ _ _ r w d1 d7 kinds_at6 (fun w => journal_named.calls _ _ _ _ _ r w h)
  · rw [if_neg h6] at h
    refine valid_75 _ _ _ _ _ r w d1 d7 (fun w => ?_) (fun w => journal_plain.calls _ _ _ _ _ r w h)
    have : a0_0 = 1 ∨ a0_0 = 4 ∨ a0_0 = 5 ∨ a0_0 = 7 := by omega
    rcases this with rfl | rfl | rfl | rfl
    · exact kinds_at1 w
    · exact kinds_at4 w
    · exact kinds_at5 w
    · exact kinds_at7 w
/-- It answers. -/
theorem journal_Valid.some (a0 a1 : Int) (a2 : ByteArray) (a3 : Bool) (a4 : ByteArray) : ∃ r, journal_Valid.f a0 a1 a2 a3 a4 = some r := by
  unfold journal_Valid.f journal_imaged.f journal_named.f journal_plain.f journal_unit.f
  repeat' (first | exact ⟨_, rfl⟩ | split | (simp only [Option.bind_some]))
def vld (n : S39) : Bool := (journal_Valid.f n.f0 n.f1 n.f2 n.f3 n.f4).getD false
theorem vld_calls (n : S39) (w : World) : Calls Try.prog 27 #[.agg #[.int .i64 n.f0, .int .i64 n.f1, .string n.f2, .bool n.f3, .string n.f4]] w fun e w' => e = .returned (.bool (vld n)) ∧ Below w.heap.size w w' := by
  obtain ⟨r, h⟩ := journal_Valid.some n.f0 n.f1 n.f2 n.f3 n.f4
  have : vld n = r := by unfold vld; rw [h]; rfl
  rw [this]
  exact journal_Valid.calls _ _ _ _ _ r w h

/-! ### The closure, and the library's functions over it -/
theorem not_valid_calls (n : S39) (w : World) : Calls Try.prog 79 #[.agg #[.int .i64 n.f0, .int .i64 n.f1, .string n.f2, .bool n.f3, .string n.f4]] w fun e w' => e = .returned (.bool (!vld n)) ∧ Below w.heap.size w w' := by
  have hnot : ∀ (x : Bool) (w : World), (Op.unary .not (.bool x)).run Try.prog w = .ok (.bool (!x)) w := fun _ _ => rfl
  go_enter Try.func79, Try.ntmps79
  go_wp2_with fail
  refine (vld_calls n _).mono ?_
  rintro e w1 ⟨rfl, hb⟩
  go_wp2
  go_ret
  exact ⟨rfl, below_step ((Below.refl _ _).alloc (Nat.le_refl _) _) hb⟩
/-- The first note of which p holds, from k on. -/
def idx (p : S39 → Bool) : List S39 → Int → Int
  | [], _ => -1
  | n :: l, k => if p n then k else idx p l (k + 1)
theorem idx_any (p : S39 → Bool) : ∀ (l : List S39) (k : Int), 0 ≤ k → decide (0 ≤ idx p l k) = l.any p
  | [], _, _ => rfl
  | n :: l, k, h => by
    unfold idx
    rw [List.any_cons]
    cases hp : p n
    · simpa using idx_any p l (k + 1) (by omega)
    · simp [h]
theorem drop_rd {l0 : List S39} {k : Nat} (h : k < l0.length) : l0.drop k = rd_T39 l0 (k : Int) :: l0.drop (k + 1) := by
  have : rd_T39 l0 (k : Int) = l0[k] := by unfold rd_T39; rw [Int.toNat_natCast, List.getD_eq_getElem?_getD, List.getElem?_eq_getElem h]; rfl
  rw [this]
  exact List.drop_eq_getElem_cons h
theorem index_calls (A0 : Option Addr) (c0 : Nat) (l0 : List S39) (w : World) (hr0 : Kd.C k39 w A0 l0.length l0) :
    Calls Try.prog 88 #[.slice A0 l0.length c0, .func (.func 79) #[] #[]] w fun e w' => e = .returned (.int .i64 (idx (fun n => !vld n) l0 0)) ∧ Below w.heap.size w w' := by
  have HR0 := Aside0.mk hr0
  have hlm : l0.length ≤ 9223372036854775807 := Kd.C_max hr0
  clear hr0
  go_enter Try.func88, Try.ntmps88
  go_wp2
  go_loopg [8] (l0.length + 1) (fun kq v8 w' => ∃ k : Nat, k ≤ l0.length ∧ v8 = .int .i64 k ∧ Aside0 (kq + k = l0.length + 1) ∧ Aside0 (idx (fun n => !vld n) l0 0 = idx (fun n => !vld n) (l0.drop k) k) ∧ Aside0 (Below w.heap.size w w'))
  case atStart => exact ⟨0, Nat.zero_le _, rfl, ⟨by omega⟩, ⟨by simp⟩, ⟨Below.refl _ _⟩⟩
  case round =>
    obtain ⟨k, hk, rfl, HQ, HX, HB⟩ := hrel
    by_cases hlt : k < l0.length
    · obtain ⟨ad, rfl, h0, h1, h2, h3, h4⟩ := at_T39 (Kd.C_below HR0.out HB.out) (k : Int) (by omega) (by omega)
      rw [Int.toNat_natCast] at h0 h1 h2 h3 h4
      have hd := drop_rd hlt
      generalize rd_T39 l0 (k : Int) = n at h0 h1 h2 h3 h4 hd
      have HX' := Aside0.mk (HX.out.trans (congrArg (fun l => idx (fun n => !vld n) l k) hd))
      clear hd HX
      have HC := Aside0.mk (fun w => not_valid_calls n w)
      cases hv : vld n
      · rw [hv] at HC
        have HY := Aside0.mk (HX'.out.trans (show idx (fun n => !vld n) (n :: l0.drop (k + 1)) k = k by unfold idx; rw [hv]; rfl))
        clear hv HX'
        go_wp2_with (go_at_call 79; refine (HC.out _).mono ?_; rintro e w1 ⟨rfl, hb⟩)
        go_ret
        exact ⟨by rw [HY.out]; rfl, below_step HB.out hb⟩
      · rw [hv] at HC
        have HY := Aside0.mk (HX'.out.trans (show idx (fun n => !vld n) (n :: l0.drop (k + 1)) k = idx (fun n => !vld n) (l0.drop (k + 1)) (k + 1) by rw [idx]; rw [hv]; rfl))
        clear hv HX'
        go_wp2_with (go_at_call 79; refine (HC.out _).mono ?_; rintro e w1 ⟨rfl, hb⟩)
        go_roundg (gk - 1)
        case measure => have := HQ.out; omega
        case rel => exact ⟨k + 1, by omega, by go_num, ⟨by have := HQ.out; omega⟩, ⟨by rw [HY.out]; rfl⟩, ⟨below_step HB.out hb⟩⟩
    · have hke : k = l0.length := by omega
      subst hke
      have HY := Aside0.mk (HX.out.trans (show idx (fun n => !vld n) (l0.drop l0.length) l0.length = -1 by rw [List.drop_length]; rfl))
      clear HX
      go_wp2
      go_ret
      exact ⟨by rw [HY.out]; rfl, HB.out⟩
theorem contains_calls (A0 : Option Addr) (c0 : Nat) (l0 : List S39) (w : World) (hr0 : Kd.C k39 w A0 l0.length l0) :
    Calls Try.prog 78 #[.slice A0 l0.length c0, .func (.func 79) #[] #[]] w fun e w' => e = .returned (.bool (l0.any fun n => !vld n)) ∧ Below w.heap.size w w' := by
  have HR0 := Aside0.mk hr0
  clear hr0
  have HI := Aside0.mk (idx_any (fun n => !vld n) l0 0 (by omega))
  go_enter Try.func78, Try.ntmps78
  go_wp2_with (go_at_call 88; refine (index_calls _ _ _ _ HR0.out).mono ?_; rintro e w1 ⟨rfl, hb⟩)
  go_ret
  exact ⟨by rw [← HI.out]; rfl, hb⟩
/-- What valid answers. -/
def journal_valid.f (l0 : List (S39)) : Option (Bool) := some (decide (l0.length ≤ 1000) && l0.all vld)
theorem journal_valid.calls (A0 : Option Addr) (c0 : Nat) (l0 : List (S39)) (r : Bool) (w : World) (hr0 : Kd.C k39 w A0 l0.length l0) (hc0 : l0.length ≤ c0) (h : journal_valid.f l0 = some r) :
    Calls Try.prog 60 #[.slice A0 l0.length c0] w fun e w' => e = .returned (.bool r) ∧ Below w.heap.size w w' := by
  have HR0 := Aside0.mk hr0
  obtain rfl := Option.some.inj h
  clear hr0 hc0 h
  have hnot : ∀ (x : Bool) (w : World), (Op.unary .not (.bool x)).run Try.prog w = .ok (.bool (!x)) w := fun _ _ => rfl
  by_cases hl : l0.length ≤ 1000
  · have d : decide ((l0.length : Int) ≤ 1000) = true := decide_eq_true (by omega)
    have HE := Aside0.mk (show (decide (l0.length ≤ 1000) && l0.all vld) = !(l0.any fun n => !vld n) by rw [decide_eq_true hl, List.all_eq_not_any_not]; rfl)
    clear hl
    go_enter Try.func60, Try.ntmps60
    go_wp2_with (go_at_call 78; refine (contains_calls _ _ _ _ HR0.out).mono ?_; rintro e w1 ⟨rfl, hb⟩)
    go_ret
    exact ⟨by rw [HE.out]; rfl, hb⟩
  · have d : decide ((l0.length : Int) ≤ 1000) = false := decide_eq_false (by omega)
    have HE := Aside0.mk (show (decide (l0.length ≤ 1000) && l0.all vld) = false by rw [decide_eq_false hl]; rfl)
    clear hl
    go_enter Try.func60, Try.ntmps60
    go_wp2
    go_ret
    exact ⟨by rw [HE.out]; rfl, Below.refl _ _⟩
end Go.Proofs.Yteblpjnkinghoaa.J
/- slices.Reverse of images: the printed function and its contract, one step of the printed proof mended (two images of one row: their cells are apart). -/
namespace Go.Proofs.Yteblpjnkinghoaa.J
open Go.RowKit Go.Proofs.YteblpjnkinghoaaW.PrintWords Go.Proofs.YteblpjnkinghoaaW.PrintLast Go.Proofs.YteblpjnkinghoaaW.PrintMore
attribute [local go_sem] max2_int min2_int max_two min_two max_three min_three max_four min_four
/-! ### api_Image: function 38 -/
def api_Image.l0 : Nat → List (S41) → Int → Int → Option ((List (S41)))
  | 0, _, _, _ => none
  | k + 1, x0, x2, x3 => if x2 < x3 then (if 0 ≤ x3 then (if x3 < (x0.length : Int) then (if 0 ≤ x2 then (if x2 < (x0.length : Int) then (api_Image.l0 k ((x0.set (x2 : Int).toNat (⟨(rd_T41 x0 x3).f0, (rd_T41 x0 x3).f1, (rd_T41 x0 x3).f2⟩ : S41)).set (x3 : Int).toNat (⟨(rd_T41 x0 x2).f0, (rd_T41 x0 x2).f1, (rd_T41 x0 x2).f2⟩ : S41)) (wrap64 (x2 + 1)) (wrap64 (x3 - 1))) else (none)) else (none)) else (none)) else (none)) else (some x0)
def api_Image.f (k : Nat) (l0 : List (S41)) : Option ((List (S41))) := api_Image.l0 k l0 0 (wrap64 ((l0.length : Int) - 1))
def api_Image.T3 : Bool × List (List Nat × List Nat) := (true, [([], []), ([], []), ([], []), ([], []), ([], []), ([], []), ([4, 5], [4, 5]), ([6], [6]), ([], []), ([], []), ([8, 9], [8, 9]), ([10], [10]), ([0, 1, 0, 1, 4, 5, 6, 7, 11], [0, 1]), ([12, 7, 0, 1, 4, 5, 6, 7, 11], [7, 12]), ([2, 3, 0, 1, 2, 3, 4, 5, 6, 7, 8, 9, 10, 11, 12, 13], [2, 3]), ([14, 11, 13, 0, 1, 2, 3, 4, 5, 6, 7, 8, 9, 10, 11, 12, 13], [11, 14])])
def api_Image.B3 : List Nat := [0, 0, 0, 0, 0, 0, 48, 112, 0, 0, 768, 1792, 4083, 8179, 16383, 32767]
theorem api_Image.tab3 : rtab .any (opsOf Try.f38 3) = api_Image.T3 := by kernel_rfl
theorem api_Image.bits3 : waitsOk api_Image.T3.2 api_Image.B3 = true := by kernel_rfl
set_option maxHeartbeats 8000000 in
set_option maxRecDepth 100000 in
theorem api_Image.calls (k : Nat) (P0_ : Nat → Prop) (u9000_ : Value) (l0 : List (S41)) (r : List (S41)) (w0 w : World) (hB : Below w0.heap.size w0 w) (ho0 : Kd.R k41 41 w w0.heap.size P0_ u9000_ l0) (h : api_Image.f k l0 = some r) :
    Calls Try.prog 38 #[u9000_] w fun e w' => e = .returned (.tuple #[]) ∧ Kd.R k41 41 w' w0.heap.size (fun k_ => (P0_ k_ ∨ w.heap.size ≤ k_)) u9000_ r ∧ Below w0.heap.size w0 w' ∧ Kept w w' (fun k_ => P0_ k_) := by
  have hu41 := Try.underlying41
  have HO0 := Aside0.mk (show Kd.R k41 41 w w0.heap.size (fun k_ => (P0_ k_ ∨ w.heap.size ≤ k_)) u9000_ l0 from Kd.R_mono ho0 (fun k_ hk => (.inl hk)))
  have HK := Aside0.mk (Kept.refl w (fun k_ => P0_ k_))
  have HW0 := Aside0.mk hB.size
  have HB := Aside0.mk hB
  clear hB
  have H : (api_Image.l0 k l0 0 (wrap64 ((l0.length : Int) - 1))) = some r := h
  clear h
  have H' := Aside0.mk H
  clear H
  obtain ⟨Ao2, co2, eo2⟩ := Kd.R_slice HO0.out
  subst eo2
  go_enter Try.func38, Try.ntmps38
  go_wp2
  go_loopg [2, 3] k (fun kq v2 v3 w' => ∃ (x0_1 : List (S41)) (x2_1 : Int) (x3_1 : Int), v2 = .int .i64 x2_1 ∧ v3 = .int .i64 x3_1 ∧ Aside0 (api_Image.l0 kq x0_1 x2_1 x3_1 = some r) ∧ Aside0 (kq ≤ k) ∧ Aside0 (Kd.R k41 41 w' w0.heap.size (fun k_ => (P0_ k_ ∨ w.heap.size ≤ k_)) (.slice Ao2 l0.length co2) x0_1) ∧ Aside0 (Kept w w' (fun k_ => P0_ k_)) ∧ Aside0 (Below w0.heap.size w0 w'))
  case atStart => exact ⟨(l0), (0), (wrap64 ((l0.length : Int) - 1)), (by first | rfl | (simp; done) | (simp [*]; done)), (by first | rfl | (simp; done) | (simp [*]; done)), H', ⟨Nat.le_refl _⟩, ⟨by (with_reducible repeat (first | apply Kd.R_alloc | apply Kd.R_drewN | apply Kd.R_drew)); exact HO0.out⟩, ⟨by repeat (first | (with_reducible first | exact HK.out | apply Kept.alloc | apply Kept.drewN | apply Kept.drew) | exact HK.out)⟩, ⟨by repeat (first | (with_reducible first | exact HB.out | apply below_alloc | apply pw_below_drewN | apply below_drew1) | exact HB.out)⟩⟩
  case round =>
    clear H'
    try clear p2
    obtain ⟨x0_1, x2_1, x3_1, rfl, rfl, HA, HK1, HO_0, HK, HB⟩ := hrel
    have hl0_1 := (Kd.R_reads' HO_0.out).1
    rw [hl0_1] at HO_0
    (try simp only [hl0_1])
    cases gk with
    | zero => exact absurd HA.out (by simp [api_Image.l0])
    | succ k1 =>
      have H := HA.out
      clear HA
      simp only [api_Image.l0] at H
      by_cases c3 : x2_1 < x3_1
      · rw [if_pos c3] at H
        have c3b0 : decide (x2_1 < x3_1) = true := decide_eq_true c3
        clear c3
        by_cases c4 : 0 ≤ x3_1
        · rw [if_pos c4] at H
          have c4b0 : decide (0 ≤ x3_1) = true := decide_eq_true c4
          clear c4
          by_cases c5 : x3_1 < (x0_1.length : Int)
          · rw [if_pos c5] at H
            have c5b0 : decide (x3_1 < (x0_1.length : Int)) = true := decide_eq_true c5
            clear c5
            by_cases c6 : 0 ≤ x2_1
            · rw [if_pos c6] at H
              have c6b0 : decide (0 ≤ x2_1) = true := decide_eq_true c6
              clear c6
              by_cases c7 : x2_1 < (x0_1.length : Int)
              · rw [if_pos c7] at H
                have c7b0 : decide (x2_1 < (x0_1.length : Int)) = true := decide_eq_true c7
                clear c7
                obtain ⟨y111, hy111⟩ : ∃ y_ : List (S41), y_ = (x0_1.set (x2_1 : Int).toNat (⟨(rd_T41 x0_1 x3_1).f0, (rd_T41 x0_1 x3_1).f1, (rd_T41 x0_1 x3_1).f2⟩ : S41)) := ⟨_, rfl⟩
                replace H : (api_Image.l0 k1 (y111.set (x3_1 : Int).toNat (⟨(rd_T41 x0_1 x2_1).f0, (rd_T41 x0_1 x2_1).f1, (rd_T41 x0_1 x2_1).f2⟩ : S41)) (wrap64 (x2_1 + 1)) (wrap64 (x3_1 - 1))) = some r := by first | (rw [hy111]; with_reducible exact H) | (have H2_ := (Option.bind_some _ _).symm.trans H; rw [hy111]; with_reducible exact H2_) | (have H2_ := (Option.bind_some _ _).symm.trans H; with_reducible exact H2_) | with_reducible exact H | (rw [hy111]; exact H) | exact H
                have Ny111 := Aside0.mk hy111
                clear hy111
                obtain ⟨y112, hy112⟩ : ∃ y_ : List (S41), y_ = (y111.set (x3_1 : Int).toNat (⟨(rd_T41 x0_1 x2_1).f0, (rd_T41 x0_1 x2_1).f1, (rd_T41 x0_1 x2_1).f2⟩ : S41)) := ⟨_, rfl⟩
                replace H : (api_Image.l0 k1 y112 (wrap64 (x2_1 + 1)) (wrap64 (x3_1 - 1))) = some r := by first | (rw [hy112]; with_reducible exact H) | (have H2_ := (Option.bind_some _ _).symm.trans H; rw [hy112]; with_reducible exact H2_) | (have H2_ := (Option.bind_some _ _).symm.trans H; with_reducible exact H2_) | with_reducible exact H | (rw [hy112]; exact H) | exact H
                have Ny112 := Aside0.mk hy112
                clear hy112
                have H' := Aside0.mk H
                clear H
                try go_wp2
                have n0_ := Aside0.mk (Kd.R_drew HO_0.out)
                have n1_ := Aside0.mk (Kept.drew HK.out)
                have n2_ := Aside0.mk (below_drew1 HB.out)
                clear HO_0
                clear HK
                clear HB
                have HO_0 := n0_
                have HK := n1_
                have HB := n2_
                clear n0_ n1_ n2_
                have p109 : 0 ≤ (x3_1 : Int) := of_decide_eq_true (by first | (with_reducible assumption) | assumption)
                have q109 : x3_1 < (x0_1.length : Int) := of_decide_eq_true (by first | (with_reducible assumption) | assumption)
                obtain ⟨ad109, e109, hx109_0, hx109_1, hx109_2⟩ := at_T41 (Kd.R_reads' HO_0.out).2.2 x3_1 p109 q109
                cases e109
                replace p109 := eq_true p109
                replace q109 := eq_true q109
                have p110 : 0 ≤ (x2_1 : Int) := of_decide_eq_true (by first | (with_reducible assumption) | assumption)
                have q110 : x2_1 < (x0_1.length : Int) := of_decide_eq_true (by first | (with_reducible assumption) | assumption)
                obtain ⟨ad110, e110, hx110_0, hx110_1, hx110_2⟩ := at_T41 (Kd.R_reads' HO_0.out).2.2 x2_1 p110 q110
                obtain rfl : ad109 = ad110 := (by injection e110)
                replace p110 := eq_true p110
                replace q110 := eq_true q110
                have p8 : 0 ≤ (x2_1 : Int) := of_decide_eq_true (by first | (with_reducible assumption) | assumption)
                have q8 : (x2_1 : Int) < ((x0_1.length : Int) : Int) := of_decide_eq_true (by first | (with_reducible assumption) | assumption)
                obtain ⟨go8, co8, eo8, gb8, gl8, cl8, HG8⟩ := Kd.R_form HO_0.out (by omega)
                (first | cases eo8 | (injection eo8 with ea_ en_ ec_; (first | subst ea_ | (injection ea_ with ea_; subst ea_)); subst ec_; clear en_))
                have GB8 := Aside0.mk gb8
                have GG8 := Aside0.mk HG8
                clear gb8 gl8 HG8
                have HMgo8 := Aside0.mk (show (P0_ go8 ∨ w.heap.size ≤ go8) from (HO_0.out.1 _ rfl))
                (first | simp only [add_plain] at hx109_0 | skip)
                (first | simp only [add_plain] at hx109_1 | skip)
                (first | simp only [add_plain] at hx109_2 | skip)
                (first | simp only [add_plain] at hx110_0 | skip)
                (first | simp only [add_plain] at hx110_1 | skip)
                (first | simp only [add_plain] at hx110_2 | skip)
                obtain ⟨ce8, hcl8, hM8, hcc8, hfr8⟩ := Kd.R_elem HO_0.out z41 (x2_1 : Int) p8 q8
                obtain rfl := k41_openM hM8
                have hx8_0 : World.cell? _ ⟨go8, (x2_1 : Int).toNat * 3, none⟩ = some (.string ((rd_T41 x0_1 x2_1).f0)) := hcc8 0 _ rfl
                have hx8_1 : World.cell? _ ⟨go8, (x2_1 : Int).toNat * 3 + 1, none⟩ = some (.bool ((rd_T41 x0_1 x2_1).f1)) := hcc8 1 _ rfl
                have hx8_2 : World.cell? _ ⟨go8, (x2_1 : Int).toNat * 3 + 2, none⟩ = some (.string ((rd_T41 x0_1 x2_1).f2)) := hcc8 2 _ rfl
                have hf8_0 : World.frozen? _ ⟨go8, (x2_1 : Int).toNat * 3, none⟩ = false := hfr8 0
                have hf8_1 : World.frozen? _ ⟨go8, (x2_1 : Int).toNat * 3 + 1, none⟩ = false := hfr8 1
                have hf8_2 : World.frozen? _ ⟨go8, (x2_1 : Int).toNat * 3 + 2, none⟩ = false := hfr8 2
                clear hcl8 hcc8 hfr8 hM8
                replace p8 := eq_true p8
                replace q8 := eq_true q8
                obtain ⟨ce11, hcl11, hM11, hcc11, hfr11⟩ := Kd.R_elem HO_0.out z41 (x2_1 : Int) (of_decide_eq_true (by first | (with_reducible assumption) | assumption)) (by have h_ : (x2_1 : Int) < ((x0_1.length : Int) : Int) := of_decide_eq_true (by first | (with_reducible assumption) | assumption); first | exact h_ | (have e_ := (Kd.R_reads' HO_0.out).1; omega) | simpa using h_)
                obtain rfl := k41_openM hM11
                have HP11 := (Kd.R_seg HO_0.out (x2_1 : Int) (of_decide_eq_true (by first | (with_reducible assumption) | assumption)) (by have h_ : (x2_1 : Int) < ((x0_1.length : Int) : Int) := of_decide_eq_true (by first | (with_reducible assumption) | assumption); first | exact h_ | (have e_ := (Kd.R_reads' HO_0.out).1; omega) | simpa using h_) (seg := [.string ((rd_T41 x0_1 x3_1).f0), .bool ((rd_T41 x0_1 x3_1).f1), .string ((rd_T41 x0_1 x3_1).f2)]) (j := 0) hcl11 hcc11 (show 3 ≤ 3 from by decide) (x' := (⟨(rd_T41 x0_1 x3_1).f0, (rd_T41 x0_1 x3_1).f1, (rd_T41 x0_1 x3_1).f2⟩ : S41)) (k41_mkM _ _ _ (⟨(rd_T41 x0_1 x3_1).f0, (rd_T41 x0_1 x3_1).f1, (rd_T41 x0_1 x3_1).f2⟩ : S41) ) (fun _ hk => hk)).1
                rw [← Ny111.out] at HP11
                have HQ11 := Aside0.mk HP11
                clear hcl11 hcc11 hfr11 hM11 HP11
                have p9 : 0 ≤ (x3_1 : Int) := of_decide_eq_true (by first | (with_reducible assumption) | assumption)
                have q9 : (x3_1 : Int) < ((x0_1.length : Int) : Int) := of_decide_eq_true (by first | (with_reducible assumption) | assumption)
                obtain ⟨ce9, hcl9, hM9, hcc9, hfr9⟩ := Kd.R_elem HQ11.out z41 (x3_1 : Int) p9 q9
                obtain rfl := k41_openM hM9
                have hx9_0 : World.cell? _ ⟨go8, (x3_1 : Int).toNat * 3, none⟩ = some (.string ((rd_T41 y111 x3_1).f0)) := hcc9 0 _ rfl
                have hx9_1 : World.cell? _ ⟨go8, (x3_1 : Int).toNat * 3 + 1, none⟩ = some (.bool ((rd_T41 y111 x3_1).f1)) := hcc9 1 _ rfl
                have hx9_2 : World.cell? _ ⟨go8, (x3_1 : Int).toNat * 3 + 2, none⟩ = some (.string ((rd_T41 y111 x3_1).f2)) := hcc9 2 _ rfl
                have hf9_0 : World.frozen? _ ⟨go8, (x3_1 : Int).toNat * 3, none⟩ = false := hfr9 0
                have hf9_1 : World.frozen? _ ⟨go8, (x3_1 : Int).toNat * 3 + 1, none⟩ = false := hfr9 1
                have hf9_2 : World.frozen? _ ⟨go8, (x3_1 : Int).toNat * 3 + 2, none⟩ = false := hfr9 2
                clear hcl9 hcc9 hfr9 hM9
                replace p9 := eq_true p9
                replace q9 := eq_true q9
                obtain ⟨ce12, hcl12, hM12, hcc12, hfr12⟩ := Kd.R_elem HQ11.out z41 (x3_1 : Int) (of_decide_eq_true (by first | (with_reducible assumption) | assumption)) (by have h_ : (x3_1 : Int) < ((x0_1.length : Int) : Int) := of_decide_eq_true (by first | (with_reducible assumption) | assumption); first | exact h_ | (have e_ := (Kd.R_reads' HO_0.out).1; omega) | simpa using h_)
                obtain rfl := k41_openM hM12
                have HP12 := (Kd.R_seg HQ11.out (x3_1 : Int) (of_decide_eq_true (by first | (with_reducible assumption) | assumption)) (by have h_ : (x3_1 : Int) < ((x0_1.length : Int) : Int) := of_decide_eq_true (by first | (with_reducible assumption) | assumption); first | exact h_ | (have e_ := (Kd.R_reads' HO_0.out).1; omega) | simpa using h_) (seg := [.string ((rd_T41 x0_1 x2_1).f0), .bool ((rd_T41 x0_1 x2_1).f1), .string ((rd_T41 x0_1 x2_1).f2)]) (j := 0) hcl12 hcc12 (show 3 ≤ 3 from by decide) (x' := (⟨(rd_T41 x0_1 x2_1).f0, (rd_T41 x0_1 x2_1).f1, (rd_T41 x0_1 x2_1).f2⟩ : S41)) (k41_mkM _ _ _ (⟨(rd_T41 x0_1 x2_1).f0, (rd_T41 x0_1 x2_1).f1, (rd_T41 x0_1 x2_1).f2⟩ : S41) ) (fun _ hk => hk)).1
                rw [← Ny112.out] at HP12
                have HQ12 := Aside0.mk HP12
                clear hcl12 hcc12 hfr12 hM12 HP12
                refine start_ (n := 16) (S := fun w' => w'.cell? ⟨go8, ((x3_1).toNat * 3), none⟩ = some (.string ((rd_T41 x0_1 x3_1).f0)) ∧ w'.cell? ⟨go8, ((x3_1).toNat * 3) + 1, none⟩ = some (.bool ((rd_T41 x0_1 x3_1).f1)) ∧ w'.cell? ⟨go8, ((x3_1).toNat * 3) + 2, none⟩ = some (.string ((rd_T41 x0_1 x3_1).f2)) ∧ w'.cell? ⟨go8, ((x2_1).toNat * 3), none⟩ = some (.string ((rd_T41 x0_1 x2_1).f0)) ∧ w'.cell? ⟨go8, ((x2_1).toNat * 3) + 1, none⟩ = some (.bool ((rd_T41 x0_1 x2_1).f1)) ∧ w'.cell? ⟨go8, ((x2_1).toNat * 3) + 2, none⟩ = some (.string ((rd_T41 x0_1 x2_1).f2))) (ds := [13, 15]) #[false, false, false, false, false, false, false, false, false, false, false, false, false, false, false, false] (by kernel_rfl) rfl rfl ⟨hx109_0, hx109_1, hx109_2, hx110_0, hx110_1, hx110_2⟩ (fun hHeld => ?_); refine with_tabW api_Image.tab3 api_Image.bits3 (fun HT_ HW_ => ?_)
                generalize wr.drew = w10 at HO_0 HK HB GG8 HQ11 HQ12 hf8_0 hf8_1 hf8_2 hf9_0 hf9_1 hf9_2 hx109_0 hx109_1 hx109_2 hx110_0 hx110_1 hx110_2 hx8_0 hx8_1 hx8_2 hx9_0 hx9_1 hx9_2 hHeld ⊢
                refine pure_ (i := 0) (N := some 14) (v := ?_) (a' := ?_) #[true, false, false, false, false, false, false, false, false, false, false, false, false, false, false, false] rfl rfl (any_of HT_.out (by kernel_rfl)) (fun _ _ _ h => h) (Or.inl ⟨by rfl, ?_⟩) ?_ ?_
                rotate_left
                · intro w'
                  go_simp
                  with_reducible rfl
                rotate_left
                · simp only [Act.put, List.setIfInBounds_toArray, List.set_cons_zero, List.set_cons_succ, i64_w, i32_w]
                  rfl
                refine pure_ (i := 1) (N := some 15) (v := ?_) (a' := ?_) #[true, true, false, false, false, false, false, false, false, false, false, false, false, false, false, false] rfl rfl (any_of HT_.out (by kernel_rfl)) (fun _ _ _ h => h) (Or.inl ⟨by rfl, ?_⟩) ?_ ?_
                rotate_left
                · intro w'
                  go_simp
                  with_reducible rfl
                rotate_left
                · simp only [Act.put, List.setIfInBounds_toArray, List.set_cons_zero, List.set_cons_succ, i64_w, i32_w]
                  rfl
                refine pure_ (i := 2) (N := some 16) (v := ?_) (a' := ?_) #[true, true, true, false, false, false, false, false, false, false, false, false, false, false, false, false] rfl rfl (any_of HT_.out (by kernel_rfl)) (fun _ _ _ h => h) (Or.inl ⟨by rfl, ?_⟩) ?_ ?_
                rotate_left
                · intro w'
                  go_simp
                  with_reducible rfl
                rotate_left
                · simp only [Act.put, List.setIfInBounds_toArray, List.set_cons_zero, List.set_cons_succ, i64_w, i32_w]
                  rfl
                refine pure_ (i := 3) (N := some 17) (v := ?_) (a' := ?_) #[true, true, true, true, false, false, false, false, false, false, false, false, false, false, false, false] rfl rfl (any_of HT_.out (by kernel_rfl)) (fun _ _ _ h => h) (Or.inl ⟨by rfl, ?_⟩) ?_ ?_
                rotate_left
                · intro w'
                  go_simp
                  with_reducible rfl
                rotate_left
                · simp only [Act.put, List.setIfInBounds_toArray, List.set_cons_zero, List.set_cons_succ, i64_w, i32_w]
                  rfl
                refine pure_ (i := 4) (N := some 18) (v := ?_) (a' := ?_) #[true, true, true, true, true, false, false, false, false, false, false, false, false, false, false, false] rfl rfl (any_of HT_.out (by kernel_rfl)) (fun _ _ _ h => h) (Or.inl ⟨by rfl, ?_⟩) ?_ ?_
                rotate_left
                · intro w'
                  go_simp
                  with_reducible rfl
                rotate_left
                · simp only [Act.put, List.setIfInBounds_toArray, List.set_cons_zero, List.set_cons_succ, i64_w, i32_w]
                  rfl
                refine pure_ (i := 5) (N := some 19) (v := ?_) (a' := ?_) #[true, true, true, true, true, true, false, false, false, false, false, false, false, false, false, false] rfl rfl (any_of HT_.out (by kernel_rfl)) (fun _ _ _ h => h) (Or.inl ⟨by rfl, ?_⟩) ?_ ?_
                rotate_left
                · intro w'
                  go_simp
                  with_reducible rfl
                rotate_left
                · simp only [Act.put, List.setIfInBounds_toArray, List.set_cons_zero, List.set_cons_succ, i64_w, i32_w]
                  rfl
                refine pure_ (i := 6) (N := some 20) (v := ?_) (a' := ?_) #[true, true, true, true, true, true, true, false, false, false, false, false, false, false, false, false] rfl rfl (any_of HT_.out (by kernel_rfl)) (fun _ _ _ h => h) (Or.inl ⟨by rfl, ?_⟩) ?_ ?_
                rotate_left
                · intro w'
                  go_simp
                  with_reducible rfl
                rotate_left
                · simp only [Act.put, List.setIfInBounds_toArray, List.set_cons_zero, List.set_cons_succ, i64_w, i32_w]
                  rfl
                refine pure_ (i := 8) (N := some 22) (v := ?_) (a' := ?_) #[true, true, true, true, true, true, true, false, true, false, false, false, false, false, false, false] rfl rfl (any_of HT_.out (by kernel_rfl)) (fun _ _ _ h => h) (Or.inl ⟨by rfl, ?_⟩) ?_ ?_
                rotate_left
                · intro w'
                  go_simp
                  with_reducible rfl
                rotate_left
                · simp only [Act.put, List.setIfInBounds_toArray, List.set_cons_zero, List.set_cons_succ, i64_w, i32_w]
                  rfl
                refine pure_ (i := 9) (N := some 23) (v := ?_) (a' := ?_) #[true, true, true, true, true, true, true, false, true, true, false, false, false, false, false, false] rfl rfl (any_of HT_.out (by kernel_rfl)) (fun _ _ _ h => h) (Or.inl ⟨by rfl, ?_⟩) ?_ ?_
                rotate_left
                · intro w'
                  go_simp
                  with_reducible rfl
                rotate_left
                · simp only [Act.put, List.setIfInBounds_toArray, List.set_cons_zero, List.set_cons_succ, i64_w, i32_w]
                  rfl
                refine pure_ (i := 10) (N := some 24) (v := ?_) (a' := ?_) #[true, true, true, true, true, true, true, false, true, true, true, false, false, false, false, false] rfl rfl (any_of HT_.out (by kernel_rfl)) (fun _ _ _ h => h) (Or.inl ⟨by rfl, ?_⟩) ?_ ?_
                rotate_left
                · intro w'
                  go_simp
                  with_reducible rfl
                rotate_left
                · simp only [Act.put, List.setIfInBounds_toArray, List.set_cons_zero, List.set_cons_succ, i64_w, i32_w]
                  rfl
                refine take_ (i := 7) (N := some 21) (v := ?_) (a' := ?_) #[true, true, true, true, true, true, true, true, true, true, true, false, false, false, false, false] rfl rfl (take_ofW HT_.out HW_.out (by kernel_rfl)) (fun _ _ _ h => h) (Or.inl ⟨by rfl, ?_⟩) hHeld ?_ ?_
                rotate_left
                · rintro w' ⟨s0, s1, s2, s3, s4, s5⟩
                  go_simp
                  with_reducible rfl
                rotate_left
                · simp only [Act.put, List.setIfInBounds_toArray, List.set_cons_zero, List.set_cons_succ, i64_w, i32_w]
                  rfl
                refine take_ (i := 11) (N := some 25) (v := ?_) (a' := ?_) #[true, true, true, true, true, true, true, true, true, true, true, true, false, false, false, false] rfl rfl (take_ofW HT_.out HW_.out (by kernel_rfl)) (fun _ _ _ h => h) (Or.inl ⟨by rfl, ?_⟩) hHeld ?_ ?_
                rotate_left
                · rintro w' ⟨s0, s1, s2, s3, s4, s5⟩
                  go_simp
                  with_reducible rfl
                rotate_left
                · simp only [Act.put, List.setIfInBounds_toArray, List.set_cons_zero, List.set_cons_succ, i64_w, i32_w]
                  rfl
                refine pure_ (i := 12) (N := some 26) (v := ?_) (a' := ?_) #[true, true, true, true, true, true, true, true, true, true, true, true, true, false, false, false] rfl rfl (any_of HT_.out (by kernel_rfl)) (fun _ _ _ h => h) (Or.inl ⟨by rfl, ?_⟩) ?_ ?_
                rotate_left
                · intro w'
                  go_simp
                  with_reducible rfl
                rotate_left
                · simp only [Act.put, List.setIfInBounds_toArray, List.set_cons_zero, List.set_cons_succ, i64_w, i32_w]
                  rfl
                have hne_ : x2_1.toNat ≠ x3_1.toNat := by
                  have h1 := of_decide_eq_true c3b0
                  have h2 := of_decide_eq_true c6b0
                  omega
                have hfr0 : w10.frozen? ⟨go8, x3_1.toNat * 3, none⟩ = false := by rw [← hf9_0, World.frozen?_setCells]
                have hfr1 : w10.frozen? ⟨go8, x3_1.toNat * 3 + 1, none⟩ = false := by rw [← hf9_1, World.frozen?_setCells]
                have hfr2 : w10.frozen? ⟨go8, x3_1.toNat * 3 + 2, none⟩ = false := by rw [← hf9_2, World.frozen?_setCells]
                have hz00 : ∀ (W : World) u, (W.setCell ⟨go8, x2_1.toNat * 3, none⟩ u).cell? ⟨go8, x3_1.toNat * 3, none⟩ = W.cell? ⟨go8, x3_1.toNat * 3, none⟩ := fun W u => World.cell?_setCell_other _ _ _ _ (by rw [ne_eq, Addr.mk.injEq]; omega)
                have hz01 : ∀ (W : World) u, (W.setCell ⟨go8, x2_1.toNat * 3, none⟩ u).cell? ⟨go8, x3_1.toNat * 3 + 1, none⟩ = W.cell? ⟨go8, x3_1.toNat * 3 + 1, none⟩ := fun W u => World.cell?_setCell_other _ _ _ _ (by rw [ne_eq, Addr.mk.injEq]; omega)
                have hz02 : ∀ (W : World) u, (W.setCell ⟨go8, x2_1.toNat * 3, none⟩ u).cell? ⟨go8, x3_1.toNat * 3 + 2, none⟩ = W.cell? ⟨go8, x3_1.toNat * 3 + 2, none⟩ := fun W u => World.cell?_setCell_other _ _ _ _ (by rw [ne_eq, Addr.mk.injEq]; omega)
                have hz10 : ∀ (W : World) u, (W.setCell ⟨go8, x2_1.toNat * 3 + 1, none⟩ u).cell? ⟨go8, x3_1.toNat * 3, none⟩ = W.cell? ⟨go8, x3_1.toNat * 3, none⟩ := fun W u => World.cell?_setCell_other _ _ _ _ (by rw [ne_eq, Addr.mk.injEq]; omega)
                have hz11 : ∀ (W : World) u, (W.setCell ⟨go8, x2_1.toNat * 3 + 1, none⟩ u).cell? ⟨go8, x3_1.toNat * 3 + 1, none⟩ = W.cell? ⟨go8, x3_1.toNat * 3 + 1, none⟩ := fun W u => World.cell?_setCell_other _ _ _ _ (by rw [ne_eq, Addr.mk.injEq]; omega)
                have hz12 : ∀ (W : World) u, (W.setCell ⟨go8, x2_1.toNat * 3 + 1, none⟩ u).cell? ⟨go8, x3_1.toNat * 3 + 2, none⟩ = W.cell? ⟨go8, x3_1.toNat * 3 + 2, none⟩ := fun W u => World.cell?_setCell_other _ _ _ _ (by rw [ne_eq, Addr.mk.injEq]; omega)
                have hz20 : ∀ (W : World) u, (W.setCell ⟨go8, x2_1.toNat * 3 + 2, none⟩ u).cell? ⟨go8, x3_1.toNat * 3, none⟩ = W.cell? ⟨go8, x3_1.toNat * 3, none⟩ := fun W u => World.cell?_setCell_other _ _ _ _ (by rw [ne_eq, Addr.mk.injEq]; omega)
                have hz21 : ∀ (W : World) u, (W.setCell ⟨go8, x2_1.toNat * 3 + 2, none⟩ u).cell? ⟨go8, x3_1.toNat * 3 + 1, none⟩ = W.cell? ⟨go8, x3_1.toNat * 3 + 1, none⟩ := fun W u => World.cell?_setCell_other _ _ _ _ (by rw [ne_eq, Addr.mk.injEq]; omega)
                have hz22 : ∀ (W : World) u, (W.setCell ⟨go8, x2_1.toNat * 3 + 2, none⟩ u).cell? ⟨go8, x3_1.toNat * 3 + 2, none⟩ = W.cell? ⟨go8, x3_1.toNat * 3 + 2, none⟩ := fun W u => World.cell?_setCell_other _ _ _ _ (by rw [ne_eq, Addr.mk.injEq]; omega)
                clear hne_
                refine last_ (i := 13) (N := none) #[true, true, true, true, true, true, true, true, true, true, true, true, true, true, false, false] rfl rfl (one_of HT_.out (by kernel_rfl)) (by decide) (fun K hK => ?_)
                refine skip_ (w1 := ?_) (by rfl) rfl ?_ ?_
                rotate_left
                · go_simp
                  rfl
                refine hK.out _ _ ?_
                clear hK K
                refine pure_ (i := 14) (N := some 27) (v := ?_) (a' := ?_) #[true, true, true, true, true, true, true, true, true, true, true, true, true, true, true, false] rfl rfl (any_of HT_.out (by kernel_rfl)) (fun _ _ _ h => h) (Or.inl ⟨by rfl, ?_⟩) ?_ ?_
                rotate_left
                · intro w'
                  go_simp
                  with_reducible rfl
                rotate_left
                · simp only [Act.put, List.setIfInBounds_toArray, List.set_cons_zero, List.set_cons_succ, i64_w, i32_w]
                  rfl
                refine last_ (i := 15) (N := none) #[true, true, true, true, true, true, true, true, true, true, true, true, true, true, true, true] rfl rfl (one_of HT_.out (by kernel_rfl)) (by decide) (fun K hK => ?_)
                refine skip_ (w1 := ?_) (by rfl) rfl ?_ ?_
                rotate_left
                · go_simp
                  rfl
                refine hK.out _ _ ?_
                clear hK K
                refine done_ (done_of HT_.out (by kernel_rfl)) ?_
                try go_wp2
                (try simp only [← hl0_1])
                go_roundg k1
                case measure => have := HK1.out; omega
                case rel => exact ⟨(y112), (wrap64 (x2_1 + 1)), (wrap64 (x3_1 - 1)), (by first | rfl | (simp; done) | (simp [*]; done)), (by first | rfl | (simp; done) | (simp [*]; done)), H', ⟨by have := HK1.out; omega⟩, ⟨by (try simp only [hl0_1]); (with_reducible repeat (first | apply Kd.R_alloc | apply Kd.R_drewN | apply Kd.R_drew)); exact HQ12.out⟩, ⟨by repeat (first | (with_reducible first | exact HK.out | apply Kept.alloc | apply Kept.drewN | apply Kept.drew | refine Kept.setCell ?_ HMgo8.out _ | refine Kept.setCell ?_ HMgo8.out _ | refine Kept.setCell ?_ HMgo8.out _ | refine Kept.setCell ?_ HMgo8.out _ | refine Kept.setCell ?_ HMgo8.out _ | refine Kept.setCell ?_ HMgo8.out _) | exact HK.out)⟩, ⟨by repeat (first | (with_reducible first | exact HB.out | apply below_alloc | apply pw_below_drewN | apply below_drew1 | refine below_set ?_ GB8.out | refine below_set ?_ GB8.out | refine below_set ?_ GB8.out | refine below_set ?_ GB8.out | refine below_set ?_ GB8.out | refine below_set ?_ GB8.out) | exact HB.out)⟩⟩
              · rw [if_neg c7] at H
                exact absurd H (by simp)
            · rw [if_neg c6] at H
              exact absurd H (by simp)
          · rw [if_neg c5] at H
            exact absurd H (by simp)
        · rw [if_neg c4] at H
          exact absurd H (by simp)
      · rw [if_neg c3] at H
        have c3b0 : decide (x2_1 < x3_1) = false := decide_eq_false c3
        clear c3
        obtain rfl := Option.some.inj H
        go_wp2
        first | go_end0 | ((try simp only [Exit.inBlock, Exit.then]); refine bodyPost_ret (results_none rfl _ _ _) rfl ?_)
        exact ⟨by first | rfl | (simp [errW_none, errW_some] <;> rfl) | (simp [*, errW_none, errW_some] <;> rfl), (by first | exact (by (with_reducible repeat (first | apply Kd.R_alloc | apply Kd.R_drewN | apply Kd.R_drew)); exact HO_0.out) | (simp only [hl0_1]; exact (by (with_reducible repeat (first | apply Kd.R_alloc | apply Kd.R_drewN | apply Kd.R_drew)); exact HO_0.out))), by repeat (first | (with_reducible first | exact HB.out | apply below_alloc | apply pw_below_drewN | apply below_drew1) | exact HB.out), by repeat (first | (with_reducible first | exact HK.out | apply Kept.alloc | apply Kept.drewN | apply Kept.drew) | exact HK.out)⟩

end Go.Proofs.Yteblpjnkinghoaa.J
/- slices.Reverse of images, as the printed function has it, is the list turned round. -/
namespace Go.Proofs.Yteblpjnkinghoaa.J
open Go.BigFrame Go.RowKit Go.Proofs.YteblpjnkinghoaaW.PrintWords Go.Proofs.YteblpjnkinghoaaW.PrintLast Go.Proofs.YteblpjnkinghoaaW.PrintMore
theorem rd41_at {x : List S41} {k : Nat} (h : k < x.length) : x[k]? = some (rd_T41 x (k : Int)) := by
  unfold rd_T41
  rw [Int.toNat_natCast, List.getD_eq_getElem?_getD, List.getElem?_eq_getElem h]; rfl
theorem rev_from : ∀ (k : Nat) (x : List S41) (i j : Nat), x.length ≤ 9223372036854775807 → i + j + 1 = x.length → i ≤ j + 1 → x.length + 1 ≤ 2 * (i + k) →
    ∃ y, api_Image.l0 k x (i : Int) (j : Int) = some y ∧ y.length = x.length ∧ ∀ m, y[m]? = if i ≤ m ∧ m ≤ j then x[x.length - 1 - m]? else x[m]?
  | 0, x, i, j, hl, hn, h1, hk => by omega
  | k + 1, x, i, j, hl, hn, h1, hk => by
    rw [api_Image.l0]
    by_cases hij : i < j
    · rw [if_pos (by omega), if_pos (by omega), if_pos (by omega), if_pos (by omega), if_pos (by omega)]
      have w1 : wrap64 ((i : Int) + 1) = ((i + 1 : Nat) : Int) := by unfold wrap64; omega
      have w2 : wrap64 ((j : Int) - 1) = ((j - 1 : Nat) : Int) := by unfold wrap64; omega
      rw [w1, w2, Int.toNat_natCast, Int.toNat_natCast]
      have hi := rd41_at (x := x) (k := i) (by omega)
      have hj := rd41_at (x := x) (k := j) (by omega)
      generalize rd_T41 x (i : Int) = a at hi ⊢
      generalize rd_T41 x (j : Int) = b at hj ⊢
      have ea : (⟨a.f0, a.f1, a.f2⟩ : S41) = a := rfl
      have eb : (⟨b.f0, b.f1, b.f2⟩ : S41) = b := rfl
      rw [ea, eb]
      obtain ⟨y, hy, hyl, hym⟩ := rev_from k ((x.set i b).set j a) (i + 1) (j - 1) (by simpa using hl) (by simp; omega) (by omega) (by simp; omega)
      refine ⟨y, hy, by rw [hyl]; simp, fun m => ?_⟩
      rw [hym m]
      simp only [List.length_set]
      by_cases hm : i + 1 ≤ m ∧ m ≤ j - 1
      · rw [if_pos hm, if_pos (by omega), List.getElem?_set_ne (by omega), List.getElem?_set_ne (by omega)]
      · rw [if_neg hm]
        by_cases h1 : m = i
        · subst h1
          rw [if_pos (by omega), List.getElem?_set_ne (by omega), List.getElem?_set_self (by omega), show x.length - 1 - m = j by omega, hj]
        · by_cases h2 : m = j
          · subst h2
            rw [if_pos (by omega), List.getElem?_set_self (by simp; omega), show x.length - 1 - m = i by omega, hi]
          · rw [if_neg (by omega), List.getElem?_set_ne (by omega), List.getElem?_set_ne (by omega)]
    · rw [if_neg (by omega)]
      refine ⟨x, rfl, rfl, fun m => ?_⟩
      by_cases h : i ≤ m ∧ m ≤ j
      · rw [if_pos h, show x.length - 1 - m = m by omega]
      · rw [if_neg h]
theorem rev_all (x : List S41) (hl : x.length ≤ 9223372036854775807) : api_Image.f (x.length + 1) x = some x.reverse := by
  unfold api_Image.f
  by_cases h0 : x.length = 0
  · obtain rfl := List.eq_nil_of_length_eq_zero h0
    rw [show wrap64 ((([] : List S41).length : Int) - 1) = -1 by unfold wrap64; simp]
    rfl
  · have w : wrap64 ((x.length : Int) - 1) = ((x.length - 1 : Nat) : Int) := by unfold wrap64; omega
    rw [w]
    obtain ⟨y, hy, hyl, hym⟩ := rev_from (x.length + 1) x 0 (x.length - 1) hl (by omega) (by omega) (by omega)
    rw [show ((0 : Nat) : Int) = 0 from rfl] at hy
    rw [hy]
    congr 1
    apply List.ext_getElem?
    intro m
    rw [hym m]
    by_cases hm : m < x.length
    · rw [if_pos (by omega), List.getElem?_reverse hm]
    · rw [if_neg (by omega), List.getElem?_eq_none (by omega), List.getElem?_eq_none (by simp; omega)]
end Go.Proofs.Yteblpjnkinghoaa.J

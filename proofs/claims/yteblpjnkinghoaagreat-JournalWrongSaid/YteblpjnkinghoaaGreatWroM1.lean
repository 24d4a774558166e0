/- Lemmas and contracts (part 1) on which the claim's last text leans: The law JournalWrong holds of every input: it returns true, and its arguments read behind the call as they read before. Conditions: none. -/
import Derived.Test.YteblpjnkinghoaaGreatProg
import Derived.Below
import Derived.Deep.Draws
import Derived.Deep.AppendLies
import Derived.Maps.AppendAt
import Derived.OwnWalk
import Derived.Laws.BytesArg
import Derived.Laws.MakeOwn
import Derived.Laws.OwnMore
import Derived.Deep.OwnRows
import Derived.Tactics
import Derived.Lib.ConvBytes
import Derived.Laws.Slices
import Derived.WalkKit
import Derived.KernelRfl
import Derived.RowKit3
import Derived.Deep.LoopGhost
import Derived.Deep.QuietTactic
import Derived.BigQuiet
import Derived.WideLaws
import Derived.Deep.DeepCutAuto
import Derived.Deep.CutBlock
import Derived.Deep.RegionHeld3
import Derived.Laws.Rows
import Derived.Lib.AppendStr
import Derived.ArgAppend
import Derived.Laws.IdiomCopy
import Derived.OrdersHeld
import Derived.Laws.BitsLemmas
import Derived.RowKit
import Derived.Recover
import Derived.WalkLawsBesides
import Derived.Laws.EntriesVeiled
import Derived.Maps.OwnSet
import Derived.Maps.RangeWalk
import Derived.WideKeyEntry
import Derived.StillTailTactics
import Derived.Test.YteblpjnkinghoaaGreatWroM0
set_option linter.unusedVariables false
set_option linter.unusedSimpArgs false
namespace Go.Proofs.YteblpjnkinghoaaGreat.J
open Go.RowKit Go.Proofs.YteblpjnkinghoaaGreatW.PrintWords Go.Proofs.YteblpjnkinghoaaGreatW.PrintLast Go.Proofs.YteblpjnkinghoaaGreatW.PrintMore
/-- A world behind w: what lay in w lies as it lay. -/
structure Past (w : World) where
  W : World
  h : Below w.heap.size w W
instance (w : World) : Inhabited (Past w) := ⟨⟨w, Below.refl _ _⟩⟩
instance (w : World) : Nonempty (Past w) := ⟨default⟩
theorem Past.cell {w : World} {a : Addr} {v : Value} (h : w.cell? a = some v) (p : Past w) : p.W.cell? a = some v := pw_cell_below p.h h
theorem Past.grown {w : World} (p : Past w) {W' : World} (h : Below p.W.heap.size p.W W') : Below w.heap.size w W' := below_step p.h h
/-- A region that draws its order, whose operations only read, whose callees may lay blocks of their own: walked once, in the order of the text. -/
theorem wp_region_past {P : Program} {id : Nat} {Q : Exit → Act → World → Prop} {a : Act} {w : World} {l : List Oper} (hm : P.follows .mixedOrders = true) (hB : Region.lexB .any l.toArray = true)
    (h : wpQuiet P l.toArray (fun w' => ∃ p : Past w, w' = p.W) (fun a' => ∀ w', (∃ p : Past w, w' = p.W) → Q .normal a' w') l a) : (Code.region id l.toArray true).wp P Q a w :=
  wp_region_quiet (C := fun w' => ∃ p : Past w, w' = p.W) hm hB ⟨⟨w.drew, below_drew (Below.refl _ _)⟩, rfl⟩ (by simpa using h)
theorem Calls.past_of {P : Program} {f : FuncId} {args : Array Value} {w : World} {p : Past w} {v : Value}
    (h : Calls P f args p.W fun e w' => e = .returned v ∧ Below p.W.heap.size p.W w') : Calls P f args p.W fun e w'' => e = .returned v ∧ ∃ q : Past w, w'' = q.W :=
  h.mono fun _ w' ⟨he, hb⟩ => ⟨he, ⟨w', p.grown hb⟩, rfl⟩
end Go.Proofs.YteblpjnkinghoaaGreat.J
namespace Go.Proofs.YteblpjnkinghoaaGreat.J
open Go.RowKit Go.Proofs.YteblpjnkinghoaaGreatW.PrintWords Go.Proofs.YteblpjnkinghoaaGreatW.PrintLast Go.Proofs.YteblpjnkinghoaaGreatW.PrintMore
attribute [local go_sem] max2_int min2_int max_two min_two max_three min_three max_four min_four   -- for this text's walks alone
set_option linter.unusedVariables false
set_option linter.unusedSimpArgs false
def errW : Option Int → Value
  | none => .nilIface
  | some c => .iface 0 (.int .i64 c)
theorem errW_none : errW none = .nilIface := rfl
theorem errW_some (c : Int) : errW (some c) = .iface 0 (.int .i64 c) := rfl

theorem info3 : (Tryz.prog.info? 3).map (fun i => (i.zero, i.size, i.bytes)) = some (some (.int .i64 0), 1, 8) := by kernel_rfl
theorem info9 : (Tryz.prog.info? 9).map (fun i => (i.zero, i.size, i.bytes)) = some (some (.string ⟨#[]⟩), 1, 16) := by kernel_rfl
theorem info43 : (Tryz.prog.info? 43).map (fun i => (i.zero, i.size, i.bytes)) = some (some (.agg #[(.int .i64 0), (.int .i64 0), (.string ⟨#[]⟩), (.bool false), (.string ⟨#[]⟩)]), 5, 56) := by kernel_rfl
theorem info48 : (Tryz.prog.info? 48).map (fun i => (i.zero, i.size, i.bytes)) = some (some (.agg #[(.string ⟨#[]⟩), (.bool false), (.string ⟨#[]⟩)]), 3, 40) := by kernel_rfl
/-! #### struct type 43 -/
structure S43 where
  f0 : Int
  f1 : Int
  f2 : ByteArray
  f3 : Bool
  f4 : ByteArray
def z43 : S43 := ⟨(0 : Int), (0 : Int), (⟨#[]⟩ : ByteArray), false, (⟨#[]⟩ : ByteArray)⟩
def k43 : Kd S43 := Kd.iso (Kd.pair (Kd.int .i64) (Kd.pair (Kd.int .i64) (Kd.pair Kd.string (Kd.pair Kd.bool Kd.string)))) (fun x : S43 => (x.f0, x.f1, x.f2, x.f3, x.f4))
theorem k43_open {w : World} {x : S43} {cs : List Value} (h : k43.K w x cs) : cs = [.int .i64 x.f0, .int .i64 x.f1, .string x.f2, .bool x.f3, .string x.f4] := by
  obtain ⟨_, _, rfl, rfl, ⟨_, _, rfl, rfl, ⟨_, _, rfl, rfl, ⟨_, _, rfl, rfl, rfl⟩⟩⟩⟩ := h
  exact rfl
theorem k43_mk (w : World) (x : S43)  : k43.K w x [.int .i64 x.f0, .int .i64 x.f1, .string x.f2, .bool x.f3, .string x.f4] := ⟨[.int .i64 x.f0], [.int .i64 x.f1, .string x.f2, .bool x.f3, .string x.f4], rfl, rfl, ⟨[.int .i64 x.f1], [.string x.f2, .bool x.f3, .string x.f4], rfl, rfl, ⟨[.string x.f2], [.bool x.f3, .string x.f4], rfl, rfl, ⟨[.bool x.f3], [.string x.f4], rfl, rfl, rfl⟩⟩⟩⟩
theorem k43_mkM (w : World) (base : Nat) (ok : Nat → Prop) (x : S43)  : k43.M w base ok x [.int .i64 x.f0, .int .i64 x.f1, .string x.f2, .bool x.f3, .string x.f4] := ⟨[.int .i64 x.f0], [.int .i64 x.f1, .string x.f2, .bool x.f3, .string x.f4], rfl, rfl, ⟨[.int .i64 x.f1], [.string x.f2, .bool x.f3, .string x.f4], rfl, rfl, ⟨[.string x.f2], [.bool x.f3, .string x.f4], rfl, rfl, ⟨[.bool x.f3], [.string x.f4], rfl, rfl, rfl⟩⟩⟩⟩
def rd_T43 (xs : List S43) (i : Int) : S43 := xs.getD i.toNat z43
theorem at_T43 {w : World} {A : Option Addr} {n : Nat} {xs : List S43} (h : Kd.C k43 w A n xs) (i : Int) (h0 : 0 ≤ i) (h1 : i < n) : ∃ ad , A = some ad ∧ w.cell? (ad.add (i.toNat * 5)) = some (.int .i64 (rd_T43 xs i).f0) ∧ w.cell? ⟨(ad.add (i.toNat * 5)).block, (ad.add (i.toNat * 5)).off + 1, none⟩ = some (.int .i64 (rd_T43 xs i).f1) ∧ w.cell? ⟨(ad.add (i.toNat * 5)).block, (ad.add (i.toNat * 5)).off + 2, none⟩ = some (.string (rd_T43 xs i).f2) ∧ w.cell? ⟨(ad.add (i.toNat * 5)).block, (ad.add (i.toNat * 5)).off + 3, none⟩ = some (.bool (rd_T43 xs i).f3) ∧ w.cell? ⟨(ad.add (i.toNat * 5)).block, (ad.add (i.toNat * 5)).off + 4, none⟩ = some (.string (rd_T43 xs i).f4) := by
  obtain ⟨ad, c, e, _, hK, hc0⟩ := Kd.C_get h z43 i h0 h1
  have hc : ∀ j u, c[j]? = some u → w.cell? (ad.add (i.toNat * 5 + j)) = some u := hc0
  obtain rfl := k43_open hK
  exact ⟨ad, e, hc 0 _ rfl, by rw [← add_field _ _ 1 (by omega)]; exact hc 1 _ rfl, by rw [← add_field _ _ 2 (by omega)]; exact hc 2 _ rfl, by rw [← add_field _ _ 3 (by omega)]; exact hc 3 _ rfl, by rw [← add_field _ _ 4 (by omega)]; exact hc 4 _ rfl⟩

/-! #### struct type 48 -/
structure S48 where
  f0 : ByteArray
  f1 : Bool
  f2 : ByteArray
def z48 : S48 := ⟨(⟨#[]⟩ : ByteArray), false, (⟨#[]⟩ : ByteArray)⟩
def k48 : Kd S48 := Kd.iso (Kd.pair Kd.string (Kd.pair Kd.bool Kd.string)) (fun x : S48 => (x.f0, x.f1, x.f2))
theorem k48_open {w : World} {x : S48} {cs : List Value} (h : k48.K w x cs) : cs = [.string x.f0, .bool x.f1, .string x.f2] := by
  obtain ⟨_, _, rfl, rfl, ⟨_, _, rfl, rfl, rfl⟩⟩ := h
  exact rfl
theorem k48_openM {w : World} {base : Nat} {ok : Nat → Prop} {x : S48} {cs : List Value} (h : k48.M w base ok x cs) : cs = [.string x.f0, .bool x.f1, .string x.f2] := by
  obtain ⟨_, _, rfl, rfl, ⟨_, _, rfl, rfl, rfl⟩⟩ := h
  exact rfl
theorem k48_mk (w : World) (x : S48)  : k48.K w x [.string x.f0, .bool x.f1, .string x.f2] := ⟨[.string x.f0], [.bool x.f1, .string x.f2], rfl, rfl, ⟨[.bool x.f1], [.string x.f2], rfl, rfl, rfl⟩⟩
theorem k48_mkM (w : World) (base : Nat) (ok : Nat → Prop) (x : S48)  : k48.M w base ok x [.string x.f0, .bool x.f1, .string x.f2] := ⟨[.string x.f0], [.bool x.f1, .string x.f2], rfl, rfl, ⟨[.bool x.f1], [.string x.f2], rfl, rfl, rfl⟩⟩
def rd_T48 (xs : List S48) (i : Int) : S48 := xs.getD i.toNat z48
theorem at_T48 {w : World} {A : Option Addr} {n : Nat} {xs : List S48} (h : Kd.C k48 w A n xs) (i : Int) (h0 : 0 ≤ i) (h1 : i < n) : ∃ ad , A = some ad ∧ w.cell? (ad.add (i.toNat * 3)) = some (.string (rd_T48 xs i).f0) ∧ w.cell? ⟨(ad.add (i.toNat * 3)).block, (ad.add (i.toNat * 3)).off + 1, none⟩ = some (.bool (rd_T48 xs i).f1) ∧ w.cell? ⟨(ad.add (i.toNat * 3)).block, (ad.add (i.toNat * 3)).off + 2, none⟩ = some (.string (rd_T48 xs i).f2) := by
  obtain ⟨ad, c, e, _, hK, hc0⟩ := Kd.C_get h z48 i h0 h1
  have hc : ∀ j u, c[j]? = some u → w.cell? (ad.add (i.toNat * 3 + j)) = some u := hc0
  obtain rfl := k48_open hK
  exact ⟨ad, e, hc 0 _ rfl, by rw [← add_field _ _ 1 (by omega)]; exact hc 1 _ rfl, by rw [← add_field _ _ 2 (by omega)]; exact hc 2 _ rfl⟩

end Go.Proofs.YteblpjnkinghoaaGreat.J
namespace Go.Proofs.YteblpjnkinghoaaGreat.J
open Go.RowKit Go.Proofs.YteblpjnkinghoaaGreatW.PrintWords Go.Proofs.YteblpjnkinghoaaGreatW.PrintLast Go.Proofs.YteblpjnkinghoaaGreatW.PrintMore
attribute [local go_sem] max2_int min2_int max_two min_two max_three min_three max_four min_four   -- for this text's walks alone
set_option linter.unusedVariables false
set_option linter.unusedSimpArgs false
/-! ### journal_unit: function 49 -/
def journal_unit.f (a0 : Int) : Option (Bool) := if a0 ≥ 1 then (some (decide (a0 ≤ 1000))) else (some false)
set_option maxHeartbeats 8000000 in
set_option maxRecDepth 100000 in
theorem journal_unit.calls (a0 : Int) (r : Bool) (w : World) (h : journal_unit.f a0 = some r) :
    Calls Tryz.prog 49 #[.int .i64 a0] w fun e w' => e = .returned (.bool r) ∧ Drawn0 w w' := by
  have H : (if a0 ≥ 1 then (some (decide (a0 ≤ 1000))) else (some false)) = some r := h
  clear h
  by_cases c2 : a0 ≥ 1
  · rw [if_pos c2] at H
    have c2b0 : decide (1 ≤ a0) = true := decide_eq_true c2
    clear c2
    obtain rfl := Option.some.inj H
    go_enter Tryz.func49, Tryz.ntmps49
    go_wp2
    go_ret
    exact ⟨by first | rfl | (simp; done) | (simp [*]; done), by repeat (first | exact Drawn0.refl _ | apply Drawn0.step)⟩
  · rw [if_neg c2] at H
    have c2b0 : decide (1 ≤ a0) = false := decide_eq_false c2
    clear c2
    obtain rfl := Option.some.inj H
    go_enter Tryz.func49, Tryz.ntmps49
    go_wp2
    go_ret
    exact ⟨by first | rfl | (simp; done) | (simp [*]; done), by repeat (first | exact Drawn0.refl _ | apply Drawn0.step)⟩

/-! ### journal_plain: function 80 -/
def journal_plain.f (a0_0 : Int) (a0_1 : Int) (a0_2 : ByteArray) (a0_3 : Bool) (a0_4 : ByteArray) : Option (Bool) := (journal_unit.f a0_1).bind fun t102 => (if t102 = true then (if a0_2.toList = ([] : List UInt8) then (if a0_3 = true then (some false) else (some (a0_4.toList == ([] : List UInt8)))) else (some false)) else (some false))
set_option maxHeartbeats 8000000 in
set_option maxRecDepth 100000 in
theorem journal_plain.calls (a0_0 : Int) (a0_1 : Int) (a0_2 : ByteArray) (a0_3 : Bool) (a0_4 : ByteArray) (r : Bool) (w : World) (h : journal_plain.f a0_0 a0_1 a0_2 a0_3 a0_4 = some r) :
    Calls Tryz.prog 80 #[.agg #[.int .i64 a0_0, .int .i64 a0_1, .string a0_2, .bool a0_3, .string a0_4]] w fun e w' => e = .returned (.bool r) ∧ Below w.heap.size w w' := by
  have hu43 := Tryz.underlying43
  have HB := Aside0.mk (Below.refl w.heap.size w)
  have H : ((journal_unit.f a0_1).bind fun t102 => (if t102 = true then (if a0_2.toList = ([] : List UInt8) then (if a0_3 = true then (some false) else (some (a0_4.toList == ([] : List UInt8)))) else (some false)) else (some false))) = some r := h
  clear h
  replace H := Option.bind_eq_some_iff.mp H
  obtain ⟨t102, A20, H⟩ := H
  replace H : (if t102 = true then (if a0_2.toList = ([] : List UInt8) then (if a0_3 = true then (some false) else (some (a0_4.toList == ([] : List UInt8)))) else (some false)) else (some false)) = some r := H
  have A2 := Aside0.mk A20
  clear A20
  by_cases c3 : t102 = true
  · subst c3
    have H1 : (if a0_2.toList = ([] : List UInt8) then (if a0_3 = true then (some false) else (some (a0_4.toList == ([] : List UInt8)))) else (some false)) = some r := by rw [if_pos rfl] at H; exact H
    clear H
    have H := H1
    clear H1
    by_cases c4 : a0_2.toList = ([] : List UInt8)
    · rw [if_pos c4] at H
      have c4b0 : (a0_2.toList == ([] : List UInt8)) = true := beq_iff_eq.mpr c4
      have c4b1 : (a0_2.toList != ([] : List UInt8)) = false := bne_eq_false_iff_eq.mpr c4
      clear c4
      by_cases c5 : a0_3 = true
      · subst c5
        have H1 : (some false) = some r := by rw [if_pos rfl] at H; exact H
        clear H
        have H := H1
        clear H1
        obtain rfl := Option.some.inj H
        go_enter Tryz.func80, Tryz.ntmps80
        go_wp2_with (first | ((with_reducible refine gate_dst (N := 1) rfl ?_); refine box_event ?hg (N := 1) ?hd (cs := #[.int .i64 a0_0, .int .i64 a0_1, .string a0_2, .bool true, .string a0_4]) (t := 43) ?hr ?_; (case hd => rfl); (case hg => rfl); (case hr => first | (go_simp; done) | (go_simp; rfl)); intro gb101 hg w6 hbox hb; have n0_ := Aside0.mk (below_step (by repeat (first | (with_reducible first | exact HB.out | apply below_alloc | apply pw_below_drewN | apply below_drew1) | exact HB.out)) hb); have n1_ := Aside0.mk (hbox); have n2_ := Aside0.mk ((by rw [hg]; exact (below_size (by repeat (first | (with_reducible first | exact HB.out | apply below_alloc | apply pw_below_drewN | apply below_drew1) | exact HB.out))) : w.heap.size ≤ gb101)); have n3_ := Aside0.mk ((by rw [hg]; exact (below_size (by repeat (first | (with_reducible first | exact HB.out | apply below_alloc | apply pw_below_drewN | apply below_drew1) | exact HB.out))) : w.heap.size ≤ gb101)); clear HB; have HB := n0_; have BK101 := n1_; have GW101 := n2_; have GE101 := n3_; clear n0_ n1_ n2_ n3_; clear hb hbox hg; have hcz7_0 : w6.cell? ⟨gb101, 0, none⟩ = some (.int .i64 a0_0) := (blk_cell BK101.out 0).trans rfl; have hcz7_1 : w6.cell? ⟨gb101, 1, none⟩ = some (.int .i64 a0_1) := (blk_cell BK101.out 1).trans rfl; have hcz7_2 : w6.cell? ⟨gb101, 2, none⟩ = some (.string a0_2) := (blk_cell BK101.out 2).trans rfl; have hcz7_3 : w6.cell? ⟨gb101, 3, none⟩ = some (.bool true) := (blk_cell BK101.out 3).trans rfl; have hcz7_4 : w6.cell? ⟨gb101, 4, none⟩ = some (.string a0_4) := (blk_cell BK101.out 4).trans rfl; have hfz7_0 := blk_frozen BK101.out 0; have hfz7_1 := blk_frozen BK101.out 1; have hfz7_2 := blk_frozen BK101.out 2; have hfz7_3 := blk_frozen BK101.out 3; have hfz7_4 := blk_frozen BK101.out 4) | ((with_reducible refine gate_callee (f := 49) rfl ?_); refine goesL_ (some 5) rfl rfl Tryz.func49 (by kernel_rfl) rfl #[.int .i64 a0_1] rfl (by (try simp only [List.map_toArray, List.map_cons, List.map_nil]); first | done | rfl | (simp only [List.length_drop, List.length_take]; rfl)) ?_; (with_reducible refine (journal_unit.calls a0_1 true _ A2.out).mono ?_); rintro e w' ⟨rfl, ⟨nd, rfl⟩⟩; refine ⟨_, rfl, ?_⟩))
        go_ret
        exact ⟨by first | rfl | (simp [errW_none, errW_some] <;> rfl) | (simp [*, errW_none, errW_some] <;> rfl), by repeat (first | (with_reducible first | exact HB.out | apply below_alloc | apply pw_below_drewN | apply below_drew1 | refine below_set ?_ GE101.out) | exact HB.out)⟩
      · replace c5 := Bool.eq_false_iff.mpr c5
        subst c5
        have H1 : (some (a0_4.toList == ([] : List UInt8))) = some r := by rw [if_neg (show ¬ (false = true) by decide)] at H; exact H
        clear H
        have H := H1
        clear H1
        obtain rfl := Option.some.inj H
        go_enter Tryz.func80, Tryz.ntmps80
        go_wp2_with (first | ((with_reducible refine gate_dst (N := 1) rfl ?_); refine box_event ?hg (N := 1) ?hd (cs := #[.int .i64 a0_0, .int .i64 a0_1, .string a0_2, .bool false, .string a0_4]) (t := 43) ?hr ?_; (case hd => rfl); (case hg => rfl); (case hr => first | (go_simp; done) | (go_simp; rfl)); intro gb101 hg w8 hbox hb; have n0_ := Aside0.mk (below_step (by repeat (first | (with_reducible first | exact HB.out | apply below_alloc | apply pw_below_drewN | apply below_drew1) | exact HB.out)) hb); have n1_ := Aside0.mk (hbox); have n2_ := Aside0.mk ((by rw [hg]; exact (below_size (by repeat (first | (with_reducible first | exact HB.out | apply below_alloc | apply pw_below_drewN | apply below_drew1) | exact HB.out))) : w.heap.size ≤ gb101)); have n3_ := Aside0.mk ((by rw [hg]; exact (below_size (by repeat (first | (with_reducible first | exact HB.out | apply below_alloc | apply pw_below_drewN | apply below_drew1) | exact HB.out))) : w.heap.size ≤ gb101)); clear HB; have HB := n0_; have BK101 := n1_; have GW101 := n2_; have GE101 := n3_; clear n0_ n1_ n2_ n3_; clear hb hbox hg; have hcz9_0 : w8.cell? ⟨gb101, 0, none⟩ = some (.int .i64 a0_0) := (blk_cell BK101.out 0).trans rfl; have hcz9_1 : w8.cell? ⟨gb101, 1, none⟩ = some (.int .i64 a0_1) := (blk_cell BK101.out 1).trans rfl; have hcz9_2 : w8.cell? ⟨gb101, 2, none⟩ = some (.string a0_2) := (blk_cell BK101.out 2).trans rfl; have hcz9_3 : w8.cell? ⟨gb101, 3, none⟩ = some (.bool false) := (blk_cell BK101.out 3).trans rfl; have hcz9_4 : w8.cell? ⟨gb101, 4, none⟩ = some (.string a0_4) := (blk_cell BK101.out 4).trans rfl; have hfz9_0 := blk_frozen BK101.out 0; have hfz9_1 := blk_frozen BK101.out 1; have hfz9_2 := blk_frozen BK101.out 2; have hfz9_3 := blk_frozen BK101.out 3; have hfz9_4 := blk_frozen BK101.out 4) | ((with_reducible refine gate_callee (f := 49) rfl ?_); refine goesL_ (some 5) rfl rfl Tryz.func49 (by kernel_rfl) rfl #[.int .i64 a0_1] rfl (by (try simp only [List.map_toArray, List.map_cons, List.map_nil]); first | done | rfl | (simp only [List.length_drop, List.length_take]; rfl)) ?_; (with_reducible refine (journal_unit.calls a0_1 true _ A2.out).mono ?_); rintro e w' ⟨rfl, ⟨nd, rfl⟩⟩; refine ⟨_, rfl, ?_⟩))
        go_ret
        exact ⟨by first | rfl | (simp [errW_none, errW_some] <;> rfl) | (simp [*, errW_none, errW_some] <;> rfl), by repeat (first | (with_reducible first | exact HB.out | apply below_alloc | apply pw_below_drewN | apply below_drew1 | refine below_set ?_ GE101.out) | exact HB.out)⟩
    · rw [if_neg c4] at H
      have c4b0 : (a0_2.toList == ([] : List UInt8)) = false := beq_eq_false_iff_ne.mpr c4
      have c4b1 : (a0_2.toList != ([] : List UInt8)) = true := bne_iff_ne.mpr c4
      obtain rfl := Option.some.inj H
      go_enter Tryz.func80, Tryz.ntmps80
      go_wp2_with (first | ((with_reducible refine gate_dst (N := 1) rfl ?_); refine box_event ?hg (N := 1) ?hd (cs := #[.int .i64 a0_0, .int .i64 a0_1, .string a0_2, .bool a0_3, .string a0_4]) (t := 43) ?hr ?_; (case hd => rfl); (case hg => rfl); (case hr => first | (go_simp; done) | (go_simp; rfl)); intro gb101 hg w10 hbox hb; have n0_ := Aside0.mk (below_step (by repeat (first | (with_reducible first | exact HB.out | apply below_alloc | apply pw_below_drewN | apply below_drew1) | exact HB.out)) hb); have n1_ := Aside0.mk (hbox); have n2_ := Aside0.mk ((by rw [hg]; exact (below_size (by repeat (first | (with_reducible first | exact HB.out | apply below_alloc | apply pw_below_drewN | apply below_drew1) | exact HB.out))) : w.heap.size ≤ gb101)); have n3_ := Aside0.mk ((by rw [hg]; exact (below_size (by repeat (first | (with_reducible first | exact HB.out | apply below_alloc | apply pw_below_drewN | apply below_drew1) | exact HB.out))) : w.heap.size ≤ gb101)); clear HB; have HB := n0_; have BK101 := n1_; have GW101 := n2_; have GE101 := n3_; clear n0_ n1_ n2_ n3_; clear hb hbox hg; have hcz11_0 : w10.cell? ⟨gb101, 0, none⟩ = some (.int .i64 a0_0) := (blk_cell BK101.out 0).trans rfl; have hcz11_1 : w10.cell? ⟨gb101, 1, none⟩ = some (.int .i64 a0_1) := (blk_cell BK101.out 1).trans rfl; have hcz11_2 : w10.cell? ⟨gb101, 2, none⟩ = some (.string a0_2) := (blk_cell BK101.out 2).trans rfl; have hcz11_3 : w10.cell? ⟨gb101, 3, none⟩ = some (.bool a0_3) := (blk_cell BK101.out 3).trans rfl; have hcz11_4 : w10.cell? ⟨gb101, 4, none⟩ = some (.string a0_4) := (blk_cell BK101.out 4).trans rfl; have hfz11_0 := blk_frozen BK101.out 0; have hfz11_1 := blk_frozen BK101.out 1; have hfz11_2 := blk_frozen BK101.out 2; have hfz11_3 := blk_frozen BK101.out 3; have hfz11_4 := blk_frozen BK101.out 4) | ((with_reducible refine gate_callee (f := 49) rfl ?_); refine goesL_ (some 5) rfl rfl Tryz.func49 (by kernel_rfl) rfl #[.int .i64 a0_1] rfl (by (try simp only [List.map_toArray, List.map_cons, List.map_nil]); first | done | rfl | (simp only [List.length_drop, List.length_take]; rfl)) ?_; (with_reducible refine (journal_unit.calls a0_1 true _ A2.out).mono ?_); rintro e w' ⟨rfl, ⟨nd, rfl⟩⟩; refine ⟨_, rfl, ?_⟩))
      go_ret
      exact ⟨by first | rfl | (simp [errW_none, errW_some] <;> rfl) | (simp [*, errW_none, errW_some] <;> rfl), by repeat (first | (with_reducible first | exact HB.out | apply below_alloc | apply pw_below_drewN | apply below_drew1 | refine below_set ?_ GE101.out) | exact HB.out)⟩
  · replace c3 := Bool.eq_false_iff.mpr c3
    subst c3
    have H1 : (some false) = some r := by rw [if_neg (show ¬ (false = true) by decide)] at H; exact H
    clear H
    have H := H1
    clear H1
    obtain rfl := Option.some.inj H
    go_enter Tryz.func80, Tryz.ntmps80
    go_wp2_with (first | ((with_reducible refine gate_dst (N := 1) rfl ?_); refine box_event ?hg (N := 1) ?hd (cs := #[.int .i64 a0_0, .int .i64 a0_1, .string a0_2, .bool a0_3, .string a0_4]) (t := 43) ?hr ?_; (case hd => rfl); (case hg => rfl); (case hr => first | (go_simp; done) | (go_simp; rfl)); intro gb101 hg w12 hbox hb; have n0_ := Aside0.mk (below_step (by repeat (first | (with_reducible first | exact HB.out | apply below_alloc | apply pw_below_drewN | apply below_drew1) | exact HB.out)) hb); have n1_ := Aside0.mk (hbox); have n2_ := Aside0.mk ((by rw [hg]; exact (below_size (by repeat (first | (with_reducible first | exact HB.out | apply below_alloc | apply pw_below_drewN | apply below_drew1) | exact HB.out))) : w.heap.size ≤ gb101)); have n3_ := Aside0.mk ((by rw [hg]; exact (below_size (by repeat (first | (with_reducible first | exact HB.out | apply below_alloc | apply pw_below_drewN | apply below_drew1) | exact HB.out))) : w.heap.size ≤ gb101)); clear HB; have HB := n0_; have BK101 := n1_; have GW101 := n2_; have GE101 := n3_; clear n0_ n1_ n2_ n3_; clear hb hbox hg; have hcz13_0 : w12.cell? ⟨gb101, 0, none⟩ = some (.int .i64 a0_0) := (blk_cell BK101.out 0).trans rfl; have hcz13_1 : w12.cell? ⟨gb101, 1, none⟩ = some (.int .i64 a0_1) := (blk_cell BK101.out 1).trans rfl; have hcz13_2 : w12.cell? ⟨gb101, 2, none⟩ = some (.string a0_2) := (blk_cell BK101.out 2).trans rfl; have hcz13_3 : w12.cell? ⟨gb101, 3, none⟩ = some (.bool a0_3) := (blk_cell BK101.out 3).trans rfl; have hcz13_4 : w12.cell? ⟨gb101, 4, none⟩ = some (.string a0_4) := (blk_cell BK101.out 4).trans rfl; have hfz13_0 := blk_frozen BK101.out 0; have hfz13_1 := blk_frozen BK101.out 1; have hfz13_2 := blk_frozen BK101.out 2; have hfz13_3 := blk_frozen BK101.out 3; have hfz13_4 := blk_frozen BK101.out 4) | ((with_reducible refine gate_callee (f := 49) rfl ?_); refine goesL_ (some 5) rfl rfl Tryz.func49 (by kernel_rfl) rfl #[.int .i64 a0_1] rfl (by (try simp only [List.map_toArray, List.map_cons, List.map_nil]); first | done | rfl | (simp only [List.length_drop, List.length_take]; rfl)) ?_; (with_reducible refine (journal_unit.calls a0_1 false _ A2.out).mono ?_); rintro e w' ⟨rfl, ⟨nd, rfl⟩⟩; refine ⟨_, rfl, ?_⟩))
    go_ret
    exact ⟨by first | rfl | (simp [errW_none, errW_some] <;> rfl) | (simp [*, errW_none, errW_some] <;> rfl), by repeat (first | (with_reducible first | exact HB.out | apply below_alloc | apply pw_below_drewN | apply below_drew1 | refine below_set ?_ GE101.out) | exact HB.out)⟩

/-! ### journal_imaged: function 81 -/
def journal_imaged.f (a0_0 : Int) (a0_1 : Int) (a0_2 : ByteArray) (a0_3 : Bool) (a0_4 : ByteArray) : Option (Bool) := (journal_unit.f a0_1).bind fun t104 => (if t104 = true then (if a0_2.toList = ([] : List UInt8) then (some false) else (if (a0_2.size : Int) ≤ 40 then (if (a0_4.size : Int) ≤ 4000 then (if a0_3 = true then (some true) else (some (a0_4.toList == ([] : List UInt8)))) else (some false)) else (some false))) else (some false))
set_option maxHeartbeats 8000000 in
set_option maxRecDepth 100000 in
theorem journal_imaged.calls (a0_0 : Int) (a0_1 : Int) (a0_2 : ByteArray) (a0_3 : Bool) (a0_4 : ByteArray) (r : Bool) (w : World) (h : journal_imaged.f a0_0 a0_1 a0_2 a0_3 a0_4 = some r) :
    Calls Tryz.prog 81 #[.agg #[.int .i64 a0_0, .int .i64 a0_1, .string a0_2, .bool a0_3, .string a0_4]] w fun e w' => e = .returned (.bool r) ∧ Below w.heap.size w w' := by
  have hu43 := Tryz.underlying43
  have HB := Aside0.mk (Below.refl w.heap.size w)
  have H : ((journal_unit.f a0_1).bind fun t104 => (if t104 = true then (if a0_2.toList = ([] : List UInt8) then (some false) else (if (a0_2.size : Int) ≤ 40 then (if (a0_4.size : Int) ≤ 4000 then (if a0_3 = true then (some true) else (some (a0_4.toList == ([] : List UInt8)))) else (some false)) else (some false))) else (some false))) = some r := h
  clear h
  replace H := Option.bind_eq_some_iff.mp H
  obtain ⟨t104, A20, H⟩ := H
  replace H : (if t104 = true then (if a0_2.toList = ([] : List UInt8) then (some false) else (if (a0_2.size : Int) ≤ 40 then (if (a0_4.size : Int) ≤ 4000 then (if a0_3 = true then (some true) else (some (a0_4.toList == ([] : List UInt8)))) else (some false)) else (some false))) else (some false)) = some r := H
  have A2 := Aside0.mk A20
  clear A20
  by_cases c3 : t104 = true
  · subst c3
    have H1 : (if a0_2.toList = ([] : List UInt8) then (some false) else (if (a0_2.size : Int) ≤ 40 then (if (a0_4.size : Int) ≤ 4000 then (if a0_3 = true then (some true) else (some (a0_4.toList == ([] : List UInt8)))) else (some false)) else (some false))) = some r := by rw [if_pos rfl] at H; exact H
    clear H
    have H := H1
    clear H1
    by_cases c4 : a0_2.toList = ([] : List UInt8)
    · rw [if_pos c4] at H
      have c4b0 : (a0_2.toList == ([] : List UInt8)) = true := beq_iff_eq.mpr c4
      have c4b1 : (a0_2.toList != ([] : List UInt8)) = false := bne_eq_false_iff_eq.mpr c4
      clear c4
      obtain rfl := Option.some.inj H
      go_enter Tryz.func81, Tryz.ntmps81
      go_wp2_with (first | ((with_reducible refine gate_dst (N := 1) rfl ?_); (try (refine gate_guard (by rfl) ?_; dsimp only)); refine box_event ?hg (N := 1) ?hd (cs := #[.int .i64 a0_0, .int .i64 a0_1, .string a0_2, .bool a0_3, .string a0_4]) (t := 43) ?hr ?_; (case hd => rfl); (case hg => rfl); (case hr => first | (go_simp; done) | (go_simp; rfl)); intro gb103 hg w5 hbox hb; have n0_ := Aside0.mk (below_step (by repeat (first | (with_reducible first | exact HB.out | apply below_alloc | apply pw_below_drewN | apply below_drew1) | exact HB.out)) hb); have n1_ := Aside0.mk (hbox); have n2_ := Aside0.mk ((by rw [hg]; exact (below_size (by repeat (first | (with_reducible first | exact HB.out | apply below_alloc | apply pw_below_drewN | apply below_drew1) | exact HB.out))) : w.heap.size ≤ gb103)); have n3_ := Aside0.mk ((by rw [hg]; exact (below_size (by repeat (first | (with_reducible first | exact HB.out | apply below_alloc | apply pw_below_drewN | apply below_drew1) | exact HB.out))) : w.heap.size ≤ gb103)); clear HB; have HB := n0_; have BK103 := n1_; have GW103 := n2_; have GE103 := n3_; clear n0_ n1_ n2_ n3_; clear hb hbox hg; have hcz6_0 : w5.cell? ⟨gb103, 0, none⟩ = some (.int .i64 a0_0) := (blk_cell BK103.out 0).trans rfl; have hcz6_1 : w5.cell? ⟨gb103, 1, none⟩ = some (.int .i64 a0_1) := (blk_cell BK103.out 1).trans rfl; have hcz6_2 : w5.cell? ⟨gb103, 2, none⟩ = some (.string a0_2) := (blk_cell BK103.out 2).trans rfl; have hcz6_3 : w5.cell? ⟨gb103, 3, none⟩ = some (.bool a0_3) := (blk_cell BK103.out 3).trans rfl; have hcz6_4 : w5.cell? ⟨gb103, 4, none⟩ = some (.string a0_4) := (blk_cell BK103.out 4).trans rfl; have hfz6_0 := blk_frozen BK103.out 0; have hfz6_1 := blk_frozen BK103.out 1; have hfz6_2 := blk_frozen BK103.out 2; have hfz6_3 := blk_frozen BK103.out 3; have hfz6_4 := blk_frozen BK103.out 4) | ((with_reducible refine gate_callee (f := 49) rfl ?_); refine goesL_ (some 5) rfl rfl Tryz.func49 (by kernel_rfl) rfl #[.int .i64 a0_1] rfl (by (try simp only [List.map_toArray, List.map_cons, List.map_nil]); first | done | rfl | (simp only [List.length_drop, List.length_take]; rfl)) ?_; (with_reducible refine (journal_unit.calls a0_1 true _ A2.out).mono ?_); rintro e w' ⟨rfl, ⟨nd, rfl⟩⟩; refine ⟨_, rfl, ?_⟩))
      go_ret
      exact ⟨by first | rfl | (simp [errW_none, errW_some] <;> rfl) | (simp [*, errW_none, errW_some] <;> rfl), by repeat (first | (with_reducible first | exact HB.out | apply below_alloc | apply pw_below_drewN | apply below_drew1 | refine below_set ?_ GE103.out) | exact HB.out)⟩
    · rw [if_neg c4] at H
      have c4b0 : (a0_2.toList == ([] : List UInt8)) = false := beq_eq_false_iff_ne.mpr c4
      have c4b1 : (a0_2.toList != ([] : List UInt8)) = true := bne_iff_ne.mpr c4
      by_cases c7 : (a0_2.size : Int) ≤ 40
      · rw [if_pos c7] at H
        have c7b0 : decide ((a0_2.size : Int) ≤ 40) = true := decide_eq_true c7
        have c7b1 : decide (a0_2.size ≤ 40) = true := decide_eq_true (by omega)
        clear c7
        by_cases c8 : (a0_4.size : Int) ≤ 4000
        · rw [if_pos c8] at H
          have c8b0 : decide ((a0_4.size : Int) ≤ 4000) = true := decide_eq_true c8
          have c8b1 : decide (a0_4.size ≤ 4000) = true := decide_eq_true (by omega)
          clear c8
          by_cases c9 : a0_3 = true
          · subst c9
            have H1 : (some true) = some r := by rw [if_pos rfl] at H; exact H
            clear H
            have H := H1
            clear H1
            obtain rfl := Option.some.inj H
            go_enter Tryz.func81, Tryz.ntmps81
            go_wp2_with (first | ((with_reducible refine gate_dst (N := 1) rfl ?_); (try (refine gate_guard (by rfl) ?_; dsimp only)); refine box_event ?hg (N := 1) ?hd (cs := #[.int .i64 a0_0, .int .i64 a0_1, .string a0_2, .bool true, .string a0_4]) (t := 43) ?hr ?_; (case hd => rfl); (case hg => rfl); (case hr => first | (go_simp; done) | (go_simp; rfl)); intro gb103 hg w10 hbox hb; have n0_ := Aside0.mk (below_step (by repeat (first | (with_reducible first | exact HB.out | apply below_alloc | apply pw_below_drewN | apply below_drew1) | exact HB.out)) hb); have n1_ := Aside0.mk (hbox); have n2_ := Aside0.mk ((by rw [hg]; exact (below_size (by repeat (first | (with_reducible first | exact HB.out | apply below_alloc | apply pw_below_drewN | apply below_drew1) | exact HB.out))) : w.heap.size ≤ gb103)); have n3_ := Aside0.mk ((by rw [hg]; exact (below_size (by repeat (first | (with_reducible first | exact HB.out | apply below_alloc | apply pw_below_drewN | apply below_drew1) | exact HB.out))) : w.heap.size ≤ gb103)); clear HB; have HB := n0_; have BK103 := n1_; have GW103 := n2_; have GE103 := n3_; clear n0_ n1_ n2_ n3_; clear hb hbox hg; have hcz11_0 : w10.cell? ⟨gb103, 0, none⟩ = some (.int .i64 a0_0) := (blk_cell BK103.out 0).trans rfl; have hcz11_1 : w10.cell? ⟨gb103, 1, none⟩ = some (.int .i64 a0_1) := (blk_cell BK103.out 1).trans rfl; have hcz11_2 : w10.cell? ⟨gb103, 2, none⟩ = some (.string a0_2) := (blk_cell BK103.out 2).trans rfl; have hcz11_3 : w10.cell? ⟨gb103, 3, none⟩ = some (.bool true) := (blk_cell BK103.out 3).trans rfl; have hcz11_4 : w10.cell? ⟨gb103, 4, none⟩ = some (.string a0_4) := (blk_cell BK103.out 4).trans rfl; have hfz11_0 := blk_frozen BK103.out 0; have hfz11_1 := blk_frozen BK103.out 1; have hfz11_2 := blk_frozen BK103.out 2; have hfz11_3 := blk_frozen BK103.out 3; have hfz11_4 := blk_frozen BK103.out 4) | ((with_reducible refine gate_callee (f := 49) rfl ?_); refine goesL_ (some 5) rfl rfl Tryz.func49 (by kernel_rfl) rfl #[.int .i64 a0_1] rfl (by (try simp only [List.map_toArray, List.map_cons, List.map_nil]); first | done | rfl | (simp only [List.length_drop, List.length_take]; rfl)) ?_; (with_reducible refine (journal_unit.calls a0_1 true _ A2.out).mono ?_); rintro e w' ⟨rfl, ⟨nd, rfl⟩⟩; refine ⟨_, rfl, ?_⟩))
            go_ret
            exact ⟨by first | rfl | (simp [errW_none, errW_some] <;> rfl) | (simp [*, errW_none, errW_some] <;> rfl), by repeat (first | (with_reducible first | exact HB.out | apply below_alloc | apply pw_below_drewN | apply below_drew1 | refine below_set ?_ GE103.out) | exact HB.out)⟩
          · replace c9 := Bool.eq_false_iff.mpr c9
            subst c9
            have H1 : (some (a0_4.toList == ([] : List UInt8))) = some r := by rw [if_neg (show ¬ (false = true) by decide)] at H; exact H
            clear H
            have H := H1
            clear H1
            obtain rfl := Option.some.inj H
            go_enter Tryz.func81, Tryz.ntmps81
            go_wp2_with (first | ((with_reducible refine gate_dst (N := 1) rfl ?_); (try (refine gate_guard (by rfl) ?_; dsimp only)); refine box_event ?hg (N := 1) ?hd (cs := #[.int .i64 a0_0, .int .i64 a0_1, .string a0_2, .bool false, .string a0_4]) (t := 43) ?hr ?_; (case hd => rfl); (case hg => rfl); (case hr => first | (go_simp; done) | (go_simp; rfl)); intro gb103 hg w12 hbox hb; have n0_ := Aside0.mk (below_step (by repeat (first | (with_reducible first | exact HB.out | apply below_alloc | apply pw_below_drewN | apply below_drew1) | exact HB.out)) hb); have n1_ := Aside0.mk (hbox); have n2_ := Aside0.mk ((by rw [hg]; exact (below_size (by repeat (first | (with_reducible first | exact HB.out | apply below_alloc | apply pw_below_drewN | apply below_drew1) | exact HB.out))) : w.heap.size ≤ gb103)); have n3_ := Aside0.mk ((by rw [hg]; exact (below_size (by repeat (first | (with_reducible first | exact HB.out | apply below_alloc | apply pw_below_drewN | apply below_drew1) | exact HB.out))) : w.heap.size ≤ gb103)); clear HB; have HB := n0_; have BK103 := n1_; have GW103 := n2_; have GE103 := n3_; clear n0_ n1_ n2_ n3_; clear hb hbox hg; have hcz13_0 : w12.cell? ⟨gb103, 0, none⟩ = some (.int .i64 a0_0) := (blk_cell BK103.out 0).trans rfl; have hcz13_1 : w12.cell? ⟨gb103, 1, none⟩ = some (.int .i64 a0_1) := (blk_cell BK103.out 1).trans rfl; have hcz13_2 : w12.cell? ⟨gb103, 2, none⟩ = some (.string a0_2) := (blk_cell BK103.out 2).trans rfl; have hcz13_3 : w12.cell? ⟨gb103, 3, none⟩ = some (.bool false) := (blk_cell BK103.out 3).trans rfl; have hcz13_4 : w12.cell? ⟨gb103, 4, none⟩ = some (.string a0_4) := (blk_cell BK103.out 4).trans rfl; have hfz13_0 := blk_frozen BK103.out 0; have hfz13_1 := blk_frozen BK103.out 1; have hfz13_2 := blk_frozen BK103.out 2; have hfz13_3 := blk_frozen BK103.out 3; have hfz13_4 := blk_frozen BK103.out 4) | ((with_reducible refine gate_callee (f := 49) rfl ?_); refine goesL_ (some 5) rfl rfl Tryz.func49 (by kernel_rfl) rfl #[.int .i64 a0_1] rfl (by (try simp only [List.map_toArray, List.map_cons, List.map_nil]); first | done | rfl | (simp only [List.length_drop, List.length_take]; rfl)) ?_; (with_reducible refine (journal_unit.calls a0_1 true _ A2.out).mono ?_); rintro e w' ⟨rfl, ⟨nd, rfl⟩⟩; refine ⟨_, rfl, ?_⟩))
            go_ret
            exact ⟨by first | rfl | (simp [errW_none, errW_some] <;> rfl) | (simp [*, errW_none, errW_some] <;> rfl), by repeat (first | (with_reducible first | exact HB.out | apply below_alloc | apply pw_below_drewN | apply below_drew1 | refine below_set ?_ GE103.out) | exact HB.out)⟩
        · rw [if_neg c8] at H
          have c8b0 : decide ((a0_4.size : Int) ≤ 4000) = false := decide_eq_false c8
          have c8b1 : decide (a0_4.size ≤ 4000) = false := decide_eq_false (by omega)
          clear c8
          obtain rfl := Option.some.inj H
          go_enter Tryz.func81, Tryz.ntmps81
          go_wp2_with (first | ((with_reducible refine gate_dst (N := 1) rfl ?_); (try (refine gate_guard (by rfl) ?_; dsimp only)); refine box_event ?hg (N := 1) ?hd (cs := #[.int .i64 a0_0, .int .i64 a0_1, .string a0_2, .bool a0_3, .string a0_4]) (t := 43) ?hr ?_; (case hd => rfl); (case hg => rfl); (case hr => first | (go_simp; done) | (go_simp; rfl)); intro gb103 hg w14 hbox hb; have n0_ := Aside0.mk (below_step (by repeat (first | (with_reducible first | exact HB.out | apply below_alloc | apply pw_below_drewN | apply below_drew1) | exact HB.out)) hb); have n1_ := Aside0.mk (hbox); have n2_ := Aside0.mk ((by rw [hg]; exact (below_size (by repeat (first | (with_reducible first | exact HB.out | apply below_alloc | apply pw_below_drewN | apply below_drew1) | exact HB.out))) : w.heap.size ≤ gb103)); have n3_ := Aside0.mk ((by rw [hg]; exact (below_size (by repeat (first | (with_reducible first | exact HB.out | apply below_alloc | apply pw_below_drewN | apply below_drew1) | exact HB.out))) : w.heap.size ≤ gb103)); clear HB; have HB := n0_; have BK103 := n1_; have GW103 := n2_; have GE103 := n3_; clear n0_ n1_ n2_ n3_; clear hb hbox hg; have hcz15_0 : w14.cell? ⟨gb103, 0, none⟩ = some (.int .i64 a0_0) := (blk_cell BK103.out 0).trans rfl; have hcz15_1 : w14.cell? ⟨gb103, 1, none⟩ = some (.int .i64 a0_1) := (blk_cell BK103.out 1).trans rfl; have hcz15_2 : w14.cell? ⟨gb103, 2, none⟩ = some (.string a0_2) := (blk_cell BK103.out 2).trans rfl; have hcz15_3 : w14.cell? ⟨gb103, 3, none⟩ = some (.bool a0_3) := (blk_cell BK103.out 3).trans rfl; have hcz15_4 : w14.cell? ⟨gb103, 4, none⟩ = some (.string a0_4) := (blk_cell BK103.out 4).trans rfl; have hfz15_0 := blk_frozen BK103.out 0; have hfz15_1 := blk_frozen BK103.out 1; have hfz15_2 := blk_frozen BK103.out 2; have hfz15_3 := blk_frozen BK103.out 3; have hfz15_4 := blk_frozen BK103.out 4) | ((with_reducible refine gate_callee (f := 49) rfl ?_); refine goesL_ (some 5) rfl rfl Tryz.func49 (by kernel_rfl) rfl #[.int .i64 a0_1] rfl (by (try simp only [List.map_toArray, List.map_cons, List.map_nil]); first | done | rfl | (simp only [List.length_drop, List.length_take]; rfl)) ?_; (with_reducible refine (journal_unit.calls a0_1 true _ A2.out).mono ?_); rintro e w' ⟨rfl, ⟨nd, rfl⟩⟩; refine ⟨_, rfl, ?_⟩))
          go_ret
          exact ⟨by first | rfl | (simp [errW_none, errW_some] <;> rfl) | (simp [*, errW_none, errW_some] <;> rfl), by repeat (first | (with_reducible first | exact HB.out | apply below_alloc | apply pw_below_drewN | apply below_drew1 | refine below_set ?_ GE103.out) | exact HB.out)⟩
      · rw [if_neg c7] at H
        have c7b0 : decide ((a0_2.size : Int) ≤ 40) = false := decide_eq_false c7
        have c7b1 : decide (a0_2.size ≤ 40) = false := decide_eq_false (by omega)
        clear c7
        obtain rfl := Option.some.inj H
        go_enter Tryz.func81, Tryz.ntmps81
        go_wp2_with (first | ((with_reducible refine gate_dst (N := 1) rfl ?_); (try (refine gate_guard (by rfl) ?_; dsimp only)); refine box_event ?hg (N := 1) ?hd (cs := #[.int .i64 a0_0, .int .i64 a0_1, .string a0_2, .bool a0_3, .string a0_4]) (t := 43) ?hr ?_; (case hd => rfl); (case hg => rfl); (case hr => first | (go_simp; done) | (go_simp; rfl)); intro gb103 hg w16 hbox hb; have n0_ := Aside0.mk (below_step (by repeat (first | (with_reducible first | exact HB.out | apply below_alloc | apply pw_below_drewN | apply below_drew1) | exact HB.out)) hb); have n1_ := Aside0.mk (hbox); have n2_ := Aside0.mk ((by rw [hg]; exact (below_size (by repeat (first | (with_reducible first | exact HB.out | apply below_alloc | apply pw_below_drewN | apply below_drew1) | exact HB.out))) : w.heap.size ≤ gb103)); have n3_ := Aside0.mk ((by rw [hg]; exact (below_size (by repeat (first | (with_reducible first | exact HB.out | apply below_alloc | apply pw_below_drewN | apply below_drew1) | exact HB.out))) : w.heap.size ≤ gb103)); clear HB; have HB := n0_; have BK103 := n1_; have GW103 := n2_; have GE103 := n3_; clear n0_ n1_ n2_ n3_; clear hb hbox hg; have hcz17_0 : w16.cell? ⟨gb103, 0, none⟩ = some (.int .i64 a0_0) := (blk_cell BK103.out 0).trans rfl; have hcz17_1 : w16.cell? ⟨gb103, 1, none⟩ = some (.int .i64 a0_1) := (blk_cell BK103.out 1).trans rfl; have hcz17_2 : w16.cell? ⟨gb103, 2, none⟩ = some (.string a0_2) := (blk_cell BK103.out 2).trans rfl; have hcz17_3 : w16.cell? ⟨gb103, 3, none⟩ = some (.bool a0_3) := (blk_cell BK103.out 3).trans rfl; have hcz17_4 : w16.cell? ⟨gb103, 4, none⟩ = some (.string a0_4) := (blk_cell BK103.out 4).trans rfl; have hfz17_0 := blk_frozen BK103.out 0; have hfz17_1 := blk_frozen BK103.out 1; have hfz17_2 := blk_frozen BK103.out 2; have hfz17_3 := blk_frozen BK103.out 3; have hfz17_4 := blk_frozen BK103.out 4) | ((with_reducible refine gate_callee (f := 49) rfl ?_); refine goesL_ (some 5) rfl rfl Tryz.func49 (by kernel_rfl) rfl #[.int .i64 a0_1] rfl (by (try simp only [List.map_toArray, List.map_cons, List.map_nil]); first | done | rfl | (simp only [List.length_drop, List.length_take]; rfl)) ?_; (with_reducible refine (journal_unit.calls a0_1 true _ A2.out).mono ?_); rintro e w' ⟨rfl, ⟨nd, rfl⟩⟩; refine ⟨_, rfl, ?_⟩))
        go_ret
        exact ⟨by first | rfl | (simp [errW_none, errW_some] <;> rfl) | (simp [*, errW_none, errW_some] <;> rfl), by repeat (first | (with_reducible first | exact HB.out | apply below_alloc | apply pw_below_drewN | apply below_drew1 | refine below_set ?_ GE103.out) | exact HB.out)⟩
  · replace c3 := Bool.eq_false_iff.mpr c3
    subst c3
    have H1 : (some false) = some r := by rw [if_neg (show ¬ (false = true) by decide)] at H; exact H
    clear H
    have H := H1
    clear H1
    obtain rfl := Option.some.inj H
    go_enter Tryz.func81, Tryz.ntmps81
    go_wp2_with (first | ((with_reducible refine gate_dst (N := 1) rfl ?_); (try (refine gate_guard (by rfl) ?_; dsimp only)); refine box_event ?hg (N := 1) ?hd (cs := #[.int .i64 a0_0, .int .i64 a0_1, .string a0_2, .bool a0_3, .string a0_4]) (t := 43) ?hr ?_; (case hd => rfl); (case hg => rfl); (case hr => first | (go_simp; done) | (go_simp; rfl)); intro gb103 hg w18 hbox hb; have n0_ := Aside0.mk (below_step (by repeat (first | (with_reducible first | exact HB.out | apply below_alloc | apply pw_below_drewN | apply below_drew1) | exact HB.out)) hb); have n1_ := Aside0.mk (hbox); have n2_ := Aside0.mk ((by rw [hg]; exact (below_size (by repeat (first | (with_reducible first | exact HB.out | apply below_alloc | apply pw_below_drewN | apply below_drew1) | exact HB.out))) : w.heap.size ≤ gb103)); have n3_ := Aside0.mk ((by rw [hg]; exact (below_size (by repeat (first | (with_reducible first | exact HB.out | apply below_alloc | apply pw_below_drewN | apply below_drew1) | exact HB.out))) : w.heap.size ≤ gb103)); clear HB; have HB := n0_; have BK103 := n1_; have GW103 := n2_; have GE103 := n3_; clear n0_ n1_ n2_ n3_; clear hb hbox hg; have hcz19_0 : w18.cell? ⟨gb103, 0, none⟩ = some (.int .i64 a0_0) := (blk_cell BK103.out 0).trans rfl; have hcz19_1 : w18.cell? ⟨gb103, 1, none⟩ = some (.int .i64 a0_1) := (blk_cell BK103.out 1).trans rfl; have hcz19_2 : w18.cell? ⟨gb103, 2, none⟩ = some (.string a0_2) := (blk_cell BK103.out 2).trans rfl; have hcz19_3 : w18.cell? ⟨gb103, 3, none⟩ = some (.bool a0_3) := (blk_cell BK103.out 3).trans rfl; have hcz19_4 : w18.cell? ⟨gb103, 4, none⟩ = some (.string a0_4) := (blk_cell BK103.out 4).trans rfl; have hfz19_0 := blk_frozen BK103.out 0; have hfz19_1 := blk_frozen BK103.out 1; have hfz19_2 := blk_frozen BK103.out 2; have hfz19_3 := blk_frozen BK103.out 3; have hfz19_4 := blk_frozen BK103.out 4) | ((with_reducible refine gate_callee (f := 49) rfl ?_); refine goesL_ (some 5) rfl rfl Tryz.func49 (by kernel_rfl) rfl #[.int .i64 a0_1] rfl (by (try simp only [List.map_toArray, List.map_cons, List.map_nil]); first | done | rfl | (simp only [List.length_drop, List.length_take]; rfl)) ?_; (with_reducible refine (journal_unit.calls a0_1 false _ A2.out).mono ?_); rintro e w' ⟨rfl, ⟨nd, rfl⟩⟩; refine ⟨_, rfl, ?_⟩))
    go_ret
    exact ⟨by first | rfl | (simp [errW_none, errW_some] <;> rfl) | (simp [*, errW_none, errW_some] <;> rfl), by repeat (first | (with_reducible first | exact HB.out | apply below_alloc | apply pw_below_drewN | apply below_drew1 | refine below_set ?_ GE103.out) | exact HB.out)⟩

/-! ### journal_named: function 82 -/
def journal_named.f (a0_0 : Int) (a0_1 : Int) (a0_2 : ByteArray) (a0_3 : Bool) (a0_4 : ByteArray) : Option (Bool) := if a0_1 = 0 then (if a0_2.toList = ([] : List UInt8) then (if a0_3 = true then (some false) else (if a0_4.toList = ([] : List UInt8) then (some false) else (some (decide ((a0_4.size : Int) ≤ 40))))) else (some false)) else (some false)
set_option maxHeartbeats 8000000 in
set_option maxRecDepth 100000 in
theorem journal_named.calls (a0_0 : Int) (a0_1 : Int) (a0_2 : ByteArray) (a0_3 : Bool) (a0_4 : ByteArray) (r : Bool) (w : World) (h : journal_named.f a0_0 a0_1 a0_2 a0_3 a0_4 = some r) :
    Calls Tryz.prog 82 #[.agg #[.int .i64 a0_0, .int .i64 a0_1, .string a0_2, .bool a0_3, .string a0_4]] w fun e w' => e = .returned (.bool r) ∧ Below w.heap.size w w' := by
  have hu43 := Tryz.underlying43
  have HB := Aside0.mk (Below.refl w.heap.size w)
  have H : (if a0_1 = 0 then (if a0_2.toList = ([] : List UInt8) then (if a0_3 = true then (some false) else (if a0_4.toList = ([] : List UInt8) then (some false) else (some (decide ((a0_4.size : Int) ≤ 40))))) else (some false)) else (some false)) = some r := h
  clear h
  by_cases c2 : a0_1 = 0
  · rw [if_pos c2] at H
    have c2b0 : (a0_1 == 0) = true := beq_iff_eq.mpr c2
    have c2b1 : (a0_1 != 0) = false := bne_eq_false_iff_eq.mpr c2
    clear c2
    by_cases c3 : a0_2.toList = ([] : List UInt8)
    · rw [if_pos c3] at H
      have c3b0 : (a0_2.toList == ([] : List UInt8)) = true := beq_iff_eq.mpr c3
      have c3b1 : (a0_2.toList != ([] : List UInt8)) = false := bne_eq_false_iff_eq.mpr c3
      clear c3
      by_cases c4 : a0_3 = true
      · subst c4
        have H1 : (some false) = some r := by rw [if_pos rfl] at H; exact H
        clear H
        have H := H1
        clear H1
        obtain rfl := Option.some.inj H
        go_enter Tryz.func82, Tryz.ntmps82
        go_wp2_with (first | ((with_reducible refine gate_dst (N := 1) rfl ?_); (try (refine gate_guard (by rfl) ?_; dsimp only)); refine box_event ?hg (N := 1) ?hd (cs := #[.int .i64 a0_0, .int .i64 a0_1, .string a0_2, .bool true, .string a0_4]) (t := 43) ?hr ?_; (case hd => rfl); (case hg => rfl); (case hr => first | (go_simp; done) | (go_simp; rfl)); intro gb105 hg w5 hbox hb; have n0_ := Aside0.mk (below_step (by repeat (first | (with_reducible first | exact HB.out | apply below_alloc | apply pw_below_drewN | apply below_drew1) | exact HB.out)) hb); have n1_ := Aside0.mk (hbox); have n2_ := Aside0.mk ((by rw [hg]; exact (below_size (by repeat (first | (with_reducible first | exact HB.out | apply below_alloc | apply pw_below_drewN | apply below_drew1) | exact HB.out))) : w.heap.size ≤ gb105)); have n3_ := Aside0.mk ((by rw [hg]; exact (below_size (by repeat (first | (with_reducible first | exact HB.out | apply below_alloc | apply pw_below_drewN | apply below_drew1) | exact HB.out))) : w.heap.size ≤ gb105)); clear HB; have HB := n0_; have BK105 := n1_; have GW105 := n2_; have GE105 := n3_; clear n0_ n1_ n2_ n3_; clear hb hbox hg; have hcz6_0 : w5.cell? ⟨gb105, 0, none⟩ = some (.int .i64 a0_0) := (blk_cell BK105.out 0).trans rfl; have hcz6_1 : w5.cell? ⟨gb105, 1, none⟩ = some (.int .i64 a0_1) := (blk_cell BK105.out 1).trans rfl; have hcz6_2 : w5.cell? ⟨gb105, 2, none⟩ = some (.string a0_2) := (blk_cell BK105.out 2).trans rfl; have hcz6_3 : w5.cell? ⟨gb105, 3, none⟩ = some (.bool true) := (blk_cell BK105.out 3).trans rfl; have hcz6_4 : w5.cell? ⟨gb105, 4, none⟩ = some (.string a0_4) := (blk_cell BK105.out 4).trans rfl; have hfz6_0 := blk_frozen BK105.out 0; have hfz6_1 := blk_frozen BK105.out 1; have hfz6_2 := blk_frozen BK105.out 2; have hfz6_3 := blk_frozen BK105.out 3; have hfz6_4 := blk_frozen BK105.out 4))
        go_ret
        exact ⟨by first | rfl | (simp [errW_none, errW_some] <;> rfl) | (simp [*, errW_none, errW_some] <;> rfl), by repeat (first | (with_reducible first | exact HB.out | apply below_alloc | apply pw_below_drewN | apply below_drew1 | refine below_set ?_ GE105.out) | exact HB.out)⟩
      · replace c4 := Bool.eq_false_iff.mpr c4
        subst c4
        have H1 : (if a0_4.toList = ([] : List UInt8) then (some false) else (some (decide ((a0_4.size : Int) ≤ 40)))) = some r := by rw [if_neg (show ¬ (false = true) by decide)] at H; exact H
        clear H
        have H := H1
        clear H1
        by_cases c7 : a0_4.toList = ([] : List UInt8)
        · rw [if_pos c7] at H
          have c7b0 : (a0_4.toList == ([] : List UInt8)) = true := beq_iff_eq.mpr c7
          have c7b1 : (a0_4.toList != ([] : List UInt8)) = false := bne_eq_false_iff_eq.mpr c7
          clear c7
          obtain rfl := Option.some.inj H
          go_enter Tryz.func82, Tryz.ntmps82
          go_wp2_with (first | ((with_reducible refine gate_dst (N := 1) rfl ?_); (try (refine gate_guard (by rfl) ?_; dsimp only)); refine box_event ?hg (N := 1) ?hd (cs := #[.int .i64 a0_0, .int .i64 a0_1, .string a0_2, .bool false, .string a0_4]) (t := 43) ?hr ?_; (case hd => rfl); (case hg => rfl); (case hr => first | (go_simp; done) | (go_simp; rfl)); intro gb105 hg w8 hbox hb; have n0_ := Aside0.mk (below_step (by repeat (first | (with_reducible first | exact HB.out | apply below_alloc | apply pw_below_drewN | apply below_drew1) | exact HB.out)) hb); have n1_ := Aside0.mk (hbox); have n2_ := Aside0.mk ((by rw [hg]; exact (below_size (by repeat (first | (with_reducible first | exact HB.out | apply below_alloc | apply pw_below_drewN | apply below_drew1) | exact HB.out))) : w.heap.size ≤ gb105)); have n3_ := Aside0.mk ((by rw [hg]; exact (below_size (by repeat (first | (with_reducible first | exact HB.out | apply below_alloc | apply pw_below_drewN | apply below_drew1) | exact HB.out))) : w.heap.size ≤ gb105)); clear HB; have HB := n0_; have BK105 := n1_; have GW105 := n2_; have GE105 := n3_; clear n0_ n1_ n2_ n3_; clear hb hbox hg; have hcz9_0 : w8.cell? ⟨gb105, 0, none⟩ = some (.int .i64 a0_0) := (blk_cell BK105.out 0).trans rfl; have hcz9_1 : w8.cell? ⟨gb105, 1, none⟩ = some (.int .i64 a0_1) := (blk_cell BK105.out 1).trans rfl; have hcz9_2 : w8.cell? ⟨gb105, 2, none⟩ = some (.string a0_2) := (blk_cell BK105.out 2).trans rfl; have hcz9_3 : w8.cell? ⟨gb105, 3, none⟩ = some (.bool false) := (blk_cell BK105.out 3).trans rfl; have hcz9_4 : w8.cell? ⟨gb105, 4, none⟩ = some (.string a0_4) := (blk_cell BK105.out 4).trans rfl; have hfz9_0 := blk_frozen BK105.out 0; have hfz9_1 := blk_frozen BK105.out 1; have hfz9_2 := blk_frozen BK105.out 2; have hfz9_3 := blk_frozen BK105.out 3; have hfz9_4 := blk_frozen BK105.out 4))
          go_ret
          exact ⟨by first | rfl | (simp [errW_none, errW_some] <;> rfl) | (simp [*, errW_none, errW_some] <;> rfl), by repeat (first | (with_reducible first | exact HB.out | apply below_alloc | apply pw_below_drewN | apply below_drew1 | refine below_set ?_ GE105.out) | exact HB.out)⟩
        · rw [if_neg c7] at H
          have c7b0 : (a0_4.toList == ([] : List UInt8)) = false := beq_eq_false_iff_ne.mpr c7
          have c7b1 : (a0_4.toList != ([] : List UInt8)) = true := bne_iff_ne.mpr c7
          obtain rfl := Option.some.inj H
          go_enter Tryz.func82, Tryz.ntmps82
          go_wp2_with (first | ((with_reducible refine gate_dst (N := 1) rfl ?_); (try (refine gate_guard (by rfl) ?_; dsimp only)); refine box_event ?hg (N := 1) ?hd (cs := #[.int .i64 a0_0, .int .i64 a0_1, .string a0_2, .bool false, .string a0_4]) (t := 43) ?hr ?_; (case hd => rfl); (case hg => rfl); (case hr => first | (go_simp; done) | (go_simp; rfl)); intro gb105 hg w10 hbox hb; have n0_ := Aside0.mk (below_step (by repeat (first | (with_reducible first | exact HB.out | apply below_alloc | apply pw_below_drewN | apply below_drew1) | exact HB.out)) hb); have n1_ := Aside0.mk (hbox); have n2_ := Aside0.mk ((by rw [hg]; exact (below_size (by repeat (first | (with_reducible first | exact HB.out | apply below_alloc | apply pw_below_drewN | apply below_drew1) | exact HB.out))) : w.heap.size ≤ gb105)); have n3_ := Aside0.mk ((by rw [hg]; exact (below_size (by repeat (first | (with_reducible first | exact HB.out | apply below_alloc | apply pw_below_drewN | apply below_drew1) | exact HB.out))) : w.heap.size ≤ gb105)); clear HB; have HB := n0_; have BK105 := n1_; have GW105 := n2_; have GE105 := n3_; clear n0_ n1_ n2_ n3_; clear hb hbox hg; have hcz11_0 : w10.cell? ⟨gb105, 0, none⟩ = some (.int .i64 a0_0) := (blk_cell BK105.out 0).trans rfl; have hcz11_1 : w10.cell? ⟨gb105, 1, none⟩ = some (.int .i64 a0_1) := (blk_cell BK105.out 1).trans rfl; have hcz11_2 : w10.cell? ⟨gb105, 2, none⟩ = some (.string a0_2) := (blk_cell BK105.out 2).trans rfl; have hcz11_3 : w10.cell? ⟨gb105, 3, none⟩ = some (.bool false) := (blk_cell BK105.out 3).trans rfl; have hcz11_4 : w10.cell? ⟨gb105, 4, none⟩ = some (.string a0_4) := (blk_cell BK105.out 4).trans rfl; have hfz11_0 := blk_frozen BK105.out 0; have hfz11_1 := blk_frozen BK105.out 1; have hfz11_2 := blk_frozen BK105.out 2; have hfz11_3 := blk_frozen BK105.out 3; have hfz11_4 := blk_frozen BK105.out 4))
          go_ret
          exact ⟨by first | rfl | (simp [errW_none, errW_some] <;> rfl) | (simp [*, errW_none, errW_some] <;> rfl), by repeat (first | (with_reducible first | exact HB.out | apply below_alloc | apply pw_below_drewN | apply below_drew1 | refine below_set ?_ GE105.out) | exact HB.out)⟩
    · rw [if_neg c3] at H
      have c3b0 : (a0_2.toList == ([] : List UInt8)) = false := beq_eq_false_iff_ne.mpr c3
      have c3b1 : (a0_2.toList != ([] : List UInt8)) = true := bne_iff_ne.mpr c3
      obtain rfl := Option.some.inj H
      go_enter Tryz.func82, Tryz.ntmps82
      go_wp2_with (first | ((with_reducible refine gate_dst (N := 1) rfl ?_); (try (refine gate_guard (by rfl) ?_; dsimp only)); refine box_event ?hg (N := 1) ?hd (cs := #[.int .i64 a0_0, .int .i64 a0_1, .string a0_2, .bool a0_3, .string a0_4]) (t := 43) ?hr ?_; (case hd => rfl); (case hg => rfl); (case hr => first | (go_simp; done) | (go_simp; rfl)); intro gb105 hg w12 hbox hb; have n0_ := Aside0.mk (below_step (by repeat (first | (with_reducible first | exact HB.out | apply below_alloc | apply pw_below_drewN | apply below_drew1) | exact HB.out)) hb); have n1_ := Aside0.mk (hbox); have n2_ := Aside0.mk ((by rw [hg]; exact (below_size (by repeat (first | (with_reducible first | exact HB.out | apply below_alloc | apply pw_below_drewN | apply below_drew1) | exact HB.out))) : w.heap.size ≤ gb105)); have n3_ := Aside0.mk ((by rw [hg]; exact (below_size (by repeat (first | (with_reducible first | exact HB.out | apply below_alloc | apply pw_below_drewN | apply below_drew1) | exact HB.out))) : w.heap.size ≤ gb105)); clear HB; have HB := n0_; have BK105 := n1_; have GW105 := n2_; have GE105 := n3_; clear n0_ n1_ n2_ n3_; clear hb hbox hg; have hcz13_0 : w12.cell? ⟨gb105, 0, none⟩ = some (.int .i64 a0_0) := (blk_cell BK105.out 0).trans rfl; have hcz13_1 : w12.cell? ⟨gb105, 1, none⟩ = some (.int .i64 a0_1) := (blk_cell BK105.out 1).trans rfl; have hcz13_2 : w12.cell? ⟨gb105, 2, none⟩ = some (.string a0_2) := (blk_cell BK105.out 2).trans rfl; have hcz13_3 : w12.cell? ⟨gb105, 3, none⟩ = some (.bool a0_3) := (blk_cell BK105.out 3).trans rfl; have hcz13_4 : w12.cell? ⟨gb105, 4, none⟩ = some (.string a0_4) := (blk_cell BK105.out 4).trans rfl; have hfz13_0 := blk_frozen BK105.out 0; have hfz13_1 := blk_frozen BK105.out 1; have hfz13_2 := blk_frozen BK105.out 2; have hfz13_3 := blk_frozen BK105.out 3; have hfz13_4 := blk_frozen BK105.out 4))
      go_ret
      exact ⟨by first | rfl | (simp [errW_none, errW_some] <;> rfl) | (simp [*, errW_none, errW_some] <;> rfl), by repeat (first | (with_reducible first | exact HB.out | apply below_alloc | apply pw_below_drewN | apply below_drew1 | refine below_set ?_ GE105.out) | exact HB.out)⟩
  · rw [if_neg c2] at H
    have c2b0 : (a0_1 == 0) = false := beq_eq_false_iff_ne.mpr c2
    have c2b1 : (a0_1 != 0) = true := bne_iff_ne.mpr c2
    obtain rfl := Option.some.inj H
    go_enter Tryz.func82, Tryz.ntmps82
    go_wp2_with (first | ((with_reducible refine gate_dst (N := 1) rfl ?_); (try (refine gate_guard (by rfl) ?_; dsimp only)); refine box_event ?hg (N := 1) ?hd (cs := #[.int .i64 a0_0, .int .i64 a0_1, .string a0_2, .bool a0_3, .string a0_4]) (t := 43) ?hr ?_; (case hd => rfl); (case hg => rfl); (case hr => first | (go_simp; done) | (go_simp; rfl)); intro gb105 hg w14 hbox hb; have n0_ := Aside0.mk (below_step (by repeat (first | (with_reducible first | exact HB.out | apply below_alloc | apply pw_below_drewN | apply below_drew1) | exact HB.out)) hb); have n1_ := Aside0.mk (hbox); have n2_ := Aside0.mk ((by rw [hg]; exact (below_size (by repeat (first | (with_reducible first | exact HB.out | apply below_alloc | apply pw_below_drewN | apply below_drew1) | exact HB.out))) : w.heap.size ≤ gb105)); have n3_ := Aside0.mk ((by rw [hg]; exact (below_size (by repeat (first | (with_reducible first | exact HB.out | apply below_alloc | apply pw_below_drewN | apply below_drew1) | exact HB.out))) : w.heap.size ≤ gb105)); clear HB; have HB := n0_; have BK105 := n1_; have GW105 := n2_; have GE105 := n3_; clear n0_ n1_ n2_ n3_; clear hb hbox hg; have hcz15_0 : w14.cell? ⟨gb105, 0, none⟩ = some (.int .i64 a0_0) := (blk_cell BK105.out 0).trans rfl; have hcz15_1 : w14.cell? ⟨gb105, 1, none⟩ = some (.int .i64 a0_1) := (blk_cell BK105.out 1).trans rfl; have hcz15_2 : w14.cell? ⟨gb105, 2, none⟩ = some (.string a0_2) := (blk_cell BK105.out 2).trans rfl; have hcz15_3 : w14.cell? ⟨gb105, 3, none⟩ = some (.bool a0_3) := (blk_cell BK105.out 3).trans rfl; have hcz15_4 : w14.cell? ⟨gb105, 4, none⟩ = some (.string a0_4) := (blk_cell BK105.out 4).trans rfl; have hfz15_0 := blk_frozen BK105.out 0; have hfz15_1 := blk_frozen BK105.out 1; have hfz15_2 := blk_frozen BK105.out 2; have hfz15_3 := blk_frozen BK105.out 3; have hfz15_4 := blk_frozen BK105.out 4))
    go_ret
    exact ⟨by first | rfl | (simp [errW_none, errW_some] <;> rfl) | (simp [*, errW_none, errW_some] <;> rfl), by repeat (first | (with_reducible first | exact HB.out | apply below_alloc | apply pw_below_drewN | apply below_drew1 | refine below_set ?_ GE105.out) | exact HB.out)⟩

/-! ### journal_since: function 30 -/
mutual
def journal_since.l0 : Nat → Int → Int → Bool → List (S43) → Int → Int → Option (Int × Bool)
  | 0, _, _, _, _, _, _ => none
  | k + 1, x1, x6, x7, x10, x11, x12 => if x12 < x11 then (if 0 ≤ x12 then (if x12 < (x10.length : Int) then (if ((rd_T43 x10 x12).f1) = x1 then (journal_since.j1 k x1 x6 x7 x12 x10 x11 x12 (((rd_T43 x10 x12).f0) == 6) ((rd_T43 x10 x12).f0) ((rd_T43 x10 x12).f1) ((rd_T43 x10 x12).f2) ((rd_T43 x10 x12).f3) ((rd_T43 x10 x12).f4)) else (journal_since.j1 k x1 x6 x7 x12 x10 x11 x12 true ((rd_T43 x10 x12).f0) ((rd_T43 x10 x12).f1) ((rd_T43 x10 x12).f2) ((rd_T43 x10 x12).f3) ((rd_T43 x10 x12).f4))) else (none)) else (none)) else (some (x6, x7))
def journal_since.j1 : Nat → Int → Int → Bool → Int → List (S43) → Int → Int → Bool → Int → Int → ByteArray → Bool → ByteArray → Option (Int × Bool)
  | 0, _, _, _, _, _, _, _, _, _, _, _, _, _ => none
  | k + 1, x1, x6, x7, x8, x10, x11, x12, x25, x108000, x108001, x108002, x108003, x108004 => if x25 = true then (journal_since.l0 k x1 x6 x7 x10 x11 (wrap64 (x12 + 1))) else (if x108000 = 1 then (journal_since.j2 k x1 x6 x7 x8 x10 x11 x12 x108000 (x108000 == 1)) else (journal_since.j2 k x1 x6 x7 x8 x10 x11 x12 x108000 (x108000 == 4)))
def journal_since.j2 : Nat → Int → Int → Bool → Int → List (S43) → Int → Int → Int → Bool → Option (Int × Bool)
  | 0, _, _, _, _, _, _, _, _, _ => none
  | k + 1, x1, x6, x7, x8, x10, x11, x12, x27, x28 => if x28 = true then (journal_since.l0 k x1 x8 true x10 x11 (wrap64 (x12 + 1))) else (if x27 = 5 then (journal_since.l0 k x1 x6 false x10 x11 (wrap64 (x12 + 1))) else (if x27 = 7 then (journal_since.l0 k x1 x6 false x10 x11 (wrap64 (x12 + 1))) else (journal_since.l0 k x1 x6 x7 x10 x11 (wrap64 (x12 + 1)))))
end
def journal_since.f (k : Nat) (l0 : List (S43)) (a1 : Int) : Option (Int × Bool) := journal_since.l0 k a1 0 false l0 (l0.length : Int) 0
theorem journal_since.mono_l : ∀ k, (∀ y0 y1 y2 y3 y4 y5, LeO (journal_since.l0 k y0 y1 y2 y3 y4 y5) (journal_since.l0 (k + 1) y0 y1 y2 y3 y4 y5)) ∧ (∀ y0 y1 y2 y3 y4 y5 y6 y7 y8 y9 y10 y11 y12, LeO (journal_since.j1 k y0 y1 y2 y3 y4 y5 y6 y7 y8 y9 y10 y11 y12) (journal_since.j1 (k + 1) y0 y1 y2 y3 y4 y5 y6 y7 y8 y9 y10 y11 y12)) ∧ (∀ y0 y1 y2 y3 y4 y5 y6 y7 y8, LeO (journal_since.j2 k y0 y1 y2 y3 y4 y5 y6 y7 y8) (journal_since.j2 (k + 1) y0 y1 y2 y3 y4 y5 y6 y7 y8))
  | 0 => ⟨fun _ _ _ _ _ _ r h => by simp [journal_since.l0] at h, fun _ _ _ _ _ _ _ _ _ _ _ _ _ r h => by simp [journal_since.j1] at h, fun _ _ _ _ _ _ _ _ _ r h => by simp [journal_since.j2] at h⟩
  | k + 1 => by
    obtain ⟨ih0, ih1, ih2⟩ := journal_since.mono_l k
    refine ⟨?_, ?_, ?_⟩
    · intro y0 y1 y2 y3 y4 y5
      unfold journal_since.l0
      repeat' first
      | (with_reducible exact ih0 _ _ _ _ _ _)
      | (with_reducible exact ih1 _ _ _ _ _ _ _ _ _ _ _ _ _)
      | (with_reducible exact ih2 _ _ _ _ _ _ _ _ _)
      | (with_reducible exact LeO.refl _)
      | (with_reducible exact LeO.none _)
      | (with_reducible refine LeO.ite ?_ ?_)
      | (with_reducible refine LeO.bind ?_ (fun _ => ?_))
      | exact ih0 _ _ _ _ _ _
      | exact ih1 _ _ _ _ _ _ _ _ _ _ _ _ _
      | exact ih2 _ _ _ _ _ _ _ _ _
      | exact LeO.none _
      | refine LeO.ite ?_ ?_
      | refine LeO.bind ?_ (fun _ => ?_)
    · intro y0 y1 y2 y3 y4 y5 y6 y7 y8 y9 y10 y11 y12
      unfold journal_since.j1
      repeat' first
      | (with_reducible exact ih0 _ _ _ _ _ _)
      | (with_reducible exact ih1 _ _ _ _ _ _ _ _ _ _ _ _ _)
      | (with_reducible exact ih2 _ _ _ _ _ _ _ _ _)
      | (with_reducible exact LeO.refl _)
      | (with_reducible exact LeO.none _)
      | (with_reducible refine LeO.ite ?_ ?_)
      | (with_reducible refine LeO.bind ?_ (fun _ => ?_))
      | exact ih0 _ _ _ _ _ _
      | exact ih1 _ _ _ _ _ _ _ _ _ _ _ _ _
      | exact ih2 _ _ _ _ _ _ _ _ _
      | exact LeO.none _
      | refine LeO.ite ?_ ?_
      | refine LeO.bind ?_ (fun _ => ?_)
    · intro y0 y1 y2 y3 y4 y5 y6 y7 y8
      unfold journal_since.j2
      repeat' first
      | (with_reducible exact ih0 _ _ _ _ _ _)
      | (with_reducible exact ih1 _ _ _ _ _ _ _ _ _ _ _ _ _)
      | (with_reducible exact ih2 _ _ _ _ _ _ _ _ _)
      | (with_reducible exact LeO.refl _)
      | (with_reducible exact LeO.none _)
      | (with_reducible refine LeO.ite ?_ ?_)
      | (with_reducible refine LeO.bind ?_ (fun _ => ?_))
      | exact ih0 _ _ _ _ _ _
      | exact ih1 _ _ _ _ _ _ _ _ _ _ _ _ _
      | exact ih2 _ _ _ _ _ _ _ _ _
      | exact LeO.none _
      | refine LeO.ite ?_ ?_
      | refine LeO.bind ?_ (fun _ => ?_)
theorem journal_since.mono : ∀ a0 a1 k, LeO (journal_since.f k a0 a1) (journal_since.f (k + 1) a0 a1) := by
  intro a0 a1 k
  obtain ⟨ih0, ih1, ih2⟩ := journal_since.mono_l k
  unfold journal_since.f
  repeat' first
      | (with_reducible exact ih0 _ _ _ _ _ _)
      | (with_reducible exact ih1 _ _ _ _ _ _ _ _ _ _ _ _ _)
      | (with_reducible exact ih2 _ _ _ _ _ _ _ _ _)
      | (with_reducible exact LeO.refl _)
      | (with_reducible exact LeO.none _)
      | (with_reducible refine LeO.ite ?_ ?_)
      | (with_reducible refine LeO.bind ?_ (fun _ => ?_))
      | exact ih0 _ _ _ _ _ _
      | exact ih1 _ _ _ _ _ _ _ _ _ _ _ _ _
      | exact ih2 _ _ _ _ _ _ _ _ _
      | exact LeO.none _
      | refine LeO.ite ?_ ?_
      | refine LeO.bind ?_ (fun _ => ?_)
set_option maxHeartbeats 8000000 in
set_option maxRecDepth 100000 in
theorem journal_since.calls (k : Nat) (A0 : Option Addr) (c0 : Nat) (l0 : List (S43)) (a1 : Int) (r1 : Int) (r2 : Bool) (w : World) (hr0 : Kd.C k43 w A0 l0.length l0) (hc0 : l0.length ≤ c0) (h : journal_since.f k l0 a1 = some (r1, r2)) :
    Calls Tryz.prog 30 #[.slice A0 l0.length c0, .int .i64 a1] w fun e w' => e = .returned (.tuple #[.int .i64 r1, .bool r2]) ∧ Below w.heap.size w w' := by
  have hu43 := Tryz.underlying43
  have HR0 := Aside0.mk hr0
  have HC0 := Aside0.mk hc0
  clear hr0 hc0
  have HB := Aside0.mk (Below.refl w.heap.size w)
  have H : (journal_since.l0 k a1 0 false l0 (l0.length : Int) 0) = some (r1, r2) := h
  clear h
  have H' := Aside0.mk H
  clear H
  go_enter Tryz.func30, Tryz.ntmps30
  go_wp2
  go_loopg [6, 7, 12] k (fun kq v6 v7 v12 w' => ∃ (x6_1 : Int) (x7_1 : Bool) (x12_1 : Int), v6 = .int .i64 x6_1 ∧ v7 = .bool x7_1 ∧ v12 = .int .i64 x12_1 ∧ Aside0 (journal_since.l0 kq a1 x6_1 x7_1 l0 (l0.length : Int) x12_1 = some (r1, r2)) ∧ Aside0 (kq ≤ k) ∧ Aside0 (Below w.heap.size w w'))
  case atStart => exact ⟨(0), (false), (0), (by first | rfl | (simp; done) | (simp [*]; done)), (by first | rfl | (simp; done) | (simp [*]; done)), (by first | rfl | (simp; done) | (simp [*]; done)), H', ⟨Nat.le_refl _⟩, ⟨by repeat (first | (with_reducible first | exact HB.out | apply below_alloc | apply pw_below_drewN | apply below_drew1) | exact HB.out)⟩⟩
  case round =>
    clear H'
    try clear p2
    obtain ⟨x6_1, x7_1, x12_1, rfl, rfl, rfl, HA, HK1, HB⟩ := hrel
    cases gk with
    | zero => exact absurd HA.out (by simp [journal_since.l0])
    | succ k1 =>
      have H := HA.out
      clear HA
      simp only [journal_since.l0] at H
      by_cases c3 : x12_1 < (l0.length : Int)
      · rw [if_pos c3] at H
        have c3b0 : decide (x12_1 < (l0.length : Int)) = true := decide_eq_true c3
        clear c3
        by_cases c4 : 0 ≤ x12_1
        · rw [if_pos c4] at H
          have c4b0 : decide (0 ≤ x12_1) = true := decide_eq_true c4
          clear c4
          by_cases c5 : x12_1 < (l0.length : Int)
          · rw [if_pos c5] at H
            have c5b0 : decide (x12_1 < (l0.length : Int)) = true := decide_eq_true c5
            clear c5
            have HC6 := Aside0.mk H
            clear H
            have p106 : 0 ≤ (x12_1 : Int) := of_decide_eq_true (by first | (with_reducible assumption) | assumption)
            have q106 : x12_1 < (l0.length : Int) := of_decide_eq_true (by first | (with_reducible assumption) | assumption)
            obtain ⟨ad106, e106, hx106_0, hx106_1, hx106_2, hx106_3, hx106_4⟩ := at_T43 HR0.out x12_1 p106 q106
            cases e106
            replace hx106_0 := (HB.out.cell (World.block_lt_of_cell? w _ hx106_0)).trans hx106_0
            replace hx106_1 := (HB.out.cell (World.block_lt_of_cell? w _ hx106_1)).trans hx106_1
            replace hx106_2 := (HB.out.cell (World.block_lt_of_cell? w _ hx106_2)).trans hx106_2
            replace hx106_3 := (HB.out.cell (World.block_lt_of_cell? w _ hx106_3)).trans hx106_3
            replace hx106_4 := (HB.out.cell (World.block_lt_of_cell? w _ hx106_4)).trans hx106_4
            replace p106 := eq_true p106
            replace q106 := eq_true q106
            go_upto_region 5 with (first | ((with_reducible refine gate_dst (N := 9) rfl ?_); refine box_event ?hg (N := 9) ?hd (cs := #[.int .i64 0, .int .i64 0, .string (⟨#[]⟩ : ByteArray), .bool false, .string (⟨#[]⟩ : ByteArray)]) (t := 43) ?hr ?_; (case hd => rfl); (case hg => rfl); (case hr => first | (go_simp; done) | (go_simp; rfl)); intro gb107 hg w7 hbox hb; have n0_ := Aside0.mk (below_step (by repeat (first | (with_reducible first | exact HB.out | apply below_alloc | apply pw_below_drewN | apply below_drew1) | exact HB.out)) hb); have n1_ := Aside0.mk (hbox); have n2_ := Aside0.mk ((by rw [hg]; exact (below_size (by repeat (first | (with_reducible first | exact HB.out | apply below_alloc | apply pw_below_drewN | apply below_drew1) | exact HB.out))) : w.heap.size ≤ gb107)); have n3_ := Aside0.mk ((by rw [hg]; exact (below_size (by repeat (first | (with_reducible first | exact HB.out | apply below_alloc | apply pw_below_drewN | apply below_drew1) | exact HB.out))) : w.heap.size ≤ gb107)); clear HB; have HB := n0_; have BK107 := n1_; have GW107 := n2_; have GE107 := n3_; clear n0_ n1_ n2_ n3_; clear hb hbox hg; have hcz8_0 : w7.cell? ⟨gb107, 0, none⟩ = some (.int .i64 0) := (blk_cell BK107.out 0).trans rfl; have hcz8_1 : w7.cell? ⟨gb107, 1, none⟩ = some (.int .i64 0) := (blk_cell BK107.out 1).trans rfl; have hcz8_2 : w7.cell? ⟨gb107, 2, none⟩ = some (.string (⟨#[]⟩ : ByteArray)) := (blk_cell BK107.out 2).trans rfl; have hcz8_3 : w7.cell? ⟨gb107, 3, none⟩ = some (.bool false) := (blk_cell BK107.out 3).trans rfl; have hcz8_4 : w7.cell? ⟨gb107, 4, none⟩ = some (.string (⟨#[]⟩ : ByteArray)) := (blk_cell BK107.out 4).trans rfl; have hfz8_0 := blk_frozen BK107.out 0; have hfz8_1 := blk_frozen BK107.out 1; have hfz8_2 := blk_frozen BK107.out 2; have hfz8_3 := blk_frozen BK107.out 3; have hfz8_4 := blk_frozen BK107.out 4))
            (try simp only [Act.put, List.setIfInBounds_toArray, List.set_cons_zero, List.set_cons_succ])
            go_cut [25] (fun v25 wc => ∃ (kq : Nat) (x25_5 : Bool), v25 = .bool x25_5 ∧ Aside0 (journal_since.j1 kq a1 x6_1 x7_1 x12_1 l0 (l0.length : Int) x12_1 x25_5 ((rd_T43 l0 x12_1).f0) ((rd_T43 l0 x12_1).f1) ((rd_T43 l0 x12_1).f2) ((rd_T43 l0 x12_1).f3) ((rd_T43 l0 x12_1).f4) = some (r1, r2)) ∧ Aside0 (kq ≤ k1) ∧ Aside0 (wc.heap[gb107]? = some (.cells #[.int .i64 ((rd_T43 l0 x12_1).f0), .int .i64 ((rd_T43 l0 x12_1).f1), .string ((rd_T43 l0 x12_1).f2), .bool ((rd_T43 l0 x12_1).f3), .string ((rd_T43 l0 x12_1).f4)] 43 (0, 0))) ∧ Aside0 (Below w.heap.size w wc))
            case first =>
              have H := HC6.out
              clear HC6
              by_cases c9 : ((rd_T43 l0 x12_1).f1) = a1
              · rw [if_pos c9] at H
                have c9b0 : (((rd_T43 l0 x12_1).f1) == a1) = true := beq_iff_eq.mpr c9
                have c9b1 : (((rd_T43 l0 x12_1).f1) != a1) = false := bne_eq_false_iff_eq.mpr c9
                clear c9
                (first | rw [c9b0] | (simp only [i64_w, i32_w]; rw [c9b0]) | skip)
                have H' := Aside0.mk H
                clear H
                have hcz10_0 : w7.cell? ⟨gb107, 0, none⟩ = some (.int .i64 0) := (blk_cell BK107.out 0).trans rfl
                have hcz10_1 : w7.cell? ⟨gb107, 1, none⟩ = some (.int .i64 0) := (blk_cell BK107.out 1).trans rfl
                have hcz10_2 : w7.cell? ⟨gb107, 2, none⟩ = some (.string (⟨#[]⟩ : ByteArray)) := (blk_cell BK107.out 2).trans rfl
                have hcz10_3 : w7.cell? ⟨gb107, 3, none⟩ = some (.bool false) := (blk_cell BK107.out 3).trans rfl
                have hcz10_4 : w7.cell? ⟨gb107, 4, none⟩ = some (.string (⟨#[]⟩ : ByteArray)) := (blk_cell BK107.out 4).trans rfl
                have hfz10_0 := blk_frozen BK107.out 0
                have hfz10_1 := blk_frozen BK107.out 1
                have hfz10_2 := blk_frozen BK107.out 2
                have hfz10_3 := blk_frozen BK107.out 3
                have hfz10_4 := blk_frozen BK107.out 4
                go_wp2
                go_meet
                case rel => exact ⟨_, ((((rd_T43 l0 x12_1).f0) == 6)), (by first | rfl | (simp; done) | (simp [*]; done)), H', ⟨by have := HK1.out; first | omega | exact Nat.le_refl _⟩, ⟨by (with_reducible repeat (first | refine blk_drewN ?_ _ | refine blk_drew ?_ | refine blk_alloc ?_ _)); refine blk_put (cs := #[.int .i64 ((rd_T43 l0 x12_1).f0), .int .i64 ((rd_T43 l0 x12_1).f1), .string ((rd_T43 l0 x12_1).f2), .bool ((rd_T43 l0 x12_1).f3), .string (⟨#[]⟩ : ByteArray)]) ?_ 4 _ rfl; (with_reducible repeat (first | refine blk_drewN ?_ _ | refine blk_drew ?_ | refine blk_alloc ?_ _)); refine blk_put (cs := #[.int .i64 ((rd_T43 l0 x12_1).f0), .int .i64 ((rd_T43 l0 x12_1).f1), .string ((rd_T43 l0 x12_1).f2), .bool false, .string (⟨#[]⟩ : ByteArray)]) ?_ 3 _ rfl; (with_reducible repeat (first | refine blk_drewN ?_ _ | refine blk_drew ?_ | refine blk_alloc ?_ _)); refine blk_put (cs := #[.int .i64 ((rd_T43 l0 x12_1).f0), .int .i64 ((rd_T43 l0 x12_1).f1), .string (⟨#[]⟩ : ByteArray), .bool false, .string (⟨#[]⟩ : ByteArray)]) ?_ 2 _ rfl; (with_reducible repeat (first | refine blk_drewN ?_ _ | refine blk_drew ?_ | refine blk_alloc ?_ _)); refine blk_put (cs := #[.int .i64 ((rd_T43 l0 x12_1).f0), .int .i64 0, .string (⟨#[]⟩ : ByteArray), .bool false, .string (⟨#[]⟩ : ByteArray)]) ?_ 1 _ rfl; (with_reducible repeat (first | refine blk_drewN ?_ _ | refine blk_drew ?_ | refine blk_alloc ?_ _)); refine blk_put (cs := #[.int .i64 0, .int .i64 0, .string (⟨#[]⟩ : ByteArray), .bool false, .string (⟨#[]⟩ : ByteArray)]) ?_ 0 _ rfl; (with_reducible repeat (first | refine blk_drewN ?_ _ | refine blk_drew ?_ | refine blk_alloc ?_ _)); exact BK107.out⟩, ⟨by repeat (first | (with_reducible first | exact HB.out | apply below_alloc | apply pw_below_drewN | apply below_drew1 | refine below_set ?_ GE107.out) | exact HB.out)⟩⟩
              · rw [if_neg c9] at H
                have c9b0 : (((rd_T43 l0 x12_1).f1) == a1) = false := beq_eq_false_iff_ne.mpr c9
                have c9b1 : (((rd_T43 l0 x12_1).f1) != a1) = true := bne_iff_ne.mpr c9
                (first | rw [c9b0] | (simp only [i64_w, i32_w]; rw [c9b0]) | skip)
                have H' := Aside0.mk H
                clear H
                have hcz11_0 : w7.cell? ⟨gb107, 0, none⟩ = some (.int .i64 0) := (blk_cell BK107.out 0).trans rfl
                have hcz11_1 : w7.cell? ⟨gb107, 1, none⟩ = some (.int .i64 0) := (blk_cell BK107.out 1).trans rfl
                have hcz11_2 : w7.cell? ⟨gb107, 2, none⟩ = some (.string (⟨#[]⟩ : ByteArray)) := (blk_cell BK107.out 2).trans rfl
                have hcz11_3 : w7.cell? ⟨gb107, 3, none⟩ = some (.bool false) := (blk_cell BK107.out 3).trans rfl
                have hcz11_4 : w7.cell? ⟨gb107, 4, none⟩ = some (.string (⟨#[]⟩ : ByteArray)) := (blk_cell BK107.out 4).trans rfl
                have hfz11_0 := blk_frozen BK107.out 0
                have hfz11_1 := blk_frozen BK107.out 1
                have hfz11_2 := blk_frozen BK107.out 2
                have hfz11_3 := blk_frozen BK107.out 3
                have hfz11_4 := blk_frozen BK107.out 4
                go_wp2
                go_meet
                case rel => exact ⟨_, (true), (by first | rfl | (simp; done) | (simp [*]; done)), H', ⟨by have := HK1.out; first | omega | exact Nat.le_refl _⟩, ⟨by (with_reducible repeat (first | refine blk_drewN ?_ _ | refine blk_drew ?_ | refine blk_alloc ?_ _)); refine blk_put (cs := #[.int .i64 ((rd_T43 l0 x12_1).f0), .int .i64 ((rd_T43 l0 x12_1).f1), .string ((rd_T43 l0 x12_1).f2), .bool ((rd_T43 l0 x12_1).f3), .string (⟨#[]⟩ : ByteArray)]) ?_ 4 _ rfl; (with_reducible repeat (first | refine blk_drewN ?_ _ | refine blk_drew ?_ | refine blk_alloc ?_ _)); refine blk_put (cs := #[.int .i64 ((rd_T43 l0 x12_1).f0), .int .i64 ((rd_T43 l0 x12_1).f1), .string ((rd_T43 l0 x12_1).f2), .bool false, .string (⟨#[]⟩ : ByteArray)]) ?_ 3 _ rfl; (with_reducible repeat (first | refine blk_drewN ?_ _ | refine blk_drew ?_ | refine blk_alloc ?_ _)); refine blk_put (cs := #[.int .i64 ((rd_T43 l0 x12_1).f0), .int .i64 ((rd_T43 l0 x12_1).f1), .string (⟨#[]⟩ : ByteArray), .bool false, .string (⟨#[]⟩ : ByteArray)]) ?_ 2 _ rfl; (with_reducible repeat (first | refine blk_drewN ?_ _ | refine blk_drew ?_ | refine blk_alloc ?_ _)); refine blk_put (cs := #[.int .i64 ((rd_T43 l0 x12_1).f0), .int .i64 0, .string (⟨#[]⟩ : ByteArray), .bool false, .string (⟨#[]⟩ : ByteArray)]) ?_ 1 _ rfl; (with_reducible repeat (first | refine blk_drewN ?_ _ | refine blk_drew ?_ | refine blk_alloc ?_ _)); refine blk_put (cs := #[.int .i64 0, .int .i64 0, .string (⟨#[]⟩ : ByteArray), .bool false, .string (⟨#[]⟩ : ByteArray)]) ?_ 0 _ rfl; (with_reducible repeat (first | refine blk_drewN ?_ _ | refine blk_drew ?_ | refine blk_alloc ?_ _)); exact BK107.out⟩, ⟨by repeat (first | (with_reducible first | exact HB.out | apply below_alloc | apply pw_below_drewN | apply below_drew1 | refine below_set ?_ GE107.out) | exact HB.out)⟩⟩
            case rest =>
              clear HC6
              try clear p1
              try clear q1
              try clear hx1
              try clear p2
              try clear c3
              try clear c3b0
              try clear c4
              try clear c4b0
              try clear c5
              try clear c5b0
              try clear c9
              try clear c9b0
              try clear c9b1
              try clear p10
              try clear q10
              try clear hx10
              try clear hcz10_0
              try clear hcz10_1
              try clear hcz10_2
              try clear hcz10_3
              try clear hcz10_4
              try clear hcz11_0
              try clear hcz11_1
              try clear hcz11_2
              try clear hcz11_3
              try clear hcz11_4
              try clear hcz8_0
              try clear hcz8_1
              try clear hcz8_2
              try clear hcz8_3
              try clear hcz8_4
              try clear hfz10_0
              try clear hfz10_1
              try clear hfz10_2
              try clear hfz10_3
              try clear hfz10_4
              try clear hfz11_0
              try clear hfz11_1
              try clear hfz11_2
              try clear hfz11_3
              try clear hfz11_4
              try clear hfz8_0
              try clear hfz8_1
              try clear hfz8_2
              try clear hfz8_3
              try clear hfz8_4
              try clear hx106_0
              try clear hx106_1
              try clear hx106_2
              try clear hx106_3
              try clear hx106_4
              try clear p106
              try clear p2
              try clear q106
              obtain ⟨kq, x25_5, rfl, HA, HJ5, BK107, HB⟩ := hcut
              cases kq with
              | zero => exact absurd HA.out (by simp [journal_since.j1])
              | succ kj5 =>
                have H := HA.out
                clear HA
                simp only [journal_since.j1] at H
                by_cases c12 : x25_5 = true
                · subst c12
                  have H1 : (journal_since.l0 kj5 a1 x6_1 x7_1 l0 (l0.length : Int) (wrap64 (x12_1 + 1))) = some (r1, r2) := by rw [if_pos rfl] at H; exact H
                  clear H
                  have H := H1
                  clear H1
                  have H' := Aside0.mk H
                  clear H
                  go_wp2
                  go_roundg kj5
                  case measure => have := HK1.out; have := HJ5.out; omega
                  case rel => exact ⟨(x6_1), (x7_1), (wrap64 (x12_1 + 1)), (by first | rfl | (simp; done) | (simp [*]; done)), (by first | rfl | (simp; done) | (simp [*]; done)), (by first | rfl | (simp; done) | (simp [*]; done)), H', ⟨by have := HK1.out; have := HJ5.out; omega⟩, ⟨by repeat (first | (with_reducible first | exact HB.out | apply below_alloc | apply pw_below_drewN | apply below_drew1 | refine below_set ?_ GE107.out) | exact HB.out)⟩⟩
                · replace c12 := Bool.eq_false_iff.mpr c12
                  subst c12
                  have H1 : (if ((rd_T43 l0 x12_1).f0) = 1 then (journal_since.j2 kj5 a1 x6_1 x7_1 x12_1 l0 (l0.length : Int) x12_1 ((rd_T43 l0 x12_1).f0) (((rd_T43 l0 x12_1).f0) == 1)) else (journal_since.j2 kj5 a1 x6_1 x7_1 x12_1 l0 (l0.length : Int) x12_1 ((rd_T43 l0 x12_1).f0) (((rd_T43 l0 x12_1).f0) == 4))) = some (r1, r2) := by rw [if_neg (show ¬ (false = true) by decide)] at H; exact H
                  clear H
                  have H := H1
                  clear H1
                  have HC13 := Aside0.mk H
                  clear H
                  have hcz14_0 : wc.cell? ⟨gb107, 0, none⟩ = some (.int .i64 ((rd_T43 l0 x12_1).f0)) := (blk_cell BK107.out 0).trans rfl
                  have hcz14_1 : wc.cell? ⟨gb107, 1, none⟩ = some (.int .i64 ((rd_T43 l0 x12_1).f1)) := (blk_cell BK107.out 1).trans rfl
                  have hcz14_2 : wc.cell? ⟨gb107, 2, none⟩ = some (.string ((rd_T43 l0 x12_1).f2)) := (blk_cell BK107.out 2).trans rfl
                  have hcz14_3 : wc.cell? ⟨gb107, 3, none⟩ = some (.bool ((rd_T43 l0 x12_1).f3)) := (blk_cell BK107.out 3).trans rfl
                  have hcz14_4 : wc.cell? ⟨gb107, 4, none⟩ = some (.string ((rd_T43 l0 x12_1).f4)) := (blk_cell BK107.out 4).trans rfl
                  have hfz14_0 := blk_frozen BK107.out 0
                  have hfz14_1 := blk_frozen BK107.out 1
                  have hfz14_2 := blk_frozen BK107.out 2
                  have hfz14_3 := blk_frozen BK107.out 3
                  have hfz14_4 := blk_frozen BK107.out 4
                  go_upto_if 28 with (fail)
                  go_cut [28] (fun v28 wc => ∃ (kq : Nat) (x28_12 : Bool), v28 = .bool x28_12 ∧ Aside0 (journal_since.j2 kq a1 x6_1 x7_1 x12_1 l0 (l0.length : Int) x12_1 ((rd_T43 l0 x12_1).f0) x28_12 = some (r1, r2)) ∧ Aside0 (kq ≤ kj5) ∧ Aside0 (wc.heap[gb107]? = some (.cells #[.int .i64 ((rd_T43 l0 x12_1).f0), .int .i64 ((rd_T43 l0 x12_1).f1), .string ((rd_T43 l0 x12_1).f2), .bool ((rd_T43 l0 x12_1).f3), .string ((rd_T43 l0 x12_1).f4)] 43 (0, 0))) ∧ Aside0 (Below w.heap.size w wc))
                  case first =>
                    have H := HC13.out
                    clear HC13
                    by_cases c15 : ((rd_T43 l0 x12_1).f0) = 1
                    · rw [if_pos c15] at H
                      have c15b0 : (((rd_T43 l0 x12_1).f0) == 1) = true := beq_iff_eq.mpr c15
                      have c15b1 : (((rd_T43 l0 x12_1).f0) != 1) = false := bne_eq_false_iff_eq.mpr c15
                      clear c15
                      (first | rw [c15b0] | (simp only [i64_w, i32_w]; rw [c15b0]) | skip)
                      have H' := Aside0.mk H
                      clear H
                      go_wp2
                      go_meet
                      case rel => exact ⟨_, ((((rd_T43 l0 x12_1).f0) == 1)), (by first | rfl | (simp; done) | (simp [*]; done)), H', ⟨by have := HK1.out; have := HJ5.out; first | omega | exact Nat.le_refl _⟩, ⟨by (with_reducible repeat (first | refine blk_drewN ?_ _ | refine blk_drew ?_ | refine blk_alloc ?_ _)); exact BK107.out⟩, ⟨by repeat (first | (with_reducible first | exact HB.out | apply below_alloc | apply pw_below_drewN | apply below_drew1 | refine below_set ?_ GE107.out) | exact HB.out)⟩⟩
                    · rw [if_neg c15] at H
                      have c15b0 : (((rd_T43 l0 x12_1).f0) == 1) = false := beq_eq_false_iff_ne.mpr c15
                      have c15b1 : (((rd_T43 l0 x12_1).f0) != 1) = true := bne_iff_ne.mpr c15
                      (first | rw [c15b0] | (simp only [i64_w, i32_w]; rw [c15b0]) | skip)
                      have H' := Aside0.mk H
                      clear H
                      go_wp2
                      go_meet
                      case rel => exact ⟨_, ((((rd_T43 l0 x12_1).f0) == 4)), (by first | rfl | (simp; done) | (simp [*]; done)), H', ⟨by have := HK1.out; have := HJ5.out; first | omega | exact Nat.le_refl _⟩, ⟨by (with_reducible repeat (first | refine blk_drewN ?_ _ | refine blk_drew ?_ | refine blk_alloc ?_ _)); exact BK107.out⟩, ⟨by repeat (first | (with_reducible first | exact HB.out | apply below_alloc | apply pw_below_drewN | apply below_drew1 | refine below_set ?_ GE107.out) | exact HB.out)⟩⟩
                  case rest =>
                    clear HC13
                    try clear c1
                    try clear p1
                    try clear q1
                    try clear hx1
                    try clear p2
                    try clear c3
                    try clear c3b0
                    try clear c4
                    try clear c4b0
                    try clear c5
                    try clear c5b0
                    try clear p6
                    try clear c9
                    try clear c9b0
                    try clear c9b1
                    try clear p10
                    try clear q10
                    try clear hx10
                    try clear c12
                    try clear c15
                    try clear c15b0
                    try clear c15b1
                    try clear hcz10_0
                    try clear hcz10_1
                    try clear hcz10_2
                    try clear hcz10_3
                    try clear hcz10_4
                    try clear hcz11_0
                    try clear hcz11_1
                    try clear hcz11_2
                    try clear hcz11_3
                    try clear hcz11_4
                    try clear hcz14_0
                    try clear hcz14_1
                    try clear hcz14_2
                    try clear hcz14_3
                    try clear hcz14_4
                    try clear hcz8_0
                    try clear hcz8_1
                    try clear hcz8_2
                    try clear hcz8_3
                    try clear hcz8_4
                    try clear hfz10_0
                    try clear hfz10_1
                    try clear hfz10_2
                    try clear hfz10_3
                    try clear hfz10_4
                    try clear hfz11_0
                    try clear hfz11_1
                    try clear hfz11_2
                    try clear hfz11_3
                    try clear hfz11_4
                    try clear hfz14_0
                    try clear hfz14_1
                    try clear hfz14_2
                    try clear hfz14_3
                    try clear hfz14_4
                    try clear hfz8_0
                    try clear hfz8_1
                    try clear hfz8_2
                    try clear hfz8_3
                    try clear hfz8_4
                    try clear hx106_0
                    try clear hx106_1
                    try clear hx106_2
                    try clear hx106_3
                    try clear hx106_4
                    try clear p1
                    try clear p10
                    try clear p106
                    try clear p2
                    try clear q1
                    try clear q10
                    try clear q106
                    obtain ⟨kq, x28_12, rfl, HA, HJ12, BK107, HB⟩ := hcut
                    cases kq with
                    | zero => exact absurd HA.out (by simp [journal_since.j2])
                    | succ kj12 =>
                      have H := HA.out
                      clear HA
                      simp only [journal_since.j2] at H
                      by_cases c16 : x28_12 = true
                      · subst c16
                        have H1 : (journal_since.l0 kj12 a1 x12_1 true l0 (l0.length : Int) (wrap64 (x12_1 + 1))) = some (r1, r2) := by rw [if_pos rfl] at H; exact H
                        clear H
                        have H := H1
                        clear H1
                        have H' := Aside0.mk H
                        clear H
                        go_wp2
                        go_roundg kj12
                        case measure => have := HK1.out; have := HJ5.out; have := HJ12.out; omega
                        case rel => exact ⟨(x12_1), (true), (wrap64 (x12_1 + 1)), (by first | rfl | (simp; done) | (simp [*]; done)), (by first | rfl | (simp; done) | (simp [*]; done)), (by first | rfl | (simp; done) | (simp [*]; done)), H', ⟨by have := HK1.out; have := HJ5.out; have := HJ12.out; omega⟩, ⟨by repeat (first | (with_reducible first | exact HB.out | apply below_alloc | apply pw_below_drewN | apply below_drew1 | refine below_set ?_ GE107.out) | exact HB.out)⟩⟩
                      · replace c16 := Bool.eq_false_iff.mpr c16
                        subst c16
                        have H1 : (if ((rd_T43 l0 x12_1).f0) = 5 then (journal_since.l0 kj12 a1 x6_1 false l0 (l0.length : Int) (wrap64 (x12_1 + 1))) else (if ((rd_T43 l0 x12_1).f0) = 7 then (journal_since.l0 kj12 a1 x6_1 false l0 (l0.length : Int) (wrap64 (x12_1 + 1))) else (journal_since.l0 kj12 a1 x6_1 x7_1 l0 (l0.length : Int) (wrap64 (x12_1 + 1))))) = some (r1, r2) := by rw [if_neg (show ¬ (false = true) by decide)] at H; exact H
                        clear H
                        have H := H1
                        clear H1
                        by_cases c17 : ((rd_T43 l0 x12_1).f0) = 5
                        · rw [if_pos c17] at H
                          have c17b0 : (((rd_T43 l0 x12_1).f0) == 5) = true := beq_iff_eq.mpr c17
                          have c17b1 : (((rd_T43 l0 x12_1).f0) != 5) = false := bne_eq_false_iff_eq.mpr c17
                          clear c17
                          have H' := Aside0.mk H
                          clear H
                          go_wp2
                          go_roundg kj12
                          case measure => have := HK1.out; have := HJ5.out; have := HJ12.out; omega
                          case rel => exact ⟨(x6_1), (false), (wrap64 (x12_1 + 1)), (by first | rfl | (simp; done) | (simp [*]; done)), (by first | rfl | (simp; done) | (simp [*]; done)), (by first | rfl | (simp; done) | (simp [*]; done)), H', ⟨by have := HK1.out; have := HJ5.out; have := HJ12.out; omega⟩, ⟨by repeat (first | (with_reducible first | exact HB.out | apply below_alloc | apply pw_below_drewN | apply below_drew1 | refine below_set ?_ GE107.out) | exact HB.out)⟩⟩
                        · rw [if_neg c17] at H
                          have c17b0 : (((rd_T43 l0 x12_1).f0) == 5) = false := beq_eq_false_iff_ne.mpr c17
                          have c17b1 : (((rd_T43 l0 x12_1).f0) != 5) = true := bne_iff_ne.mpr c17
                          by_cases c18 : ((rd_T43 l0 x12_1).f0) = 7
                          · rw [if_pos c18] at H
                            have c18b0 : (((rd_T43 l0 x12_1).f0) == 7) = true := beq_iff_eq.mpr c18
                            have c18b1 : (((rd_T43 l0 x12_1).f0) != 7) = false := bne_eq_false_iff_eq.mpr c18
                            clear c18
                            have H' := Aside0.mk H
                            clear H
                            go_wp2
                            go_roundg kj12
                            case measure => have := HK1.out; have := HJ5.out; have := HJ12.out; omega
                            case rel => exact ⟨(x6_1), (false), (wrap64 (x12_1 + 1)), (by first | rfl | (simp; done) | (simp [*]; done)), (by first | rfl | (simp; done) | (simp [*]; done)), (by first | rfl | (simp; done) | (simp [*]; done)), H', ⟨by have := HK1.out; have := HJ5.out; have := HJ12.out; omega⟩, ⟨by repeat (first | (with_reducible first | exact HB.out | apply below_alloc | apply pw_below_drewN | apply below_drew1 | refine below_set ?_ GE107.out) | exact HB.out)⟩⟩
                          · rw [if_neg c18] at H
                            have c18b0 : (((rd_T43 l0 x12_1).f0) == 7) = false := beq_eq_false_iff_ne.mpr c18
                            have c18b1 : (((rd_T43 l0 x12_1).f0) != 7) = true := bne_iff_ne.mpr c18
                            have H' := Aside0.mk H
                            clear H
                            go_wp2
                            go_roundg kj12
                            case measure => have := HK1.out; have := HJ5.out; have := HJ12.out; omega
                            case rel => exact ⟨(x6_1), (x7_1), (wrap64 (x12_1 + 1)), (by first | rfl | (simp; done) | (simp [*]; done)), (by first | rfl | (simp; done) | (simp [*]; done)), (by first | rfl | (simp; done) | (simp [*]; done)), H', ⟨by have := HK1.out; have := HJ5.out; have := HJ12.out; omega⟩, ⟨by repeat (first | (with_reducible first | exact HB.out | apply below_alloc | apply pw_below_drewN | apply below_drew1 | refine below_set ?_ GE107.out) | exact HB.out)⟩⟩
          · rw [if_neg c5] at H
            exact absurd H (by simp)
        · rw [if_neg c4] at H
          exact absurd H (by simp)
      · rw [if_neg c3] at H
        have c3b0 : decide (x12_1 < (l0.length : Int)) = false := decide_eq_false c3
        clear c3
        simp only [Option.some.injEq, Prod.mk.injEq] at H
        obtain ⟨rfl, rfl⟩ := H
        go_wp2
        go_ret2
        exact ⟨by first | rfl | (simp [errW_none, errW_some] <;> rfl) | (simp [*, errW_none, errW_some] <;> rfl), by repeat (first | (with_reducible first | exact HB.out | apply below_alloc | apply pw_below_drewN | apply below_drew1) | exact HB.out)⟩

/-! ### journal_image: function 53 -/
def journal_image.f (a0_0 : ByteArray) (a0_1 : Bool) (a0_2 : ByteArray) : Option (Bool) := if a0_0.toList = ([] : List UInt8) then (some false) else (if (a0_0.size : Int) ≤ 40 then (if (a0_2.size : Int) ≤ 4000 then (if a0_1 = true then (some true) else (some (a0_2.toList == ([] : List UInt8)))) else (some false)) else (some false))
set_option maxHeartbeats 8000000 in
set_option maxRecDepth 100000 in
theorem journal_image.calls (a0_0 : ByteArray) (a0_1 : Bool) (a0_2 : ByteArray) (r : Bool) (w : World) (h : journal_image.f a0_0 a0_1 a0_2 = some r) :
    Calls Tryz.prog 53 #[.agg #[.string a0_0, .bool a0_1, .string a0_2]] w fun e w' => e = .returned (.bool r) ∧ Below w.heap.size w w' := by
  have hu48 := Tryz.underlying48
  have HB := Aside0.mk (Below.refl w.heap.size w)
  have H : (if a0_0.toList = ([] : List UInt8) then (some false) else (if (a0_0.size : Int) ≤ 40 then (if (a0_2.size : Int) ≤ 4000 then (if a0_1 = true then (some true) else (some (a0_2.toList == ([] : List UInt8)))) else (some false)) else (some false))) = some r := h
  clear h
  by_cases c2 : a0_0.toList = ([] : List UInt8)
  · rw [if_pos c2] at H
    have c2b0 : (a0_0.toList == ([] : List UInt8)) = true := beq_iff_eq.mpr c2
    have c2b1 : (a0_0.toList != ([] : List UInt8)) = false := bne_eq_false_iff_eq.mpr c2
    clear c2
    obtain rfl := Option.some.inj H
    go_enter Tryz.func53, Tryz.ntmps53
    go_wp2_with (first | ((with_reducible refine gate_dst (N := 1) rfl ?_); (try (refine gate_guard (by rfl) ?_; dsimp only)); refine box_event ?hg (N := 1) ?hd (cs := #[.string a0_0, .bool a0_1, .string a0_2]) (t := 48) ?hr ?_; (case hd => rfl); (case hg => rfl); (case hr => first | (go_simp; done) | (go_simp; rfl)); intro gb108 hg w3 hbox hb; have n0_ := Aside0.mk (below_step (by repeat (first | (with_reducible first | exact HB.out | apply below_alloc | apply pw_below_drewN | apply below_drew1) | exact HB.out)) hb); have n1_ := Aside0.mk (hbox); have n2_ := Aside0.mk ((by rw [hg]; exact (below_size (by repeat (first | (with_reducible first | exact HB.out | apply below_alloc | apply pw_below_drewN | apply below_drew1) | exact HB.out))) : w.heap.size ≤ gb108)); have n3_ := Aside0.mk ((by rw [hg]; exact (below_size (by repeat (first | (with_reducible first | exact HB.out | apply below_alloc | apply pw_below_drewN | apply below_drew1) | exact HB.out))) : w.heap.size ≤ gb108)); clear HB; have HB := n0_; have BK108 := n1_; have GW108 := n2_; have GE108 := n3_; clear n0_ n1_ n2_ n3_; clear hb hbox hg; have hcz4_0 : w3.cell? ⟨gb108, 0, none⟩ = some (.string a0_0) := (blk_cell BK108.out 0).trans rfl; have hcz4_1 : w3.cell? ⟨gb108, 1, none⟩ = some (.bool a0_1) := (blk_cell BK108.out 1).trans rfl; have hcz4_2 : w3.cell? ⟨gb108, 2, none⟩ = some (.string a0_2) := (blk_cell BK108.out 2).trans rfl; have hfz4_0 := blk_frozen BK108.out 0; have hfz4_1 := blk_frozen BK108.out 1; have hfz4_2 := blk_frozen BK108.out 2))
    go_ret
    exact ⟨by first | rfl | (simp [errW_none, errW_some] <;> rfl) | (simp [*, errW_none, errW_some] <;> rfl), by repeat (first | (with_reducible first | exact HB.out | apply below_alloc | apply pw_below_drewN | apply below_drew1 | refine below_set ?_ GE108.out) | exact HB.out)⟩
  · rw [if_neg c2] at H
    have c2b0 : (a0_0.toList == ([] : List UInt8)) = false := beq_eq_false_iff_ne.mpr c2
    have c2b1 : (a0_0.toList != ([] : List UInt8)) = true := bne_iff_ne.mpr c2
    by_cases c5 : (a0_0.size : Int) ≤ 40
    · rw [if_pos c5] at H
      have c5b0 : decide ((a0_0.size : Int) ≤ 40) = true := decide_eq_true c5
      have c5b1 : decide (a0_0.size ≤ 40) = true := decide_eq_true (by omega)
      clear c5
      by_cases c6 : (a0_2.size : Int) ≤ 4000
      · rw [if_pos c6] at H
        have c6b0 : decide ((a0_2.size : Int) ≤ 4000) = true := decide_eq_true c6
        have c6b1 : decide (a0_2.size ≤ 4000) = true := decide_eq_true (by omega)
        clear c6
        by_cases c7 : a0_1 = true
        · subst c7
          have H1 : (some true) = some r := by rw [if_pos rfl] at H; exact H
          clear H
          have H := H1
          clear H1
          obtain rfl := Option.some.inj H
          go_enter Tryz.func53, Tryz.ntmps53
          go_wp2_with (first | ((with_reducible refine gate_dst (N := 1) rfl ?_); (try (refine gate_guard (by rfl) ?_; dsimp only)); refine box_event ?hg (N := 1) ?hd (cs := #[.string a0_0, .bool true, .string a0_2]) (t := 48) ?hr ?_; (case hd => rfl); (case hg => rfl); (case hr => first | (go_simp; done) | (go_simp; rfl)); intro gb108 hg w8 hbox hb; have n0_ := Aside0.mk (below_step (by repeat (first | (with_reducible first | exact HB.out | apply below_alloc | apply pw_below_drewN | apply below_drew1) | exact HB.out)) hb); have n1_ := Aside0.mk (hbox); have n2_ := Aside0.mk ((by rw [hg]; exact (below_size (by repeat (first | (with_reducible first | exact HB.out | apply below_alloc | apply pw_below_drewN | apply below_drew1) | exact HB.out))) : w.heap.size ≤ gb108)); have n3_ := Aside0.mk ((by rw [hg]; exact (below_size (by repeat (first | (with_reducible first | exact HB.out | apply below_alloc | apply pw_below_drewN | apply below_drew1) | exact HB.out))) : w.heap.size ≤ gb108)); clear HB; have HB := n0_; have BK108 := n1_; have GW108 := n2_; have GE108 := n3_; clear n0_ n1_ n2_ n3_; clear hb hbox hg; have hcz9_0 : w8.cell? ⟨gb108, 0, none⟩ = some (.string a0_0) := (blk_cell BK108.out 0).trans rfl; have hcz9_1 : w8.cell? ⟨gb108, 1, none⟩ = some (.bool true) := (blk_cell BK108.out 1).trans rfl; have hcz9_2 : w8.cell? ⟨gb108, 2, none⟩ = some (.string a0_2) := (blk_cell BK108.out 2).trans rfl; have hfz9_0 := blk_frozen BK108.out 0; have hfz9_1 := blk_frozen BK108.out 1; have hfz9_2 := blk_frozen BK108.out 2))
          go_ret
          exact ⟨by first | rfl | (simp [errW_none, errW_some] <;> rfl) | (simp [*, errW_none, errW_some] <;> rfl), by repeat (first | (with_reducible first | exact HB.out | apply below_alloc | apply pw_below_drewN | apply below_drew1 | refine below_set ?_ GE108.out) | exact HB.out)⟩
        · replace c7 := Bool.eq_false_iff.mpr c7
          subst c7
          have H1 : (some (a0_2.toList == ([] : List UInt8))) = some r := by rw [if_neg (show ¬ (false = true) by decide)] at H; exact H
          clear H
          have H := H1
          clear H1
          obtain rfl := Option.some.inj H
          go_enter Tryz.func53, Tryz.ntmps53
          go_wp2_with (first | ((with_reducible refine gate_dst (N := 1) rfl ?_); (try (refine gate_guard (by rfl) ?_; dsimp only)); refine box_event ?hg (N := 1) ?hd (cs := #[.string a0_0, .bool false, .string a0_2]) (t := 48) ?hr ?_; (case hd => rfl); (case hg => rfl); (case hr => first | (go_simp; done) | (go_simp; rfl)); intro gb108 hg w10 hbox hb; have n0_ := Aside0.mk (below_step (by repeat (first | (with_reducible first | exact HB.out | apply below_alloc | apply pw_below_drewN | apply below_drew1) | exact HB.out)) hb); have n1_ := Aside0.mk (hbox); have n2_ := Aside0.mk ((by rw [hg]; exact (below_size (by repeat (first | (with_reducible first | exact HB.out | apply below_alloc | apply pw_below_drewN | apply below_drew1) | exact HB.out))) : w.heap.size ≤ gb108)); have n3_ := Aside0.mk ((by rw [hg]; exact (below_size (by repeat (first | (with_reducible first | exact HB.out | apply below_alloc | apply pw_below_drewN | apply below_drew1) | exact HB.out))) : w.heap.size ≤ gb108)); clear HB; have HB := n0_; have BK108 := n1_; have GW108 := n2_; have GE108 := n3_; clear n0_ n1_ n2_ n3_; clear hb hbox hg; have hcz11_0 : w10.cell? ⟨gb108, 0, none⟩ = some (.string a0_0) := (blk_cell BK108.out 0).trans rfl; have hcz11_1 : w10.cell? ⟨gb108, 1, none⟩ = some (.bool false) := (blk_cell BK108.out 1).trans rfl; have hcz11_2 : w10.cell? ⟨gb108, 2, none⟩ = some (.string a0_2) := (blk_cell BK108.out 2).trans rfl; have hfz11_0 := blk_frozen BK108.out 0; have hfz11_1 := blk_frozen BK108.out 1; have hfz11_2 := blk_frozen BK108.out 2))
          go_ret
          exact ⟨by first | rfl | (simp [errW_none, errW_some] <;> rfl) | (simp [*, errW_none, errW_some] <;> rfl), by repeat (first | (with_reducible first | exact HB.out | apply below_alloc | apply pw_below_drewN | apply below_drew1 | refine below_set ?_ GE108.out) | exact HB.out)⟩
      · rw [if_neg c6] at H
        have c6b0 : decide ((a0_2.size : Int) ≤ 4000) = false := decide_eq_false c6
        have c6b1 : decide (a0_2.size ≤ 4000) = false := decide_eq_false (by omega)
        clear c6
        obtain rfl := Option.some.inj H
        go_enter Tryz.func53, Tryz.ntmps53
        go_wp2_with (first | ((with_reducible refine gate_dst (N := 1) rfl ?_); (try (refine gate_guard (by rfl) ?_; dsimp only)); refine box_event ?hg (N := 1) ?hd (cs := #[.string a0_0, .bool a0_1, .string a0_2]) (t := 48) ?hr ?_; (case hd => rfl); (case hg => rfl); (case hr => first | (go_simp; done) | (go_simp; rfl)); intro gb108 hg w12 hbox hb; have n0_ := Aside0.mk (below_step (by repeat (first | (with_reducible first | exact HB.out | apply below_alloc | apply pw_below_drewN | apply below_drew1) | exact HB.out)) hb); have n1_ := Aside0.mk (hbox); have n2_ := Aside0.mk ((by rw [hg]; exact (below_size (by repeat (first | (with_reducible first | exact HB.out | apply below_alloc | apply pw_below_drewN | apply below_drew1) | exact HB.out))) : w.heap.size ≤ gb108)); have n3_ := Aside0.mk ((by rw [hg]; exact (below_size (by repeat (first | (with_reducible first | exact HB.out | apply below_alloc | apply pw_below_drewN | apply below_drew1) | exact HB.out))) : w.heap.size ≤ gb108)); clear HB; have HB := n0_; have BK108 := n1_; have GW108 := n2_; have GE108 := n3_; clear n0_ n1_ n2_ n3_; clear hb hbox hg; have hcz13_0 : w12.cell? ⟨gb108, 0, none⟩ = some (.string a0_0) := (blk_cell BK108.out 0).trans rfl; have hcz13_1 : w12.cell? ⟨gb108, 1, none⟩ = some (.bool a0_1) := (blk_cell BK108.out 1).trans rfl; have hcz13_2 : w12.cell? ⟨gb108, 2, none⟩ = some (.string a0_2) := (blk_cell BK108.out 2).trans rfl; have hfz13_0 := blk_frozen BK108.out 0; have hfz13_1 := blk_frozen BK108.out 1; have hfz13_2 := blk_frozen BK108.out 2))
        go_ret
        exact ⟨by first | rfl | (simp [errW_none, errW_some] <;> rfl) | (simp [*, errW_none, errW_some] <;> rfl), by repeat (first | (with_reducible first | exact HB.out | apply below_alloc | apply pw_below_drewN | apply below_drew1 | refine below_set ?_ GE108.out) | exact HB.out)⟩
    · rw [if_neg c5] at H
      have c5b0 : decide ((a0_0.size : Int) ≤ 40) = false := decide_eq_false c5
      have c5b1 : decide (a0_0.size ≤ 40) = false := decide_eq_false (by omega)
      clear c5
      obtain rfl := Option.some.inj H
      go_enter Tryz.func53, Tryz.ntmps53
      go_wp2_with (first | ((with_reducible refine gate_dst (N := 1) rfl ?_); (try (refine gate_guard (by rfl) ?_; dsimp only)); refine box_event ?hg (N := 1) ?hd (cs := #[.string a0_0, .bool a0_1, .string a0_2]) (t := 48) ?hr ?_; (case hd => rfl); (case hg => rfl); (case hr => first | (go_simp; done) | (go_simp; rfl)); intro gb108 hg w14 hbox hb; have n0_ := Aside0.mk (below_step (by repeat (first | (with_reducible first | exact HB.out | apply below_alloc | apply pw_below_drewN | apply below_drew1) | exact HB.out)) hb); have n1_ := Aside0.mk (hbox); have n2_ := Aside0.mk ((by rw [hg]; exact (below_size (by repeat (first | (with_reducible first | exact HB.out | apply below_alloc | apply pw_below_drewN | apply below_drew1) | exact HB.out))) : w.heap.size ≤ gb108)); have n3_ := Aside0.mk ((by rw [hg]; exact (below_size (by repeat (first | (with_reducible first | exact HB.out | apply below_alloc | apply pw_below_drewN | apply below_drew1) | exact HB.out))) : w.heap.size ≤ gb108)); clear HB; have HB := n0_; have BK108 := n1_; have GW108 := n2_; have GE108 := n3_; clear n0_ n1_ n2_ n3_; clear hb hbox hg; have hcz15_0 : w14.cell? ⟨gb108, 0, none⟩ = some (.string a0_0) := (blk_cell BK108.out 0).trans rfl; have hcz15_1 : w14.cell? ⟨gb108, 1, none⟩ = some (.bool a0_1) := (blk_cell BK108.out 1).trans rfl; have hcz15_2 : w14.cell? ⟨gb108, 2, none⟩ = some (.string a0_2) := (blk_cell BK108.out 2).trans rfl; have hfz15_0 := blk_frozen BK108.out 0; have hfz15_1 := blk_frozen BK108.out 1; have hfz15_2 := blk_frozen BK108.out 2))
      go_ret
      exact ⟨by first | rfl | (simp [errW_none, errW_some] <;> rfl) | (simp [*, errW_none, errW_some] <;> rfl), by repeat (first | (with_reducible first | exact HB.out | apply below_alloc | apply pw_below_drewN | apply below_drew1 | refine below_set ?_ GE108.out) | exact HB.out)⟩

end Go.Proofs.YteblpjnkinghoaaGreat.J
/- Contracts of journal.Valid and journal.valid (with the closure and the library functions between them), for every note and every slice of notes. -/
namespace Go.Proofs.YteblpjnkinghoaaGreat.J
open Go.BigFrame Go.RowKit Go.Proofs.YteblpjnkinghoaaGreatW.PrintWords Go.Proofs.YteblpjnkinghoaaGreatW.PrintLast Go.Proofs.YteblpjnkinghoaaGreatW.PrintMore
def kindsV : Value := .agg #[.nilFunc, .func (.func 80) #[] #[], .func (.func 81) #[] #[], .func (.func 81) #[] #[], .func (.func 80) #[] #[], .func (.func 80) #[] #[], .func (.func 82) #[] #[], .func (.func 80) #[] #[]]
theorem kinds_calls (w : World) : Calls Tryz.prog 62 #[] w fun e w' => e = .returned kindsV ∧ Below w.heap.size w w' := by
  go_enter Tryz.func62, Tryz.ntmps62
  go_wp2
  exact bodyPost_ret (v := kindsV) (by simp [results, Tryz.results62, go_sem, kindsV]) rfl ⟨rfl, (Below.refl _ _).alloc (Nat.le_refl _) _⟩
theorem kinds_at1 (w : World) : (Instr.index 86 kindsV (.int .i64 1)).run Tryz.prog w = .ok (.func (.func 80) #[] #[]) w := by kernel_rfl
theorem kinds_at2 (w : World) : (Instr.index 86 kindsV (.int .i64 2)).run Tryz.prog w = .ok (.func (.func 81) #[] #[]) w := by kernel_rfl
theorem kinds_at3 (w : World) : (Instr.index 86 kindsV (.int .i64 3)).run Tryz.prog w = .ok (.func (.func 81) #[] #[]) w := by kernel_rfl
theorem kinds_at4 (w : World) : (Instr.index 86 kindsV (.int .i64 4)).run Tryz.prog w = .ok (.func (.func 80) #[] #[]) w := by kernel_rfl
theorem kinds_at5 (w : World) : (Instr.index 86 kindsV (.int .i64 5)).run Tryz.prog w = .ok (.func (.func 80) #[] #[]) w := by kernel_rfl
theorem kinds_at6 (w : World) : (Instr.index 86 kindsV (.int .i64 6)).run Tryz.prog w = .ok (.func (.func 82) #[] #[]) w := by kernel_rfl
theorem kinds_at7 (w : World) : (Instr.index 86 kindsV (.int .i64 7)).run Tryz.prog w = .ok (.func (.func 80) #[] #[]) w := by kernel_rfl

/-- The note's own cells, in every world behind. -/
theorem note_cells {w1 : World} {b : Nat} {v0 v1 v2 v3 v4 : Value} {t : TypeId} (hk : w1.heap[b]? = some (.cells #[v0, v1, v2, v3, v4] t)) :
    (∀ p : Past w1, p.W.cell? ⟨b, 0, none⟩ = some v0) ∧ (∀ p : Past w1, p.W.cell? ⟨b, 1, none⟩ = some v1) ∧ (∀ p : Past w1, p.W.cell? ⟨b, 2, none⟩ = some v2) ∧ (∀ p : Past w1, p.W.cell? ⟨b, 3, none⟩ = some v3) ∧ (∀ p : Past w1, p.W.cell? ⟨b, 4, none⟩ = some v4) :=
  ⟨Past.cell ((blk_cell hk 0).trans rfl), Past.cell ((blk_cell hk 1).trans rfl), Past.cell ((blk_cell hk 2).trans rfl), Past.cell ((blk_cell hk 3).trans rfl), Past.cell ((blk_cell hk 4).trans rfl)⟩

theorem valid_75 (a0 a1 : Int) (a2 : ByteArray) (a3 : Bool) (a4 : ByteArray) (r : Bool) (w : World) (h1 : decide (1 ≤ a0) = true) (h7 : decide (a0 ≤ 7) = true) (hix : ∀ w : World, (Instr.index 86 kindsV (.int .i64 a0)).run Tryz.prog w = .ok (.func (.func 80) #[] #[]) w)
    (h : ∀ w : World, Calls Tryz.prog 80 #[.agg #[.int .i64 a0, .int .i64 a1, .string a2, .bool a3, .string a4]] w fun e w' => e = .returned (.bool r) ∧ Below w.heap.size w w') :
    Calls Tryz.prog 44 #[.agg #[.int .i64 a0, .int .i64 a1, .string a2, .bool a3, .string a4]] w fun e w' => e = .returned (.bool r) ∧ Below w.heap.size w w' := by
  have H := Aside0.mk h
  clear h
  go_enter Tryz.func44, Tryz.ntmps44
  go_wp2
  have hb := (Below.refl w.heap.size w).alloc (Nat.le_refl _) (.cells #[.int .i64 a0, .int .i64 a1, .string a2, .bool a3, .string a4] 43)
  have hk : (w.alloc (.cells #[.int .i64 a0, .int .i64 a1, .string a2, .bool a3, .string a4] 43)).heap[w.heap.size]? = some (.cells #[.int .i64 a0, .int .i64 a1, .string a2, .bool a3, .string a4] 43) := heap_alloc_new w _
  generalize (w.alloc (.cells #[.int .i64 a0, .int .i64 a1, .string a2, .bool a3, .string a4] 43)) = w1 at hb hk ⊢
  obtain ⟨c0, c1, c2, c3, c4⟩ := note_cells hk
  clear hk
  refine wp_region_past (by kernel_rfl) (by kernel_rfl) ?_
  repeat (go_big_quiet_step (first | (go_at_call 62; exact Calls.past_of (kinds_calls _)) | (go_at_call 80; exact Calls.past_of (H.out _))))
  refine wpQuiet_nil ?_
  rintro _ ⟨p, rfl⟩
  go_wp2
  go_ret
  exact ⟨rfl, below_step hb p.h⟩
theorem valid_76 (a0 a1 : Int) (a2 : ByteArray) (a3 : Bool) (a4 : ByteArray) (r : Bool) (w : World) (h1 : decide (1 ≤ a0) = true) (h7 : decide (a0 ≤ 7) = true) (hix : ∀ w : World, (Instr.index 86 kindsV (.int .i64 a0)).run Tryz.prog w = .ok (.func (.func 81) #[] #[]) w)
    (h : ∀ w : World, Calls Tryz.prog 81 #[.agg #[.int .i64 a0, .int .i64 a1, .string a2, .bool a3, .string a4]] w fun e w' => e = .returned (.bool r) ∧ Below w.heap.size w w') :
    Calls Tryz.prog 44 #[.agg #[.int .i64 a0, .int .i64 a1, .string a2, .bool a3, .string a4]] w fun e w' => e = .returned (.bool r) ∧ Below w.heap.size w w' := by
  have H := Aside0.mk h
  clear h
  go_enter Tryz.func44, Tryz.ntmps44
  go_wp2
  have hb := (Below.refl w.heap.size w).alloc (Nat.le_refl _) (.cells #[.int .i64 a0, .int .i64 a1, .string a2, .bool a3, .string a4] 43)
  have hk : (w.alloc (.cells #[.int .i64 a0, .int .i64 a1, .string a2, .bool a3, .string a4] 43)).heap[w.heap.size]? = some (.cells #[.int .i64 a0, .int .i64 a1, .string a2, .bool a3, .string a4] 43) := heap_alloc_new w _
  generalize (w.alloc (.cells #[.int .i64 a0, .int .i64 a1, .string a2, .bool a3, .string a4] 43)) = w1 at hb hk ⊢
  obtain ⟨c0, c1, c2, c3, c4⟩ := note_cells hk
  clear hk
  refine wp_region_past (by kernel_rfl) (by kernel_rfl) ?_
  repeat (go_big_quiet_step (first | (go_at_call 62; exact Calls.past_of (kinds_calls _)) | (go_at_call 81; exact Calls.past_of (H.out _))))
  refine wpQuiet_nil ?_
  rintro _ ⟨p, rfl⟩
  go_wp2
  go_ret
  exact ⟨rfl, below_step hb p.h⟩
theorem valid_77 (a0 a1 : Int) (a2 : ByteArray) (a3 : Bool) (a4 : ByteArray) (r : Bool) (w : World) (h1 : decide (1 ≤ a0) = true) (h7 : decide (a0 ≤ 7) = true) (hix : ∀ w : World, (Instr.index 86 kindsV (.int .i64 a0)).run Tryz.prog w = .ok (.func (.func 82) #[] #[]) w)
    (h : ∀ w : World, Calls Tryz.prog 82 #[.agg #[.int .i64 a0, .int .i64 a1, .string a2, .bool a3, .string a4]] w fun e w' => e = .returned (.bool r) ∧ Below w.heap.size w w') :
    Calls Tryz.prog 44 #[.agg #[.int .i64 a0, .int .i64 a1, .string a2, .bool a3, .string a4]] w fun e w' => e = .returned (.bool r) ∧ Below w.heap.size w w' := by
  have H := Aside0.mk h
  clear h
  go_enter Tryz.func44, Tryz.ntmps44
  go_wp2
  have hb := (Below.refl w.heap.size w).alloc (Nat.le_refl _) (.cells #[.int .i64 a0, .int .i64 a1, .string a2, .bool a3, .string a4] 43)
  have hk : (w.alloc (.cells #[.int .i64 a0, .int .i64 a1, .string a2, .bool a3, .string a4] 43)).heap[w.heap.size]? = some (.cells #[.int .i64 a0, .int .i64 a1, .string a2, .bool a3, .string a4] 43) := heap_alloc_new w _
  generalize (w.alloc (.cells #[.int .i64 a0, .int .i64 a1, .string a2, .bool a3, .string a4] 43)) = w1 at hb hk ⊢
  obtain ⟨c0, c1, c2, c3, c4⟩ := note_cells hk
  clear hk
  refine wp_region_past (by kernel_rfl) (by kernel_rfl) ?_
  repeat (go_big_quiet_step (first | (go_at_call 62; exact Calls.past_of (kinds_calls _)) | (go_at_call 82; exact Calls.past_of (H.out _))))
  refine wpQuiet_nil ?_
  rintro _ ⟨p, rfl⟩
  go_wp2
  go_ret
  exact ⟨rfl, below_step hb p.h⟩
theorem valid_low (a0 a1 : Int) (a2 : ByteArray) (a3 : Bool) (a4 : ByteArray) (w : World) (h1 : decide (1 ≤ a0) = false) :
    Calls Tryz.prog 44 #[.agg #[.int .i64 a0, .int .i64 a1, .string a2, .bool a3, .string a4]] w fun e w' => e = .returned (.bool false) ∧ Below w.heap.size w w' := by
  go_enter Tryz.func44, Tryz.ntmps44
  go_wp2
  have hb := (Below.refl w.heap.size w).alloc (Nat.le_refl _) (.cells #[.int .i64 a0, .int .i64 a1, .string a2, .bool a3, .string a4] 43)
  have hk : (w.alloc (.cells #[.int .i64 a0, .int .i64 a1, .string a2, .bool a3, .string a4] 43)).heap[w.heap.size]? = some (.cells #[.int .i64 a0, .int .i64 a1, .string a2, .bool a3, .string a4] 43) := heap_alloc_new w _
  generalize (w.alloc (.cells #[.int .i64 a0, .int .i64 a1, .string a2, .bool a3, .string a4] 43)) = w1 at hb hk ⊢
  obtain ⟨c0, c1, c2, c3, c4⟩ := note_cells hk
  clear hk
  refine wp_region_past (by kernel_rfl) (by kernel_rfl) ?_
  repeat (go_big_quiet_step (fail))
  refine wpQuiet_nil ?_
  rintro _ ⟨p, rfl⟩
  go_wp2
  go_ret
  exact ⟨rfl, below_step hb p.h⟩
theorem valid_high (a0 a1 : Int) (a2 : ByteArray) (a3 : Bool) (a4 : ByteArray) (w : World) (h1 : decide (1 ≤ a0) = true) (h7 : decide (a0 ≤ 7) = false) :
    Calls Tryz.prog 44 #[.agg #[.int .i64 a0, .int .i64 a1, .string a2, .bool a3, .string a4]] w fun e w' => e = .returned (.bool false) ∧ Below w.heap.size w w' := by
  go_enter Tryz.func44, Tryz.ntmps44
  go_wp2
  have hb := (Below.refl w.heap.size w).alloc (Nat.le_refl _) (.cells #[.int .i64 a0, .int .i64 a1, .string a2, .bool a3, .string a4] 43)
  have hk : (w.alloc (.cells #[.int .i64 a0, .int .i64 a1, .string a2, .bool a3, .string a4] 43)).heap[w.heap.size]? = some (.cells #[.int .i64 a0, .int .i64 a1, .string a2, .bool a3, .string a4] 43) := heap_alloc_new w _
  generalize (w.alloc (.cells #[.int .i64 a0, .int .i64 a1, .string a2, .bool a3, .string a4] 43)) = w1 at hb hk ⊢
  obtain ⟨c0, c1, c2, c3, c4⟩ := note_cells hk
  clear hk
  refine wp_region_past (by kernel_rfl) (by kernel_rfl) ?_
  repeat (go_big_quiet_step (fail))
  refine wpQuiet_nil ?_
  rintro _ ⟨p, rfl⟩
  go_wp2
  go_ret
  exact ⟨rfl, below_step hb p.h⟩

/-- What Valid answers. -/
def journal_Valid.f (a0 a1 : Int) (a2 : ByteArray) (a3 : Bool) (a4 : ByteArray) : Option Bool :=
  if a0 < 1 then some false else if 7 < a0 then some false
  else if a0 = 2 ∨ a0 = 3 then journal_imaged.f a0 a1 a2 a3 a4
  else if a0 = 6 then journal_named.f a0 a1 a2 a3 a4
  else journal_plain.f a0 a1 a2 a3 a4
theorem journal_Valid.calls (a0_0 : Int) (a0_1 : Int) (a0_2 : ByteArray) (a0_3 : Bool) (a0_4 : ByteArray) (r : Bool) (w : World) (h : journal_Valid.f a0_0 a0_1 a0_2 a0_3 a0_4 = some r) :
    Calls Tryz.prog 44 #[.agg #[.int .i64 a0_0, .int .i64 a0_1, .string a0_2, .bool a0_3, .string a0_4]] w fun e w' => e = .returned (.bool r) ∧ Below w.heap.size w w' := by
  unfold journal_Valid.f at h
  by_cases h1 : a0_0 < 1
  · rw [if_pos h1] at h
    obtain rfl := Option.some.inj h
    exact valid_low _ _ _ _ _ w (decide_eq_false (by omega))
  rw [if_neg h1] at h
  have d1 : decide (1 ≤ a0_0) = true := decide_eq_true (by omega)
  by_cases h7 : 7 < a0_0
  · rw [if_pos h7] at h
    obtain rfl := Option.some.inj h
    exact valid_high _ _ _ _ _ w d1 (decide_eq_false (by omega))
  rw [if_neg h7] at h
  have d7 : decide (a0_0 ≤ 7) = true := decide_eq_true (by omega)
  by_cases h23 : a0_0 = 2 ∨ a0_0 = 3
  · rw [if_pos h23] at h
    refine valid_76 _ _ _ _ _ r w d1 d7 (fun w => ?_) (fun w => journal_imaged.calls _ _ _ _ _ r w h)
    rcases h23 with rfl | rfl
    · exact kinds_at2 w
    · exact kinds_at3 w
  rw [if_neg h23] at h
  by_cases h6 : a0_0 = 6
  · rw [if_pos h6] at h
    subst h6
    exact valid_77 _ _ _ _ _ r w d1 d7 kinds_at6 (fun w => journal_named.calls _ _ _ _ _ r w h)
  · rw [if_neg h6] at h
    refine valid_75 _ _ _ _ _ r w d1 d7 (fun w => ?_) (fun w => journal_plain.calls _ _ _ _ _ r w h)
    have : a0_0 = 1 ∨ a0_0 = 4 ∨ a0_0 = 5 ∨ a0_0 = 7 := by omega
    rcases this with rfl | rfl | rfl | rfl
    · exact kinds_at1 w
    · exact kinds_at4 w
    · exact kinds_at5 w
    · exact kinds_at7 w
/-- It answers. -/
theorem journal_Valid.some (a0 a1 : Int) (a2 : ByteArray) (a3 : Bool) (a4 : ByteArray) : ∃ r, journal_Valid.f a0 a1 a2 a3 a4 = some r := by
  unfold journal_Valid.f journal_imaged.f journal_named.f journal_plain.f journal_unit.f
  repeat' (first | exact ⟨_, rfl⟩ | split | (simp only [Option.bind_some]))
def vld (n : S43) : Bool := (journal_Valid.f n.f0 n.f1 n.f2 n.f3 n.f4).getD false
theorem vld_calls (n : S43) (w : World) : Calls Tryz.prog 44 #[.agg #[.int .i64 n.f0, .int .i64 n.f1, .string n.f2, .bool n.f3, .string n.f4]] w fun e w' => e = .returned (.bool (vld n)) ∧ Below w.heap.size w w' := by
  obtain ⟨r, h⟩ := journal_Valid.some n.f0 n.f1 n.f2 n.f3 n.f4
  have : vld n = r := by unfold vld; rw [h]; rfl
  rw [this]
  exact journal_Valid.calls _ _ _ _ _ r w h

/-! ### The closure, and the library's functions over it -/
theorem not_valid_calls (n : S43) (w : World) : Calls Tryz.prog 43 #[.agg #[.int .i64 n.f0, .int .i64 n.f1, .string n.f2, .bool n.f3, .string n.f4]] w fun e w' => e = .returned (.bool (!vld n)) ∧ Below w.heap.size w w' := by
  have hnot : ∀ (x : Bool) (w : World), (Op.unary .not (.bool x)).run Tryz.prog w = .ok (.bool (!x)) w := fun _ _ => rfl
  go_enter Tryz.func43, Tryz.ntmps43
  go_wp2_with fail
  refine (vld_calls n _).mono ?_
  rintro e w1 ⟨rfl, hb⟩
  go_wp2
  go_ret
  exact ⟨rfl, below_step ((Below.refl _ _).alloc (Nat.le_refl _) _) hb⟩
/-- The first note of which p holds, from k on. -/
def idx (p : S43 → Bool) : List S43 → Int → Int
  | [], _ => -1
  | n :: l, k => if p n then k else idx p l (k + 1)
theorem idx_any (p : S43 → Bool) : ∀ (l : List S43) (k : Int), 0 ≤ k → decide (0 ≤ idx p l k) = l.any p
  | [], _, _ => rfl
  | n :: l, k, h => by
    unfold idx
    rw [List.any_cons]
    cases hp : p n
    · simpa using idx_any p l (k + 1) (by omega)
    · simp [h]
theorem drop_rd {l0 : List S43} {k : Nat} (h : k < l0.length) : l0.drop k = rd_T43 l0 (k : Int) :: l0.drop (k + 1) := by
  have : rd_T43 l0 (k : Int) = l0[k] := by unfold rd_T43; rw [Int.toNat_natCast, List.getD_eq_getElem?_getD, List.getElem?_eq_getElem h]; rfl
  rw [this]
  exact List.drop_eq_getElem_cons h
theorem index_calls (A0 : Option Addr) (c0 : Nat) (l0 : List S43) (w : World) (hr0 : Kd.C k43 w A0 l0.length l0) :
    Calls Tryz.prog 48 #[.slice A0 l0.length c0, .func (.func 43) #[] #[]] w fun e w' => e = .returned (.int .i64 (idx (fun n => !vld n) l0 0)) ∧ Below w.heap.size w w' := by
  have HR0 := Aside0.mk hr0
  have hlm : l0.length ≤ 9223372036854775807 := Kd.C_max hr0
  clear hr0
  go_enter Tryz.func48, Tryz.ntmps48
  go_wp2
  go_loopg [8] (l0.length + 1) (fun kq v8 w' => ∃ k : Nat, k ≤ l0.length ∧ v8 = .int .i64 k ∧ Aside0 (kq + k = l0.length + 1) ∧ Aside0 (idx (fun n => !vld n) l0 0 = idx (fun n => !vld n) (l0.drop k) k) ∧ Aside0 (Below w.heap.size w w'))
  case atStart => exact ⟨0, Nat.zero_le _, rfl, ⟨by omega⟩, ⟨by simp⟩, ⟨Below.refl _ _⟩⟩
  case round =>
    obtain ⟨k, hk, rfl, HQ, HX, HB⟩ := hrel
    by_cases hlt : k < l0.length
    · obtain ⟨ad, rfl, h0, h1, h2, h3, h4⟩ := at_T43 (Kd.C_below HR0.out HB.out) (k : Int) (by omega) (by omega)
      rw [Int.toNat_natCast] at h0 h1 h2 h3 h4
      have hd := drop_rd hlt
      generalize rd_T43 l0 (k : Int) = n at h0 h1 h2 h3 h4 hd
      have HX' := Aside0.mk (HX.out.trans (congrArg (fun l => idx (fun n => !vld n) l k) hd))
      clear hd HX
      have HC := Aside0.mk (fun w => not_valid_calls n w)
      cases hv : vld n
      · rw [hv] at HC
        have HY := Aside0.mk (HX'.out.trans (show idx (fun n => !vld n) (n :: l0.drop (k + 1)) k = k by unfold idx; rw [hv]; rfl))
        clear hv HX'
        go_wp2_with (go_at_call 43; refine (HC.out _).mono ?_; rintro e w1 ⟨rfl, hb⟩)
        go_ret
        exact ⟨by rw [HY.out]; rfl, below_step HB.out hb⟩
      · rw [hv] at HC
        have HY := Aside0.mk (HX'.out.trans (show idx (fun n => !vld n) (n :: l0.drop (k + 1)) k = idx (fun n => !vld n) (l0.drop (k + 1)) (k + 1) by rw [idx]; rw [hv]; rfl))
        clear hv HX'
        go_wp2_with (go_at_call 43; refine (HC.out _).mono ?_; rintro e w1 ⟨rfl, hb⟩)
        go_roundg (gk - 1)
        case measure => have := HQ.out; omega
        case rel => exact ⟨k + 1, by omega, by go_num, ⟨by have := HQ.out; omega⟩, ⟨by rw [HY.out]; rfl⟩, ⟨below_step HB.out hb⟩⟩
    · have hke : k = l0.length := by omega
      subst hke
      have HY := Aside0.mk (HX.out.trans (show idx (fun n => !vld n) (l0.drop l0.length) l0.length = -1 by rw [List.drop_length]; rfl))
      clear HX
      go_wp2
      go_ret
      exact ⟨by rw [HY.out]; rfl, HB.out⟩
theorem contains_calls (A0 : Option Addr) (c0 : Nat) (l0 : List S43) (w : World) (hr0 : Kd.C k43 w A0 l0.length l0) :
    Calls Tryz.prog 34 #[.slice A0 l0.length c0, .func (.func 43) #[] #[]] w fun e w' => e = .returned (.bool (l0.any fun n => !vld n)) ∧ Below w.heap.size w w' := by
  have HR0 := Aside0.mk hr0
  clear hr0
  have HI := Aside0.mk (idx_any (fun n => !vld n) l0 0 (by omega))
  go_enter Tryz.func34, Tryz.ntmps34
  go_wp2_with (go_at_call 48; refine (index_calls _ _ _ _ HR0.out).mono ?_; rintro e w1 ⟨rfl, hb⟩)
  go_ret
  exact ⟨by rw [← HI.out]; rfl, hb⟩
/-- What valid answers. -/
def journal_valid.f (l0 : List (S43)) : Option (Bool) := some (decide (l0.length ≤ 1000) && l0.all vld)
theorem journal_valid.calls (A0 : Option Addr) (c0 : Nat) (l0 : List (S43)) (r : Bool) (w : World) (hr0 : Kd.C k43 w A0 l0.length l0) (hc0 : l0.length ≤ c0) (h : journal_valid.f l0 = some r) :
    Calls Tryz.prog 24 #[.slice A0 l0.length c0] w fun e w' => e = .returned (.bool r) ∧ Below w.heap.size w w' := by
  have HR0 := Aside0.mk hr0
  obtain rfl := Option.some.inj h
  clear hr0 hc0 h
  have hnot : ∀ (x : Bool) (w : World), (Op.unary .not (.bool x)).run Tryz.prog w = .ok (.bool (!x)) w := fun _ _ => rfl
  by_cases hl : l0.length ≤ 1000
  · have d : decide ((l0.length : Int) ≤ 1000) = true := decide_eq_true (by omega)
    have HE := Aside0.mk (show (decide (l0.length ≤ 1000) && l0.all vld) = !(l0.any fun n => !vld n) by rw [decide_eq_true hl, List.all_eq_not_any_not]; rfl)
    clear hl
    go_enter Tryz.func24, Tryz.ntmps24
    go_wp2_with (go_at_call 34; refine (contains_calls _ _ _ _ HR0.out).mono ?_; rintro e w1 ⟨rfl, hb⟩)
    go_ret
    exact ⟨by rw [HE.out]; rfl, hb⟩
  · have d : decide ((l0.length : Int) ≤ 1000) = false := decide_eq_false (by omega)
    have HE := Aside0.mk (show (decide (l0.length ≤ 1000) && l0.all vld) = false by rw [decide_eq_false hl]; rfl)
    clear hl
    go_enter Tryz.func24, Tryz.ntmps24
    go_wp2
    go_ret
    exact ⟨by rw [HE.out]; rfl, Below.refl _ _⟩
end Go.Proofs.YteblpjnkinghoaaGreat.J
/- Maps that a call makes and writes, as functions of their keys (whole numbers or strings): what a block that is a map holds, what a look-up, a store and a delete do to it. Over any program. -/
namespace Go.Proofs.YteblpjnkinghoaaGreatW.Mw
open Go.RowKit Go.Proofs.YteblpjnkinghoaaGreatW.PrintWords
/-- A kind of keys: how a key stands as a value. -/
structure Keys (P : Program) (t : TypeId) (κ : Type) [DecidableEq κ] where
  kind : TypeDesc
  enc : κ → Value
  here : P.underlying t = some kind
  now : ∀ a b, Instr.sameNow kind (enc a) (enc b) = some (decide (a = b))
  chk : ∀ e k w, (Instr.checkKey e 10000 t (enc k)).run P w = .ok () w
  bits : ∀ k, Instr.sameBits 10000 (enc k) (enc k) = true
theorem beq_bytes (a b : ByteArray) : (a == b) = decide (a = b) := by
  cases a with | mk a => cases b with | mk b =>
  show ByteArray.beq ⟨a⟩ ⟨b⟩ = _
  rw [Bool.eq_iff_iff]
  simp [ByteArray.beq]
theorem chk_int {P : Program} {t : TypeId} (h : P.underlying t = some (.int .i64)) (e : Bool) (k : Int) (w : World) (n : Nat) : (Instr.checkKey e (n + 1) t (.int .i64 k)).run P w = .ok () w := by
  unfold Instr.checkKey
  simp [run_underlying h]
theorem chk_str {P : Program} {t : TypeId} (h : P.underlying t = some .string) (e : Bool) (k : ByteArray) (w : World) (n : Nat) : (Instr.checkKey e (n + 1) t (.string k)).run P w = .ok () w := by
  unfold Instr.checkKey
  simp [run_underlying h]
def intKeys (P : Program) (t : TypeId) (h : P.underlying t = some (.int .i64)) : Keys P t Int where
  kind := .int .i64
  enc := .int .i64
  here := h
  now a b := by simp only [Instr.sameNow, if_true]; congr 1
  chk e k w := chk_int h e k w 9999
  bits k := by simp [Instr.sameBits]
def strKeys (P : Program) (t : TypeId) (h : P.underlying t = some .string) : Keys P t ByteArray where
  kind := .string
  enc := .string
  here := h
  now a b := by simp only [Instr.sameNow]; rw [beq_bytes]
  chk e k w := chk_str h e k w 9999
  bits k := by simp [Instr.sameBits, beq_bytes]
theorem key_inj {κ : Type} {l : List (κ × Value × Nat)} (hn : (l.map (·.1)).Nodup) {x y : κ × Value × Nat} (hx : x ∈ l) (hy : y ∈ l) (e : x.1 = y.1) : x = y := by
  induction l with
  | nil => cases hx
  | cons z l ih =>
    have hn' := List.nodup_cons.1 hn
    rcases List.mem_cons.1 hx with hx | hx <;> rcases List.mem_cons.1 hy with hy | hy
    · rw [hx, hy]
    · rw [hx] at e; exact absurd (List.mem_map.2 ⟨y, hy, e.symm⟩ : z.1 ∈ l.map (·.1)) hn'.1
    · rw [hy] at e; exact absurd (List.mem_map.2 ⟨x, hx, e⟩ : z.1 ∈ l.map (·.1)) hn'.1
    · exact ih hn'.2 hx hy
theorem stamp_inj {κ : Type} {l : List (κ × Value × Nat)} (hn : (l.map (·.2.2)).Nodup) {x y : κ × Value × Nat} (hx : x ∈ l) (hy : y ∈ l) (e : x.2.2 = y.2.2) : x = y := by
  induction l with
  | nil => cases hx
  | cons z l ih =>
    have hn' := List.nodup_cons.1 hn
    rcases List.mem_cons.1 hx with hx | hx <;> rcases List.mem_cons.1 hy with hy | hy
    · rw [hx, hy]
    · rw [hx] at e; exact absurd (List.mem_map.2 ⟨y, hy, e.symm⟩ : z.2.2 ∈ l.map (·.2.2)) hn'.1
    · rw [hy] at e; exact absurd (List.mem_map.2 ⟨x, hx, e⟩ : z.2.2 ∈ l.map (·.2.2)) hn'.1
    · exact ih hn'.2 hx hy
section
variable {P : Program} {t : TypeId} {κ : Type} [DecidableEq κ] (K : Keys P t κ)
abbrev Ent (κ : Type) := κ × Value × Nat
def ent (K : Keys P t κ) (x : Ent κ) : MapEntry := { key := K.enc x.1, val := x.2.1, born := x.2.2 }
def fnd (k : κ) : List (Ent κ) → Nat → Option (Nat × Value)
  | [], _ => none
  | x :: l, i => if x.1 = k then some (i, x.2.1) else fnd k l (i + 1)
def val (k : κ) (l : List (Ent κ)) : Option Value := (fnd k l 0).map (·.2)
theorem fnd_shift (k : κ) : ∀ (l : List (Ent κ)) (i : Nat), fnd k l i = (fnd k l 0).map fun p => (p.1 + i, p.2)
  | [], _ => rfl
  | x :: l, i => by
    unfold fnd
    split
    · simp
    · rw [fnd_shift k l (i + 1), fnd_shift k l (0 + 1)]
      cases fnd k l 0 <;> simp
      omega
theorem findNow_fnd (k : κ) : ∀ (l : List (Ent κ)) (i : Nat), Instr.findNow K.kind (K.enc k) (l.map (ent K)) i = some (fnd k l i)
  | [], _ => rfl
  | x :: l, i => by
    simp only [List.map_cons, Instr.findNow, fnd]
    rw [show (ent K x).key = K.enc x.1 from rfl, K.now]
    by_cases h : k = x.1
    · rw [decide_eq_true h, if_pos h.symm]; rfl
    · rw [decide_eq_false h, if_neg (Ne.symm h)]; exact findNow_fnd k l (i + 1)
theorem findKey_run (k : κ) (l : List (Ent κ)) (w : World) : (Instr.findKey t (K.enc k) (l.map (ent K))).run P w = .ok (fnd k l 0) w := by
  simp only [Instr.findKey]
  simp [run_underlying K.here, findNow_fnd K]
/-- What a block that is a map holds: to each key its element. -/
def Holds (w : World) (b : Nat) (F : κ → Option Value) : Prop := ∃ (l : List (Ent κ)) (c : Nat), w.heap[b]? = some (.map (l.map (ent K)).toArray c) ∧ (l.map (·.1)).Nodup ∧ (l.map (·.2.2)).Nodup ∧ (∀ x ∈ l, x.2.2 < c) ∧ ∀ k, val k l = F k
variable {K}
theorem Holds.lt {w : World} {b : Nat} {F : κ → Option Value} (h : Holds K w b F) : b < w.heap.size := by
  obtain ⟨l, c, hb, _⟩ := h
  exact (Array.getElem?_eq_some_iff.1 hb).1
theorem Holds.move {w w' : World} {b : Nat} {F : κ → Option Value} (h : Holds K w b F) (hm : w'.heap[b]? = w.heap[b]?) : Holds K w' b F := by
  obtain ⟨l, c, hb, r⟩ := h
  exact ⟨l, c, hm.trans hb, r⟩
theorem Holds.below {w w' : World} {b : Nat} {F : κ → Option Value} (h : Holds K w b F) (hb : Below w.heap.size w w') : Holds K w' b F := h.move (hb.block b h.lt)
theorem Holds.alloc {w : World} {b : Nat} {F : κ → Option Value} (h : Holds K w b F) (o : Obj) : Holds K (w.alloc o) b F := h.below ((Below.refl _ _).alloc (Nat.le_refl _) o)
theorem Holds.drewN {w : World} {b : Nat} {F : κ → Option Value} (h : Holds K w b F) (n : Nat) : Holds K (w.drewN n) b F := h
theorem Holds.drew {w : World} {b : Nat} {F : κ → Option Value} (h : Holds K w b F) : Holds K w.drew b F := h
theorem Holds.grown {w w' : World} {b : Nat} {F : κ → Option Value} {row : Option Nat} (h : Holds K w b F) (hg : w.grownBy w' row) (hne : some b ≠ row) : Holds K w' b F := h.move (hg.block b h.lt hne)
theorem Holds.set {w : World} {b : Nat} {F : κ → Option Value} {p : Addr} (h : Holds K w b F) (hne : b ≠ p.block) (u : Value) : Holds K (w.setCell p u) b F := h.move (Below.heap_setCell w p u b hne)
variable (K)
theorem Holds.made (w : World) : Holds K (w.alloc (.map #[] 0)) w.heap.size (fun _ => none) :=
  ⟨[], 0, by simpa using heap_alloc_new w (.map #[] 0), List.nodup_nil, List.nodup_nil, by simp, fun _ => rfl⟩
variable {K}
theorem Holds.congr {w : World} {b : Nat} {F G : κ → Option Value} (h : Holds K w b F) (e : ∀ k, F k = G k) : Holds K w b G := by
  obtain ⟨l, c, hb, hn, hs, hc, hv⟩ := h
  exact ⟨l, c, hb, hn, hs, hc, fun k => (hv k).trans (e k)⟩
/-- 'm[k]', 'v, ok := m[k]'. -/
theorem Holds.look {w : World} {b : Nat} {F : κ → Option Value} (h : Holds K w b F) {mt e : TypeId} (hm : P.underlying mt = some (.map t e)) {z : Value} (hz : ∀ w, (zeroValue e).run P w = .ok z w) (k : κ) :
    (Instr.lookup mt (.map (some b)) (K.enc k) false).run P w = .ok ((F k).getD z) w ∧
    (Instr.lookup mt (.map (some b)) (K.enc k) true).run P w = .ok (.tuple #[(F k).getD z, .bool (F k).isSome]) w := by
  obtain ⟨l, c, hb, hn, _, _, hv⟩ := h
  have hF := hv k
  unfold val at hF
  constructor
  all_goals
    simp only [Instr.lookup]
    cases hf : fnd k l 0 with
    | none =>
      rw [hf] at hF
      rw [← hF]
      simp [run_underlying hm, getObj, hb, Sem.run, K.chk, findKey_run K, hf, hz]
    | some p =>
      rw [hf] at hF
      rw [← hF]
      simp [run_underlying hm, getObj, hb, Sem.run, K.chk, findKey_run K, hf]
theorem fnd_none {k : κ} : ∀ {l : List (Ent κ)} {i : Nat}, fnd k l i = none → k ∉ l.map (·.1)
  | [], _, _ => by simp
  | x :: l, i, h => by
    unfold fnd at h
    split at h
    · cases h
    · rename_i hne
      simp only [List.map_cons, List.mem_cons, not_or]
      exact ⟨fun e => hne e.symm, fnd_none h⟩
theorem fnd_of_not_mem {k : κ} : ∀ {l : List (Ent κ)} {i : Nat}, k ∉ l.map (·.1) → fnd k l i = none
  | [], _, _ => rfl
  | x :: l, i, h => by
    simp only [List.map_cons, List.mem_cons, not_or] at h
    unfold fnd
    rw [if_neg (fun e => h.1 e.symm)]
    exact fnd_of_not_mem h.2
theorem fnd_some {k : κ} : ∀ {l : List (Ent κ)} {p : Nat × Value}, fnd k l 0 = some p → ∃ a x b, l = a ++ x :: b ∧ x.1 = k ∧ p = (a.length, x.2.1) ∧ k ∉ a.map (·.1)
  | [], _, h => by cases h
  | x :: l, p, h => by
    unfold fnd at h
    split at h
    · rename_i e
      cases h
      exact ⟨[], x, l, rfl, e, rfl, by simp⟩
    · rename_i hne
      rw [fnd_shift] at h
      obtain ⟨q, hq, rfl⟩ := Option.map_eq_some_iff.1 h
      obtain ⟨a, y, b, rfl, hy, rfl, hn⟩ := fnd_some hq
      refine ⟨x :: a, y, b, rfl, hy, rfl, ?_⟩
      simp only [List.map_cons, List.mem_cons, not_or]
      exact ⟨fun e => hne e.symm, hn⟩
theorem val_append {k : κ} {a b : List (Ent κ)} : val k (a ++ b) = (val k a).or (val k b) := by
  induction a with
  | nil => simp [val, fnd]
  | cons x a ih =>
    unfold val at *
    simp only [List.cons_append, fnd]
    by_cases h : x.1 = k
    · rw [if_pos h, if_pos h]; rfl
    · rw [if_neg h, if_neg h, fnd_shift, fnd_shift k a]
      cases h1 : fnd k (a ++ b) 0 <;> cases h2 : fnd k a 0 <;> rw [h1, h2] at ih <;> simp_all
theorem val_cons {k : κ} {x : Ent κ} {l : List (Ent κ)} : val k (x :: l) = if x.1 = k then some x.2.1 else val k l := by
  unfold val
  simp only [fnd]
  by_cases h : x.1 = k
  · rw [if_pos h, if_pos h]; rfl
  · rw [if_neg h, if_neg h, fnd_shift]; cases fnd k l 0 <;> rfl
theorem val_not_mem {k : κ} {l : List (Ent κ)} (h : k ∉ l.map (·.1)) : val k l = none := by unfold val; rw [fnd_of_not_mem h]; rfl
theorem modify_mid {α : Type} (f : α → α) (x : α) (d : List α) : ∀ a : List α, (a ++ x :: d).modify a.length f = a ++ f x :: d
  | [] => rfl
  | y :: a => by simpa using modify_mid f x d a
theorem at_ent {l a d : List (Ent κ)} {x : Ent κ} (hl : l = a ++ x :: d) : (l.map (ent K))[a.length]? = some (ent K x) := by subst hl; simp
/-- 'm[k] = v': some world in which the block holds so; nothing else has turned. -/
theorem Holds.put {w : World} {b : Nat} {F : κ → Option Value} (h : Holds K w b F) {mt e : TypeId} (hm : P.underlying mt = some (.map t e)) (k : κ) (v : Value) :
    ∃ w', (Instr.mapUpdate mt (.map (some b)) (K.enc k) v).run P w = .ok () w' ∧ Holds K w' b (fun q => if q = k then some v else F q) ∧ w.grownBy w' (some b) := by
  obtain ⟨l, c, hb, hn, hs, hc, hv⟩ := h
  have hgr : ∀ o, w.grownBy { w with heap := w.heap.setIfInBounds b o } (some b) := fun o => ⟨rfl, rfl, rfl, by simp, fun i hi hne => by
    rw [Array.getElem?_setIfInBounds_ne (fun e => hne (by rw [e]))]⟩
  have hlt := (Array.getElem?_eq_some_iff.1 hb).1
  cases hf : fnd k l 0 with
  | none =>
    have hk := fnd_none hf
    refine ⟨_, by
      simp only [Instr.mapUpdate]
      simp [run_underlying hm, getObj, setObj, hb, Sem.run, K.chk, findKey_run K, hf]
      rfl, ⟨l ++ [(k, v, c)], c + 1, by simp [hlt, ent], ?_, ?_, ?_, fun q => ?_⟩, hgr _⟩
    · rw [List.map_append, List.nodup_append]
      exact ⟨hn, by simp, fun a ha b hb e => by simp at hb; subst hb; subst e; exact hk ha⟩
    · rw [List.map_append, List.nodup_append]
      exact ⟨hs, by simp, fun a ha b hb e => by
        simp at hb; subst hb; subst e
        obtain ⟨x, hx, he⟩ := List.mem_map.1 ha
        have := hc x hx
        omega⟩
    · intro x hx
      rcases List.mem_append.1 hx with hx | hx
      · have := hc x hx; omega
      · simp at hx; subst hx; show c < c + 1; omega
    · show _ = if q = k then some v else F q
      rw [val_append, val_cons]
      by_cases hq : q = k
      · subst hq
        rw [val_not_mem hk]
        simp
      · rw [if_neg (fun e => hq e.symm), if_neg hq, ← hv]
        simp [val, fnd]
  | some p =>
    obtain ⟨a, x, d, hl, hx, rfl, ha⟩ := fnd_some hf
    have hat := at_ent (K := K) hl
    have hkey : (ent K x).key = K.enc k := by rw [← hx]; rfl
    refine ⟨_, by
      simp only [Instr.mapUpdate]
      simp [run_underlying hm, getObj, setObj, hb, Sem.run, K.chk, findKey_run K, hf, Instr.keyThatStays, -List.getElem?_map, hat, hkey, K.bits]
      rfl, ⟨a ++ (x.1, v, x.2.2) :: d, c, ?_, ?_, ?_, ?_, fun q => ?_⟩, hgr _⟩
    · simp only [Array.getElem?_setIfInBounds_self, hlt, if_true]
      congr 2
      subst hl
      have e : a.length = (a.map (ent K)).length := by simp
      simp only [List.map_append, List.map_cons, List.modify_toArray]
      rw [e, modify_mid]
      simp [ent, hx]
    · subst hl
      simpa [List.map_append] using hn
    · subst hl
      simpa [List.map_append] using hs
    · subst hl
      intro y hy
      rcases List.mem_append.1 hy with hy | hy
      · exact hc y (List.mem_append_left _ hy)
      · rcases List.mem_cons.1 hy with rfl | hy
        · exact hc x (by simp)
        · exact hc y (by simp [hy])
    · show _ = if q = k then some v else F q
      rw [← hv, hl, val_append, val_append, val_cons, val_cons]
      by_cases hq : q = k
      · subst hq
        rw [if_pos hx, val_not_mem ha]
        simp
      · rw [if_neg hq, if_neg (fun e => hq (e.symm.trans hx)), if_neg (fun e => hq (e.symm.trans hx))]
/-- 'delete(m, k)'. -/
theorem Holds.drop {w : World} {b : Nat} {F : κ → Option Value} (h : Holds K w b F) {mt e ft kt2 : TypeId} (hm : P.underlying mt = some (.map t e)) (k : κ) :
    ∃ w', (Builtin.delete_ #[mt, kt2] ft #[.map (some b), K.enc k]).run P w = .ok (.tuple #[]) w' ∧ Holds K w' b (fun q => if q = k then none else F q) ∧ w.grownBy w' (some b) := by
  obtain ⟨l, c, hb, hn, hs, hc, hv⟩ := h
  have hgr : ∀ o, w.grownBy { w with heap := w.heap.setIfInBounds b o } (some b) := fun o => ⟨rfl, rfl, rfl, by simp, fun i hi hne => by
    rw [Array.getElem?_setIfInBounds_ne (fun e => hne (by rw [e]))]⟩
  have hlt := (Array.getElem?_eq_some_iff.1 hb).1
  cases hf : fnd k l 0 with
  | none =>
    have hk := fnd_none hf
    refine ⟨_, by
      simp only [Builtin.delete_]
      simp [run_underlying hm, getObj, setObj, hb, Sem.run, K.chk, findKey_run K, hf]
      rfl, ⟨l, c, by simp [hlt], hn, hs, hc, fun q => ?_⟩, hgr _⟩
    show _ = if q = k then none else F q
    by_cases hq : q = k
    · subst hq; rw [if_pos rfl, val_not_mem hk]
    · rw [if_neg hq, hv]
  | some p =>
    obtain ⟨a, x, d, hl, hx, rfl, ha⟩ := fnd_some hf
    refine ⟨_, by
      simp only [Builtin.delete_]
      simp [run_underlying hm, getObj, setObj, hb, Sem.run, K.chk, findKey_run K, hf]
      rfl, ⟨a ++ d, c, ?_, ?_, ?_, ?_, fun q => ?_⟩, hgr _⟩
    · simp only [Array.getElem?_setIfInBounds_self, hlt, if_true]
      congr 2
      subst hl
      simp [List.eraseIdx_append_of_length_le]
    · subst hl
      rw [List.map_append, List.map_cons, List.nodup_append] at hn
      rw [List.map_append, List.nodup_append]
      exact ⟨hn.1, (List.nodup_cons.1 hn.2.1).2, fun y hy z hz => hn.2.2 y hy z (List.mem_cons_of_mem _ hz)⟩
    · subst hl
      rw [List.map_append, List.map_cons, List.nodup_append] at hs
      rw [List.map_append, List.nodup_append]
      exact ⟨hs.1, (List.nodup_cons.1 hs.2.1).2, fun y hy z hz => hs.2.2 y hy z (List.mem_cons_of_mem _ hz)⟩
    · subst hl
      intro y hy
      rcases List.mem_append.1 hy with hy | hy
      · exact hc y (by simp [hy])
      · exact hc y (by simp [hy])
    · have hd : k ∉ d.map (·.1) := by
        subst hl
        rw [List.map_append, List.map_cons, List.nodup_append] at hn
        exact fun h => (List.nodup_cons.1 hn.2.1).1 (hx ▸ h)
      show _ = if q = k then none else F q
      by_cases hq : q = k
      · subst hq
        rw [if_pos rfl, val_append, val_not_mem ha, val_not_mem hd]; rfl
      · rw [if_neg hq, ← hv, hl, val_append, val_append, val_cons, if_neg (fun e => hq (e.symm.trans hx))]
/-! ### 'for k := range m' over a map that the loop does not write -/
variable (K)
/-- Block r is an iterator over the map in block b: which keys are still to come, and how many. -/
def Ranging (w : World) (r b : Nat) (F : κ → Option Value) (left : κ → Bool) (n : Nat) : Prop :=
  r ≠ b ∧ ∃ (l : List (Ent κ)) (c : Nat) (seen : Array Nat), w.heap[b]? = some (.map (l.map (ent K)).toArray c) ∧ (l.map (·.1)).Nodup ∧ (l.map (·.2.2)).Nodup ∧ (∀ x ∈ l, x.2.2 < c) ∧ (∀ k, val k l = F k) ∧
    w.heap[r]? = some (.mapIter (some b) c seen c) ∧ (leftOf (l.map (ent K)).toArray seen).size = n ∧ (∀ x ∈ l, left x.1 = !seen.contains x.2.2) ∧ (∀ k, left k = true → k ∈ l.map (·.1))
theorem val_mem {l : List (Ent κ)} (hn : (l.map (·.1)).Nodup) {x : Ent κ} (hx : x ∈ l) : val x.1 l = some x.2.1 := by
  induction l with
  | nil => cases hx
  | cons y l ih =>
    rw [val_cons]
    have hn' := List.nodup_cons.1 hn
    rcases List.mem_cons.1 hx with rfl | hx
    · rw [if_pos rfl]
    · rw [if_neg (fun e => hn'.1 (List.mem_map.2 ⟨x, hx, e.symm⟩))]
      exact ih hn'.2 hx
theorem val_some_mem {l : List (Ent κ)} {k : κ} (h : (val k l).isSome = true) : k ∈ l.map (·.1) := by
  by_cases hk : k ∈ l.map (·.1)
  · exact hk
  · rw [val_not_mem hk] at h; cases h
theorem ent_born (l : List (Ent κ)) : ((l.map (ent K)).map (·.born)) = l.map (·.2.2) := by rw [List.map_map]; rfl
variable {K}
theorem Ranging.holds {w : World} {r b n : Nat} {F : κ → Option Value} {left : κ → Bool} (h : Ranging K w r b F left n) : Holds K w b F := by
  obtain ⟨_, l, c, _, hb, hn, hs, hc, hv, _⟩ := h
  exact ⟨l, c, hb, hn, hs, hc, hv⟩
theorem Ranging.move {w w' : World} {r b n : Nat} {F : κ → Option Value} {left : κ → Bool} (h : Ranging K w r b F left n) (hb' : w'.heap[b]? = w.heap[b]?) (hr' : w'.heap[r]? = w.heap[r]?) : Ranging K w' r b F left n := by
  obtain ⟨hne, l, c, seen, hb, hn, hs, hc, hv, hr, rest⟩ := h
  exact ⟨hne, l, c, seen, hb'.trans hb, hn, hs, hc, hv, hr'.trans hr, rest⟩
theorem Ranging.lt {w : World} {r b n : Nat} {F : κ → Option Value} {left : κ → Bool} (h : Ranging K w r b F left n) : r < w.heap.size := by
  obtain ⟨_, l, c, seen, hb, hn, hs, hc, hv, hr, rest⟩ := h
  exact (Array.getElem?_eq_some_iff.1 hr).1
theorem Ranging.grown {w w' : World} {r b n : Nat} {F : κ → Option Value} {left : κ → Bool} {row : Option Nat} (h : Ranging K w r b F left n) (hg : w.grownBy w' row) (hb : some b ≠ row) (hr : some r ≠ row) : Ranging K w' r b F left n :=
  h.move (hg.block b h.holds.lt hb) (hg.block r h.lt hr)
theorem Holds.range {w : World} {b : Nat} {F : κ → Option Value} (h : Holds K w b F) {mt e : TypeId} (hm : P.underlying mt = some (.map t e)) :
    ∃ n, (Instr.range mt (.map (some b))).run P w = .ok (.pointer (some ⟨w.heap.size, 0, none⟩)) (w.alloc (.mapIter (some b) (((w.heap[b]?).map fun o => match o with | .map _ c => c | _ => 0).getD 0) #[] (((w.heap[b]?).map fun o => match o with | .map _ c => c | _ => 0).getD 0))) ∧
      Ranging K (w.alloc (.mapIter (some b) (((w.heap[b]?).map fun o => match o with | .map _ c => c | _ => 0).getD 0) #[] (((w.heap[b]?).map fun o => match o with | .map _ c => c | _ => 0).getD 0))) w.heap.size b F (fun k => (F k).isSome) n := by
  have hlt := h.lt
  obtain ⟨l, c, hb, hn, hs, hc, hv⟩ := h
  rw [hb]
  refine ⟨_, run_range_map w mt t e b _ c hm hb, by omega, l, c, #[], ?_, hn, hs, hc, hv, heap_alloc_new _ _, rfl, fun x hx => ?_, fun k hk => ?_⟩
  · rw [heap_alloc_old _ _ hlt, hb]
  · show (F x.1).isSome = _; rw [← hv, val_mem hn hx]; simp
  · change (F k).isSome = true at hk; rw [← hv] at hk; exact val_some_mem hk
theorem Ranging.next {w : World} {r b n : Nat} {F : κ → Option Value} {left : κ → Bool} (h : Ranging K w r b F left n) (ty : TypeId) :
    ((∀ k, left k = false) ∧ (Instr.next (.pointer (some ⟨r, 0, none⟩)) false ty).run P w = .ok (.tuple #[.bool false]) w) ∨
    ∃ (k : κ) (v : Value) (m : Nat) (w' : World), n = m + 1 ∧ left k = true ∧ F k = some v ∧ (Instr.next (.pointer (some ⟨r, 0, none⟩)) false ty).run P w = .ok (.tuple #[.bool true, K.enc k, v]) w' ∧
      (Instr.entry (.pointer (some ⟨r, 0, none⟩))).run P w' = .ok (.tuple #[K.enc k, v]) w' ∧ Ranging K w' r b F (fun q => left q && !decide (q = k)) m ∧ w.grownBy w' (some r) := by
  have hrlt := h.lt
  obtain ⟨hne, l, c, seen, hb, hn, hs, hc, hv, hr, hsz, hl, hk⟩ := h
  have hold : ∀ x ∈ (l.map (ent K)).toArray.toList, x.born < c := fun x hx => by
    obtain ⟨y, hy, rfl⟩ := List.mem_map.1 (show x ∈ l.map (ent K) from hx)
    exact hc y hy
  rcases run_next_at (P := P) w ty r b c c seen _ c hr hb hold (Nat.le_refl _) with ⟨h0, hrun⟩ | ⟨e, he, w1, hw1, hrun⟩
  · refine .inl ⟨fun k => ?_, hrun⟩
    cases hkk : left k with
    | false => rfl
    | true =>
      obtain ⟨x, hx, rfl⟩ := List.mem_map.1 (hk k hkk)
      have := all_seen _ _ h0 (ent K x) (show ent K x ∈ l.map (ent K) from List.mem_map.2 ⟨x, hx, rfl⟩)
      rw [hl x hx] at hkk
      rw [show seen.contains x.2.2 = true from this] at hkk
      cases hkk
  · right
    obtain ⟨hm, hns⟩ := mem_left he
    obtain ⟨x, hx, rfl⟩ := List.mem_map.1 (show e ∈ l.map (ent K) from hm)
    have hns' : seen.contains x.2.2 = false := hns
    have hlt := left_shrinks _ _ _ he
    have hsh : (leftOf (l.map (ent K)).toArray (seen.push x.2.2)).size + 1 = (leftOf (l.map (ent K)).toArray seen).size := by
      have hu : ∀ (q : List (Ent κ)), (q.map (·.2.2)).Nodup → x ∈ q → ((q.map (ent K)).filter fun e => !(seen.push x.2.2).contains e.born).length + 1 = ((q.map (ent K)).filter fun e => !seen.contains e.born).length := by
        intro q
        induction q with
        | nil => intro _ h; cases h
        | cons y q ih =>
          intro hnd hxq
          have hnd' := List.nodup_cons.1 hnd
          rcases List.mem_cons.1 hxq with rfl | hxq
          · have hrest : ((q.map (ent K)).filter fun e => !(seen.push x.2.2).contains e.born) = (q.map (ent K)).filter fun e => !seen.contains e.born := by
              apply List.filter_congr
              intro e he
              obtain ⟨z, hz, rfl⟩ := List.mem_map.1 he
              rw [contains_push]
              have : ((ent K z).born == x.2.2) = false := beq_eq_false_iff_ne.2 (fun e => hnd'.1 (List.mem_map.2 ⟨z, hz, e⟩))
              rw [this, Bool.or_false]
            rw [List.map_cons, List.filter_cons, List.filter_cons, hrest, contains_push]
            rw [show ((ent K x).born == x.2.2) = true from beq_self_eq_true _, show seen.contains (ent K x).born = false from hns']
            simp
          · have hne : ((ent K y).born == x.2.2) = false := beq_eq_false_iff_ne.2 (fun e => hnd'.1 (List.mem_map.2 ⟨x, hxq, e.symm⟩))
            have := ih hnd'.2 hxq
            rw [List.map_cons, List.filter_cons, List.filter_cons, contains_push, hne, Bool.or_false]
            split
            · simp only [List.length_cons]; omega
            · exact this
      have := hu l hs hx
      simpa [leftOf] using this
    have hb1 : w1.heap[b]? = w.heap[b]? := by rcases hw1 with rfl | rfl <;> rfl
    have hr1 : r < w1.heap.size := by rcases hw1 with rfl | rfl <;> exact hrlt
    have hbs : ∀ o, (ChangeMaps.setBlock w1 r o).heap[b]? = w.heap[b]? := fun o => by
      rw [← hb1]; exact Array.getElem?_setIfInBounds_ne hne
    have hrs : ∀ o, (ChangeMaps.setBlock w1 r o).heap[r]? = some o := fun o => by
      show (w1.heap.setIfInBounds r o)[r]? = _
      rw [Array.getElem?_setIfInBounds_self, if_pos hr1]
    refine ⟨x.1, x.2.1, (leftOf (l.map (ent K)).toArray (seen.push x.2.2)).size, _, by rw [hsh, hsz], by rw [hl x hx, hns']; rfl, by rw [← hv, val_mem hn hx], hrun, ?_, ?_, ?_⟩
    · exact run_entry_at _ r b c seen _ c (ent K x) (hrs _) ((hbs _).trans hb) (show ent K x ∈ l.map (ent K) from List.mem_map.2 ⟨x, hx, rfl⟩) (show ((l.map (ent K)).map (·.born)).Nodup by rw [ent_born]; exact hs)
    · refine ⟨hne, l, c, seen.push x.2.2, (hbs _).trans hb, hn, hs, hc, hv, hrs _, rfl, fun y hy => ?_, fun k hkk => hk k (by simp at hkk; exact hkk.1)⟩
      show (left y.1 && !decide (y.1 = x.1)) = _
      rw [contains_push, hl y hy, Bool.not_or]
      congr 1
      congr 1
      rw [Bool.eq_iff_iff]
      simp only [decide_eq_true_eq, beq_iff_eq]
      exact ⟨fun e => by rw [key_inj hn hy hx e], fun e => by rw [stamp_inj hs hy hx e]⟩
    · rcases hw1 with rfl | rfl
      · exact ⟨rfl, rfl, rfl, by simp [ChangeMaps.setBlock], fun i hi hne => Array.getElem?_setIfInBounds_ne (fun e => hne (by rw [e]))⟩
      · exact ⟨rfl, rfl, rfl, by show w.heap.size ≤ (w.heap.setIfInBounds _ _).size; simp, fun i hi hne => Array.getElem?_setIfInBounds_ne (fun e => hne (by rw [e]))⟩
/-- The store of a statement of several stores ('m[k], .. = v, ..'): first the entry, then its element. -/
theorem Holds.entry {w : World} {b : Nat} {F : κ → Option Value} (h : Holds K w b F) {mt e : TypeId} (hm : P.underlying mt = some (.map t e)) {z : Value} (hz : ∀ w, (zeroValue e).run P w = .ok z w) (k : κ) :
    ∃ (st : Nat) (w1 : World), (Instr.mapEntry mt (.map (some b)) (K.enc k)).run P w = .ok (.tuple #[(F k).getD z, goInt st]) w1 ∧ w.grownBy w1 (some b) ∧
      ∀ v, ∃ w3, (Instr.entryStore mt (.map (some b)) (goInt st) v).run P w1 = .ok () w3 ∧ Holds K w3 b (fun q => if q = k then some v else F q) ∧ w.grownBy w3 (some b) := by
  obtain ⟨l, c, hb, hn, hs, hc, hv⟩ := h
  have hlt := (Array.getElem?_eq_some_iff.1 hb).1
  have hgr : ∀ o, w.grownBy { w with heap := w.heap.setIfInBounds b o } (some b) := fun o => ⟨rfl, rfl, rfl, by simp, fun i hi hne => by
    rw [Array.getElem?_setIfInBounds_ne (fun e => hne (by rw [e]))]⟩
  have hF := hv k
  unfold val at hF
  cases hf : fnd k l 0 with
  | none =>
    rw [hf] at hF
    have hk := fnd_none hf
    refine ⟨c, { w with heap := w.heap.setIfInBounds b (.map ((l ++ [(k, z, c)]).map (ent K)).toArray (c + 1)) }, by
      simp only [Instr.mapEntry]
      simp [run_underlying hm, getObj, setObj, hb, Sem.run, K.chk, findKey_run K, hf, hz, ← hF, ent], hgr _, fun v => ?_⟩
    have hnd : ((l ++ [(k, z, c)]).map (·.2.2)).Nodup := by
      rw [List.map_append, List.nodup_append]
      exact ⟨hs, by simp, fun a ha b hb e => by
        simp at hb; subst hb; subst e
        obtain ⟨x, hx, he⟩ := List.mem_map.1 ha
        have := hc x hx
        omega⟩
    have hix : ((l ++ [(k, z, c)]).map (ent K)).toArray.findIdx? (fun e => ((e.born : Nat) : Int) == ((c : Nat) : Int)) = some l.length := by
      rw [WideElems.findIdx_arr]
      exact WideElems.findIdx_born (l := (l ++ [(k, z, c)]).map (ent K)) (j := l.length) (e0 := ent K (k, z, c)) (by rw [ent_born]; exact hnd) (by simp)
    have hmd : ((l ++ [(k, z, c)]).map (ent K)).toArray.modify l.length (fun e => { e with val := v }) = ((l ++ [(k, v, c)]).map (ent K)).toArray := by
      rw [List.modify_toArray, List.map_append, List.map_append]
      have e : l.length = (l.map (ent K)).length := by simp
      rw [e]
      congr 1
      exact WideElems.modify_last _ _ _
    have hw1 : (w.heap.setIfInBounds b (.map ((l ++ [(k, z, c)]).map (ent K)).toArray (c + 1)))[b]? = some (.map ((l ++ [(k, z, c)]).map (ent K)).toArray (c + 1)) := by
      rw [Array.getElem?_setIfInBounds_self, if_pos hlt]
    generalize hL : ((l ++ [(k, z, c)]).map (ent K)).toArray = L at hix hmd hw1
    refine ⟨{ w with heap := w.heap.setIfInBounds b (.map ((l ++ [(k, v, c)]).map (ent K)).toArray (c + 1)) }, by
      simp only [Instr.entryStore]
      simp [getObj, setObj, hw1, Sem.run, asInt, asIntOf, goInt, hix, hmd], ⟨l ++ [(k, v, c)], c + 1, ?_, ?_, ?_, ?_, fun q => ?_⟩, hgr _⟩
    · show (w.heap.setIfInBounds b _)[b]? = _
      rw [Array.getElem?_setIfInBounds_self, if_pos hlt]
    · rw [List.map_append, List.nodup_append]
      exact ⟨hn, by simp, fun a ha b hb e => by simp at hb; subst hb; subst e; exact hk ha⟩
    · simpa using hnd
    · intro x hx
      rcases List.mem_append.1 hx with hx | hx
      · have := hc x hx; omega
      · simp at hx; subst hx; show c < c + 1; omega
    · show _ = if q = k then some v else F q
      rw [val_append, val_cons]
      by_cases hq : q = k
      · subst hq
        rw [val_not_mem hk]
        simp
      · rw [if_neg (fun e => hq e.symm), if_neg hq, ← hv]
        simp [val, fnd]
  | some p =>
    rw [hf] at hF
    obtain ⟨a, x, d, hl, hx, rfl, ha⟩ := fnd_some hf
    have hat := at_ent (K := K) hl
    have hkey : (ent K x).key = K.enc k := by rw [← hx]; rfl
    have hsame : (l.map (ent K)).modify a.length (fun e => { e with key := K.enc k }) = l.map (ent K) := by
      subst hl
      have e : a.length = (a.map (ent K)).length := by simp
      rw [List.map_append, List.map_cons, e, modify_mid, ← hkey]
    refine ⟨x.2.2, { w with heap := w.heap.setIfInBounds b (.map (l.map (ent K)).toArray c) }, by
      simp only [Instr.mapEntry]
      simp [run_underlying hm, getObj, setObj, hb, Sem.run, K.chk, findKey_run K, hf, Instr.keyThatStays, -List.getElem?_map, hat, hkey, K.bits, ← hF]
      exact ⟨rfl, by rw [hsame]⟩, hgr _, fun v => ?_⟩
    have hix : (l.map (ent K)).toArray.findIdx? (fun e => ((e.born : Nat) : Int) == ((x.2.2 : Nat) : Int)) = some a.length := by
      rw [WideElems.findIdx_arr]
      exact WideElems.findIdx_born (l := l.map (ent K)) (j := a.length) (e0 := ent K x) (by rw [ent_born]; exact hs) hat
    have hmd : (l.map (ent K)).toArray.modify a.length (fun e => { e with val := v }) = ((a ++ (x.1, v, x.2.2) :: d).map (ent K)).toArray := by
      rw [List.modify_toArray]
      congr 1
      subst hl
      have e : a.length = (a.map (ent K)).length := by simp
      rw [List.map_append, List.map_cons, e, modify_mid, List.map_append, List.map_cons]
      rfl
    have hw1 : (w.heap.setIfInBounds b (.map (l.map (ent K)).toArray c))[b]? = some (.map (l.map (ent K)).toArray c) := by
      rw [Array.getElem?_setIfInBounds_self, if_pos hlt]
    generalize hL : (l.map (ent K)).toArray = L at hix hmd hw1
    refine ⟨{ w with heap := w.heap.setIfInBounds b (.map ((a ++ (x.1, v, x.2.2) :: d).map (ent K)).toArray c) }, by
      simp only [Instr.entryStore]
      simp [getObj, setObj, hw1, Sem.run, asInt, asIntOf, goInt, hix, hmd], ⟨a ++ (x.1, v, x.2.2) :: d, c, ?_, ?_, ?_, ?_, fun q => ?_⟩, hgr _⟩
    · show (w.heap.setIfInBounds b _)[b]? = _
      rw [Array.getElem?_setIfInBounds_self, if_pos hlt]
    · subst hl
      simpa [List.map_append] using hn
    · subst hl
      simpa [List.map_append] using hs
    · subst hl
      intro y hy
      rcases List.mem_append.1 hy with hy | hy
      · exact hc y (List.mem_append_left _ hy)
      · rcases List.mem_cons.1 hy with rfl | hy
        · exact hc x (by simp)
        · exact hc y (by simp [hy])
    · show _ = if q = k then some v else F q
      rw [← hv, hl, val_append, val_append, val_cons, val_cons]
      by_cases hq : q = k
      · subst hq
        rw [if_pos hx, val_not_mem ha]
        simp
      · rw [if_neg hq, if_neg (fun e => hq (e.symm.trans hx)), if_neg (fun e => hq (e.symm.trans hx))]
/-! ### At the operation, for the walk -/
section
variable {ops : Array Oper} {rest : List Oper} {o : Oper} {a : Act} {Q : Exit → Act → World → Prop} {w : World}
theorem wl_look {b : Nat} {F : κ → Option Value} (hw : Region.wanted o (yielded ops a.tmps) = true) (m x : Operand) (mt : TypeId) (hop : o.op = Op.lookup mt m x false)
    {e : TypeId} (hm : P.underlying mt = some (.map t e)) {z : Value} (hz : ∀ w, (zeroValue e).run P w = .ok z w) (h : Holds K w b F) (k : κ) (hme : a.eval m = .map (some b)) (hxe : a.eval x = K.enc k)
    (hK : wpList P ops Q rest (a.put o.dst ((F k).getD z)) w) : wpList P ops Q (o :: rest) a w := by
  refine wpList_step fun K' hK' => ?_
  rw [if_pos hw]
  unfold Oper.wp
  simp [execOp, hop, hme, hxe, (h.look hm hz k).1, Result.andThen]
  exact hK' _ _ hK
theorem wl_look2 {b : Nat} {F : κ → Option Value} (hw : Region.wanted o (yielded ops a.tmps) = true) (m x : Operand) (mt : TypeId) (hop : o.op = Op.lookup mt m x true)
    {e : TypeId} (hm : P.underlying mt = some (.map t e)) {z : Value} (hz : ∀ w, (zeroValue e).run P w = .ok z w) (h : Holds K w b F) (k : κ) (hme : a.eval m = .map (some b)) (hxe : a.eval x = K.enc k)
    (hK : wpList P ops Q rest (a.put o.dst (.tuple #[(F k).getD z, .bool (F k).isSome])) w) : wpList P ops Q (o :: rest) a w := by
  refine wpList_step fun K' hK' => ?_
  rw [if_pos hw]
  unfold Oper.wp
  simp [execOp, hop, hme, hxe, (h.look hm hz k).2, Result.andThen]
  exact hK' _ _ hK
theorem wl_put {b : Nat} {F : κ → Option Value} (hw : Region.wanted o (yielded ops a.tmps) = true) (m x y : Operand) (mt : TypeId) (hop : o.op = Op.mapUpdate mt m x y)
    {e : TypeId} (hm : P.underlying mt = some (.map t e)) (h : Holds K w b F) (k : κ) (v : Value) (hme : a.eval m = .map (some b)) (hxe : a.eval x = K.enc k) (hve : a.eval y = v)
    (hK : ∀ w', Holds K w' b (fun q => if q = k then some v else F q) → w.grownBy w' (some b) → wpList P ops Q rest (a.put o.dst undef) w') : wpList P ops Q (o :: rest) a w := by
  refine wpList_step fun K' hK' => ?_
  rw [if_pos hw]
  obtain ⟨w', hr, h1, h2⟩ := h.put hm k v
  unfold Oper.wp
  simp [execOp, hop, hme, hxe, hve, hr, Result.andThen]
  exact hK' _ _ (hK w' h1 h2)
theorem wl_drop {b : Nat} {F : κ → Option Value} (hw : Region.wanted o (yielded ops a.tmps) = true) (m x : Operand) (mt kt2 : TypeId) (hop : o.op = .call { callee := .builtin .delete, args := #[m, x], argTypes := #[mt, kt2] })
    {e : TypeId} (hm : P.underlying mt = some (.map t e)) (h : Holds K w b F) (k : κ) (hme : a.eval m = .map (some b)) (hxe : a.eval x = K.enc k)
    (hK : ∀ w', Holds K w' b (fun q => if q = k then none else F q) → w.grownBy w' (some b) → wpList P ops Q rest (a.put o.dst (.tuple #[])) w') : wpList P ops Q (o :: rest) a w := by
  refine wpList_step fun K' hK' => ?_
  rw [if_pos hw]
  obtain ⟨w', hr, h1, h2⟩ := h.drop (ft := o.type) (kt2 := kt2) hm k
  unfold Oper.wp execOp
  simp only [hop, resolve, invoke, builtin, Sem.run_bind, Sem.run_pure, Result.andThen_ok, List.map_toArray, List.map_cons, List.map_nil, hme, hxe, hr]
  exact hK' _ _ (hK w' h1 h2)
theorem wl_range {b : Nat} {F : κ → Option Value} (hw : Region.wanted o (yielded ops a.tmps) = true) (m : Operand) (mt : TypeId) (hop : o.op = Op.range mt m)
    {e : TypeId} (hm : P.underlying mt = some (.map t e)) (h : Holds K w b F) (hme : a.eval m = .map (some b))
    (hK : ∀ w' n, Ranging K w' w.heap.size b F (fun k => (F k).isSome) n → (∀ base, base ≤ w.heap.size → Below base w w') → wpList P ops Q rest (a.put o.dst (.pointer (some ⟨w.heap.size, 0, none⟩))) w') : wpList P ops Q (o :: rest) a w := by
  refine wpList_step fun K' hK' => ?_
  rw [if_pos hw]
  obtain ⟨n, hr, hg⟩ := h.range hm
  unfold Oper.wp
  simp [execOp, hop, hme, hr, Result.andThen]
  exact hK' _ _ (hK _ _ hg (fun base hb => (Below.refl base w).alloc hb _))
end
end
end Go.Proofs.YteblpjnkinghoaaGreatW.Mw
/- What journal.Wrong keeps while it walks over a journal, and how its memory holds it. -/
namespace Go.Proofs.YteblpjnkinghoaaGreat.J
open Go.BigFrame Go.RowKit Go.Proofs.YteblpjnkinghoaaGreatW.PrintWords Go.Proofs.YteblpjnkinghoaaGreatW.PrintLast Go.Proofs.YteblpjnkinghoaaGreatW.PrintMore Go.Proofs.YteblpjnkinghoaaGreatW.Mw
/-- The units that go on, each with its keys; and the keys that are taken, each by its unit. -/
structure WSt where
  on : Int → Option (ByteArray → Bool)
  tk : ByteArray → Option Int
def WSt.set (st : WSt) (u : Int) (x : Option (ByteArray → Bool)) : Int → Option (ByteArray → Bool) := fun v => if v = u then x else st.on v
/-- One note. -/
def wrongStep (st : WSt) (n : S43) : Int ⊕ WSt :=
  if n.f0 ≠ 6 ∧ (st.on n.f1).isSome = decide (n.f0 = 1) then .inl 9
  else if n.f0 = 1 then .inr ⟨st.set n.f1 (some fun _ => false), st.tk⟩
  else if n.f0 = 3 ∨ n.f0 = 2 then
    (let K := (st.on n.f1).getD fun _ => false
     if n.f0 = 3 ∧ K n.f2 = false then .inl 8
     else if (st.tk n.f2).any (· ≠ n.f1) then .inl 6
     else .inr ⟨st.set n.f1 (some fun k => if k = n.f2 then true else K k), fun k => if k = n.f2 then some n.f1 else st.tk k⟩)
  else if n.f0 = 4 ∨ n.f0 = 5 ∨ n.f0 = 7 then
    (let K := (st.on n.f1).getD fun _ => false
     .inr ⟨st.set n.f1 (if n.f0 = 4 then some fun _ => false else none), fun k => if K k = true then none else st.tk k⟩)
  else .inr st
def wrongFrom : List S43 → Nat → WSt → Int × Int
  | [], _, _ => (-1, 0)
  | n :: l, i, st => match wrongStep st n with
    | .inl e => ((i : Int), e)
    | .inr st' => wrongFrom l (i + 1) st'
def journal_Wrong.f (l0 : List (S43)) : Option (Int × Int) :=
  if l0.length ≤ 1000 ∧ l0.all vld = true then some (wrongFrom l0 0 ⟨fun _ => none, fun _ => none⟩) else some (0, 1)
/-! ### How memory holds it -/
noncomputable def KI : Keys Tryz.prog 3 Int := intKeys Tryz.prog 3 Tryz.underlying3
noncomputable def KS : Keys Tryz.prog 9 ByteArray := strKeys Tryz.prog 9 Tryz.underlying9
def onF (on : Int → Option (ByteArray → Bool)) (g : Int → Nat) (u : Int) : Option Value := (on u).map fun _ => .pointer (some ⟨g u, 0, none⟩)
def tkF (tk : ByteArray → Option Int) (k : ByteArray) : Option Value := (tk k).map (Value.int .i64)
def ksF (K : ByteArray → Bool) (k : ByteArray) : Option Value := if K k = true then some (.bool true) else none
/-- Blocks b1 (the units) and b2 (the keys), a unit's own block (g) and its keys' (m); whose each block is (own). -/
structure Jrn (w : World) (base b1 b2 : Nat) (on : Int → Option (ByteArray → Bool)) (tk : ByteArray → Option Int) (g m : Int → Nat) (own : Nat → Int × Nat) : Prop where
  h1 : Holds KI w b1 (onF on g)
  h2 : Holds KS w b2 (tkF tk)
  o1 : own b1 = (0, 2)
  o2 : own b2 = (0, 3)
  l1 : base ≤ b1
  l2 : base ≤ b2
  og : ∀ u K, on u = some K → own (g u) = (u, 0) ∧ base ≤ g u ∧ ∃ f, w.heap[g u]? = some (.cells #[.int .i64 f, .map (some (m u))] 55)
  om : ∀ u K, on u = some K → own (m u) = (u, 1) ∧ base ≤ m u ∧ Holds KS w (m u) (ksF K)
namespace Jrn
variable {w w' : World} {base b1 b2 : Nat} {on : Int → Option (ByteArray → Bool)} {tk : ByteArray → Option Int} {g m : Int → Nat} {own : Nat → Int × Nat}
theorem below (h : Jrn w base b1 b2 on tk g m own) (hb : Below w.heap.size w w') : Jrn w' base b1 b2 on tk g m own where
  h1 := h.h1.below hb
  h2 := h.h2.below hb
  o1 := h.o1
  o2 := h.o2
  l1 := h.l1
  l2 := h.l2
  og u K hu := by
    obtain ⟨a, b, f, hf⟩ := h.og u K hu
    exact ⟨a, b, f, (hb.block _ (Array.getElem?_eq_some_iff.1 hf).1).trans hf⟩
  om u K hu := by
    obtain ⟨a, b, hf⟩ := h.om u K hu
    exact ⟨a, b, hf.below hb⟩
theorem lt1 (h : Jrn w base b1 b2 on tk g m own) : b1 < w.heap.size := h.h1.lt
theorem lt2 (h : Jrn w base b1 b2 on tk g m own) : b2 < w.heap.size := h.h2.lt
theorem ne12 (h : Jrn w base b1 b2 on tk g m own) : b1 ≠ b2 := fun e => by have := h.o1.symm.trans (e ▸ h.o2); exact absurd (congrArg Prod.snd this) (by decide)
theorem ne (x : Nat) {u v : Int} {i j : Nat} {y : Nat} (hx : own x = (u, i)) (hy : own y = (v, j)) (h : u ≠ v ∨ i ≠ j) : x ≠ y := fun e => by
  have := hx.symm.trans (e ▸ hy)
  rcases h with h | h
  · exact h (congrArg Prod.fst this)
  · exact h (congrArg Prod.snd this)
/-- A unit begins: two new blocks (its keys', then its own), then the store into b1. -/
theorem opened (h : Jrn w base b1 b2 on tk g m own) (hbs : base ≤ w.heap.size) (u f : Int) {w2 w3 : World} (hb : Below w.heap.size w w2) (hm : Holds KS w2 w.heap.size (fun _ => none)) (hg : w2.heap[w.heap.size + 1]? = some (.cells #[.int .i64 f, .map (some w.heap.size)] 55))
    (hp : Holds KI w3 b1 (fun q => if q = u then some (.pointer (some ⟨w.heap.size + 1, 0, none⟩)) else onF on g q)) (hgr : w2.grownBy w3 (some b1)) :
    ∃ g' m' own', Jrn w3 base b1 b2 (fun v => if v = u then some (fun _ => false) else on v) tk g' m' own' := by
  have l1 := h.lt1
  have l2 := h.lt2
  have hs2 := hb.size
  have hlt1 : w.heap.size + 1 < w2.heap.size := (Array.getElem?_eq_some_iff.1 hg).1
  have hn12 := h.ne12
  have hj := h.below hb
  refine ⟨fun v => if v = u then w.heap.size + 1 else g v, fun v => if v = u then w.heap.size else m v, fun x => if x = w.heap.size + 1 then (u, 0) else if x = w.heap.size then (u, 1) else own x, ?_⟩
  have own_old : ∀ x, x < w.heap.size → (if x = w.heap.size + 1 then ((u, 0) : Int × Nat) else if x = w.heap.size then (u, 1) else own x) = own x := fun x hx => by rw [if_neg (by omega), if_neg (by omega)]
  refine { h1 := hp.congr fun q => ?_, h2 := hj.h2.grown hgr (fun e => hn12 (Option.some.inj e).symm), o1 := ?_, o2 := ?_, l1 := h.l1, l2 := h.l2, og := fun v K hv => ?_, om := fun v K hv => ?_ }
  · unfold onF
    by_cases hq : q = u
    · simp [hq]
    · simp [hq]
  · exact (own_old _ l1).trans h.o1
  · exact (own_old _ l2).trans h.o2
  · by_cases hq : v = u
    · subst hq
      simp only [if_true]
      exact ⟨trivial, by omega, f, (hgr.block _ hlt1 (fun e => by have := Option.some.inj e; omega)).trans hg⟩
    · simp only [if_neg hq] at hv ⊢
      obtain ⟨a, b, f', hf⟩ := hj.og v K hv
      have hf0 : g v < w.heap.size := by obtain ⟨_, _, f0, hf0⟩ := h.og v K hv; exact (Array.getElem?_eq_some_iff.1 hf0).1
      exact ⟨(own_old _ hf0).trans a, b, f', (hgr.block _ (by omega) (fun e => ne _ a h.o1 (.inr (by decide)) (Option.some.inj e))).trans hf⟩
  · by_cases hq : v = u
    · subst hq
      simp only [if_true] at hv ⊢
      cases hv
      refine ⟨by rw [if_neg (by omega)], hbs, (hm.grown hgr (fun e => by have := Option.some.inj e; omega)).congr fun k => ?_⟩
      simp [ksF]
    · simp only [if_neg hq] at hv ⊢
      obtain ⟨a, b, hf⟩ := hj.om v K hv
      have hf0 : m v < w.heap.size := (h.om v K hv).2.2.lt
      exact ⟨(own_old _ hf0).trans a, b, hf.grown hgr (fun e => ne _ a h.o1 (.inr (by decide)) (Option.some.inj e))⟩
/-- A note of a key: the store into the unit's keys, then into b2. -/
theorem added (h : Jrn w base b1 b2 on tk g m own) (u : Int) (key : ByteArray) {K : ByteArray → Bool} (hu : on u = some K) {w2 w3 : World}
    (hm : Holds KS w2 (m u) (fun q => if q = key then some (.bool true) else ksF K q)) (hg2 : w.grownBy w2 (some (m u)))
    (h2' : Holds KS w3 b2 (fun q => if q = key then some (.int .i64 u) else tkF tk q)) (hg3 : w2.grownBy w3 (some b2)) :
    Jrn w3 base b1 b2 (fun v => if v = u then some (fun k => if k = key then true else K k) else on v) (fun k => if k = key then some u else tk k) g m own := by
  obtain ⟨ou, lu, hK⟩ := h.om u K hu
  have s2 := hg2.size
  refine { h1 := ?_, h2 := h2'.congr fun q => ?_, o1 := h.o1, o2 := h.o2, l1 := h.l1, l2 := h.l2, og := fun v L hv => ?_, om := fun v L hv => ?_ }
  · refine (((h.h1.grown hg2 (fun e => ne _ h.o1 ou (.inr (by decide)) (Option.some.inj e))).grown hg3 (fun e => h.ne12 (Option.some.inj e)))).congr fun q => ?_
    unfold onF
    by_cases hq : q = u
    · subst hq; simp [hu]
    · simp [hq]
  · unfold tkF; by_cases hq : q = key <;> simp [hq]
  · have hv' : ∃ L', on v = some L' := by
      by_cases hq : v = u
      · exact ⟨K, hq ▸ hu⟩
      · simp only [if_neg hq] at hv; exact ⟨_, hv⟩
    obtain ⟨L', hv'⟩ := hv'
    obtain ⟨a, b, f, hf⟩ := h.og v L' hv'
    have hlt := (Array.getElem?_eq_some_iff.1 hf).1
    exact ⟨a, b, f, (hg3.block _ (by omega) (fun e => ne _ a h.o2 (.inr (by decide)) (Option.some.inj e))).trans ((hg2.block _ hlt (fun e => ne _ a ou (.inr (by decide)) (Option.some.inj e))).trans hf)⟩
  · by_cases hq : v = u
    · subst hq
      simp only [if_true] at hv
      cases hv
      refine ⟨ou, lu, (hm.grown hg3 (fun e => ne _ ou h.o2 (.inr (by decide)) (Option.some.inj e))).congr fun k => ?_⟩
      unfold ksF
      by_cases hk : k = key <;> simp [hk]
    · simp only [if_neg hq] at hv
      obtain ⟨a, b, hf⟩ := h.om v L hv
      exact ⟨a, b, (hf.grown hg2 (fun e => ne _ a ou (.inl hq) (Option.some.inj e))).grown hg3 (fun e => ne _ a h.o2 (.inr (by decide)) (Option.some.inj e))⟩
/-- Keys are taken out of b2. -/
theorem struck (h : Jrn w base b1 b2 on tk g m own) {w2 : World} {tk' : ByteArray → Option Int} (h2' : Holds KS w2 b2 (tkF tk')) (hg : w.grownBy w2 (some b2)) : Jrn w2 base b1 b2 on tk' g m own where
  h1 := h.h1.grown hg (fun e => h.ne12 (Option.some.inj e))
  h2 := h2'
  o1 := h.o1
  o2 := h.o2
  l1 := h.l1
  l2 := h.l2
  og u K hu := by
    obtain ⟨a, b, f, hf⟩ := h.og u K hu
    exact ⟨a, b, f, (hg.block _ (Array.getElem?_eq_some_iff.1 hf).1 (fun e => ne _ a h.o2 (.inr (by decide)) (Option.some.inj e))).trans hf⟩
  om u K hu := by
    obtain ⟨a, b, hf⟩ := h.om u K hu
    exact ⟨a, b, hf.grown hg (fun e => ne _ a h.o2 (.inr (by decide)) (Option.some.inj e))⟩
/-- A unit's keys are laid anew: a new block, then the two stores into the unit's own block. -/
theorem quieted (h : Jrn w base b1 b2 on tk g m own) (hbs : base ≤ w.heap.size) (u f : Int) {K : ByteArray → Bool} (hu : on u = some K) {w2 w3 : World} (hb : Below w.heap.size w w2) (hm : Holds KS w2 w.heap.size (fun _ => none))
    (hc : w3.heap[g u]? = some (.cells #[.int .i64 f, .map (some w.heap.size)] 55)) (hgr : w2.grownBy w3 (some (g u))) :
    ∃ m' own', Jrn w3 base b1 b2 (fun v => if v = u then some (fun _ => false) else on v) tk g m' own' := by
  have l1 := h.lt1
  have l2 := h.lt2
  have hs2 := hb.size
  have hj := h.below hb
  obtain ⟨ou, lu, f0, hf0⟩ := h.og u K hu
  have hgu := (Array.getElem?_eq_some_iff.1 hf0).1
  refine ⟨fun v => if v = u then w.heap.size else m v, fun x => if x = w.heap.size then (u, 1) else own x, ?_⟩
  have own_old : ∀ x, x < w.heap.size → (if x = w.heap.size then ((u, 1) : Int × Nat) else own x) = own x := fun x hx => by rw [if_neg (by omega)]
  refine { h1 := ((hj.h1.grown hgr (fun e => ne _ h.o1 ou (.inr (by decide)) (Option.some.inj e)))).congr fun q => ?_, h2 := hj.h2.grown hgr (fun e => ne _ h.o2 ou (.inr (by decide)) (Option.some.inj e)), o1 := (own_old _ l1).trans h.o1, o2 := (own_old _ l2).trans h.o2, l1 := h.l1, l2 := h.l2, og := fun v L hv => ?_, om := fun v L hv => ?_ }
  · unfold onF
    by_cases hq : q = u
    · subst hq; simp [hu]
    · simp [hq]
  · by_cases hq : v = u
    · subst hq
      simp only [if_true]
      exact ⟨(own_old _ hgu).trans ou, lu, f, hc⟩
    · simp only [if_neg hq] at hv ⊢
      obtain ⟨a, b, f', hf⟩ := hj.og v L hv
      have hf1 : g v < w.heap.size := by obtain ⟨_, _, f1, hf1⟩ := h.og v L hv; exact (Array.getElem?_eq_some_iff.1 hf1).1
      exact ⟨(own_old _ hf1).trans a, b, f', (hgr.block _ (by omega) (fun e => ne _ a ou (.inl hq) (Option.some.inj e))).trans hf⟩
  · by_cases hq : v = u
    · subst hq
      simp only [if_true] at hv ⊢
      cases hv
      refine ⟨trivial, hbs, (hm.grown hgr (fun e => by have := Option.some.inj e; omega)).congr fun k => ?_⟩
      simp [ksF]
    · simp only [if_neg hq] at hv ⊢
      obtain ⟨a, b, hf⟩ := hj.om v L hv
      have hf1 : m v < w.heap.size := (h.om v L hv).2.2.lt
      exact ⟨(own_old _ hf1).trans a, b, hf.grown hgr (fun e => ne _ a ou (.inr (by decide)) (Option.some.inj e))⟩
/-- A unit ends. -/
theorem ended (h : Jrn w base b1 b2 on tk g m own) (u : Int) {w2 : World} (hp : Holds KI w2 b1 (fun q => if q = u then none else onF on g q)) (hg : w.grownBy w2 (some b1)) : Jrn w2 base b1 b2 (fun v => if v = u then none else on v) tk g m own where
  h1 := hp.congr fun q => by unfold onF; by_cases hq : q = u <;> simp [hq]
  h2 := h.h2.grown hg (fun e => h.ne12 (Option.some.inj e).symm)
  o1 := h.o1
  o2 := h.o2
  l1 := h.l1
  l2 := h.l2
  og v K hv := by
    by_cases hq : v = u
    · simp only [if_pos hq] at hv; cases hv
    · simp only [if_neg hq] at hv
      obtain ⟨a, b, f, hf⟩ := h.og v K hv
      exact ⟨a, b, f, (hg.block _ (Array.getElem?_eq_some_iff.1 hf).1 (fun e => ne _ a h.o1 (.inr (by decide)) (Option.some.inj e))).trans hf⟩
  om v K hv := by
    by_cases hq : v = u
    · simp only [if_pos hq] at hv; cases hv
    · simp only [if_neg hq] at hv
      obtain ⟨a, b, hf⟩ := h.om v K hv
      exact ⟨a, b, hf.grown hg (fun e => ne _ a h.o1 (.inr (by decide)) (Option.some.inj e))⟩
/-- A block that is none of these is written. -/
theorem other (h : Jrn w base b1 b2 on tk g m own) {r : Nat} (hr : own r = (0, 4)) (hg : w.grownBy w' (some r)) : Jrn w' base b1 b2 on tk g m own where
  h1 := h.h1.grown hg (fun e => ne _ h.o1 hr (.inr (by decide)) (Option.some.inj e))
  h2 := h.h2.grown hg (fun e => ne _ h.o2 hr (.inr (by decide)) (Option.some.inj e))
  o1 := h.o1
  o2 := h.o2
  l1 := h.l1
  l2 := h.l2
  og u K hu := by
    obtain ⟨a, b, f, hf⟩ := h.og u K hu
    exact ⟨a, b, f, (hg.block _ (Array.getElem?_eq_some_iff.1 hf).1 (fun e => ne _ a hr (.inr (by decide)) (Option.some.inj e))).trans hf⟩
  om u K hu := by
    obtain ⟨a, b, hf⟩ := h.om u K hu
    exact ⟨a, b, hf.grown hg (fun e => ne _ a hr (.inr (by decide)) (Option.some.inj e))⟩
/-- A new block that is none of these. -/
theorem beside (h : Jrn w base b1 b2 on tk g m own) (hb : Below w.heap.size w w') : Jrn w' base b1 b2 on tk g m (fun x => if x = w.heap.size then (0, 4) else own x) := by
  have hj := h.below hb
  have own_old : ∀ x, x < w.heap.size → (if x = w.heap.size then ((0, 4) : Int × Nat) else own x) = own x := fun x hx => by rw [if_neg (by omega)]
  refine { h1 := hj.h1, h2 := hj.h2, o1 := (own_old _ h.lt1).trans h.o1, o2 := (own_old _ h.lt2).trans h.o2, l1 := h.l1, l2 := h.l2, og := fun v L hv => ?_, om := fun v L hv => ?_ }
  · obtain ⟨a, b, f, hf⟩ := hj.og v L hv
    have hf1 : g v < w.heap.size := by obtain ⟨_, _, f1, hf1⟩ := h.og v L hv; exact (Array.getElem?_eq_some_iff.1 hf1).1
    exact ⟨(own_old _ hf1).trans a, b, f, hf⟩
  · obtain ⟨a, b, hf⟩ := hj.om v L hv
    exact ⟨(own_old _ (h.om v L hv).2.2.lt).trans a, b, hf⟩
theorem drew (h : Jrn w base b1 b2 on tk g m own) : Jrn w.drew base b1 b2 on tk g m own := h.below ((Below.refl _ w).drew)
theorem congr (h : Jrn w base b1 b2 on tk g m own) {on' : Int → Option (ByteArray → Bool)} {tk' : ByteArray → Option Int} (e1 : ∀ u, on u = on' u) (e2 : ∀ k, tk k = tk' k) : Jrn w base b1 b2 on' tk' g m own := by
  rw [← (funext e1 : on = on'), ← (funext e2 : tk = tk')]; exact h
end Jrn
/-- Two stores into one block. -/
theorem grown_two (w : World) (p q : Addr) (h : p.block = q.block) (u v : Value) : w.grownBy ((w.setCell p u).setCell q v) (some p.block) :=
  ⟨rfl, rfl, rfl, by simp [World.setCell], fun k _ hne => by
    rw [Below.heap_setCell _ _ _ _ (by rw [← h]; exact fun e => hne (by rw [e])), Below.heap_setCell _ _ _ _ (fun e => hne (by rw [e]))]⟩
theorem two_cells {w : World} {g : Nat} {a b : Value} {t : TypeId} (h : w.heap[g]? = some (.cells #[a, b] t)) (u v : Value) : ((w.setCell ⟨g, 0, none⟩ u).setCell ⟨g, 1, none⟩ v).heap[g]? = some (.cells #[u, v] t) := by
  have h1 := heap_setCell_same w g 0 #[a, b] t u h
  have h2 := heap_setCell_same (w.setCell ⟨g, 0, none⟩ u) g 1 _ t v h1
  rw [h2]; rfl
end Go.Proofs.YteblpjnkinghoaaGreat.J
/- The contract of journal.Wrong, for every slice of notes. -/
namespace Go.Proofs.YteblpjnkinghoaaGreat.J
open Go.BigFrame Go.RowKit Go.Proofs.YteblpjnkinghoaaGreatW.PrintWords Go.Proofs.YteblpjnkinghoaaGreatW.PrintLast Go.Proofs.YteblpjnkinghoaaGreatW.PrintMore Go.Proofs.YteblpjnkinghoaaGreatW.Mw
theorem zero51 (w : World) : (zeroValue 51).run Tryz.prog w = .ok (.pointer none) w := by kernel_rfl
theorem zeroB (w : World) : (zeroValue 4).run Tryz.prog w = .ok (.bool false) w := by kernel_rfl
theorem zeroI (w : World) : (zeroValue 3).run Tryz.prog w = .ok (.int .i64 0) w := by kernel_rfl
theorem wrongFrom_inl {n : S43} {l : List S43} {i : Nat} {st : WSt} {e : Int} (h : wrongStep st n = .inl e) : wrongFrom (n :: l) i st = ((i : Int), e) := by
  rw [wrongFrom, h]
theorem wrongFrom_inr {n : S43} {l : List S43} {i : Nat} {st st' : WSt} (h : wrongStep st n = .inr st') : wrongFrom (n :: l) i st = wrongFrom l (i + 1) st' := by
  rw [wrongFrom, h]
theorem wrongStep_6 {st : WSt} {n : S43} (h : n.f0 = 6) : wrongStep st n = .inr st := by
  unfold wrongStep
  rw [if_neg (by omega), if_neg (by omega), if_neg (by omega), if_neg (by omega)]
theorem wrongStep_9 {st : WSt} {n : S43} (h : n.f0 ≠ 6) (h2 : (st.on n.f1).isSome = decide (n.f0 = 1)) : wrongStep st n = .inl 9 := by
  unfold wrongStep
  rw [if_pos ⟨h, h2⟩]
theorem wrongStep_1 {st : WSt} {n : S43} (h : n.f0 = 1) (hon : st.on n.f1 = none) : wrongStep st n = .inr ⟨st.set n.f1 (some fun _ => false), st.tk⟩ := by
  unfold wrongStep
  rw [if_neg (by rw [hon, h]; simp), if_pos h]
theorem wrongStep_8 {st : WSt} {n : S43} {K : ByteArray → Bool} (h : n.f0 = 3) (hon : st.on n.f1 = some K) (hK : K n.f2 = false) : wrongStep st n = .inl 8 := by
  unfold wrongStep
  rw [if_neg (by rw [hon, h]; simp), if_neg (by omega), if_pos (.inl h)]
  simp only [hon, Option.getD_some]
  rw [if_pos ⟨h, hK⟩]
theorem wrongStep_d {st : WSt} {n : S43} {K : ByteArray → Bool} {o : Int} (h : n.f0 = 3 ∧ K n.f2 = true ∨ n.f0 = 2) (hon : st.on n.f1 = some K) (ht : st.tk n.f2 = some o) (ho : o ≠ n.f1) : wrongStep st n = .inl 6 := by
  unfold wrongStep
  rw [if_neg (by rw [hon]; rcases h with h | h <;> simp [h]), if_neg (by omega), if_pos (by omega)]
  simp only [hon, Option.getD_some, ht]
  rw [if_neg (by rcases h with h | h <;> simp [h]), if_pos (by simp [ho])]
theorem wrongStep_k {st : WSt} {n : S43} {K : ByteArray → Bool} (h : n.f0 = 3 ∧ K n.f2 = true ∨ n.f0 = 2) (hon : st.on n.f1 = some K) (ht : st.tk n.f2 = none ∨ st.tk n.f2 = some n.f1) :
    wrongStep st n = .inr ⟨fun v => if v = n.f1 then some (fun k => if k = n.f2 then true else K k) else st.on v, fun k => if k = n.f2 then some n.f1 else st.tk k⟩ := by
  unfold wrongStep
  rw [if_neg (by rw [hon]; rcases h with h | h <;> simp [h]), if_neg (by omega), if_pos (by omega)]
  simp only [hon, Option.getD_some]
  rw [if_neg (by rcases h with h | h <;> simp [h]), if_neg (by rcases ht with ht | ht <;> simp [ht])]
  rfl
theorem wrongStep_q {st : WSt} {n : S43} {K : ByteArray → Bool} (h : n.f0 = 4 ∨ n.f0 = 5 ∨ n.f0 = 7) (hon : st.on n.f1 = some K) :
    wrongStep st n = .inr ⟨fun v => if v = n.f1 then (if n.f0 = 4 then some fun _ => false else none) else st.on v, fun k => if K k = true then none else st.tk k⟩ := by
  unfold wrongStep
  rw [if_neg (by rw [hon]; rcases h with h | h | h <;> simp [h]), if_neg (by omega), if_neg (by omega), if_pos h]
  simp only [hon, Option.getD_some]
  rfl
theorem wrongStep_x {st : WSt} {n : S43} {K : ByteArray → Bool} (k1 : n.f0 ≠ 1) (k2 : n.f0 ≠ 2) (k3 : n.f0 ≠ 3) (k4 : n.f0 ≠ 4) (k5 : n.f0 ≠ 5) (k7 : n.f0 ≠ 7) (hon : st.on n.f1 = some K) : wrongStep st n = .inr st := by
  unfold wrongStep
  rw [if_neg (by rw [hon]; simp [k1]), if_neg k1, if_neg (by omega), if_neg (by omega)]
theorem _root_.Go.Proofs.YteblpjnkinghoaaGreatW.Mw.Holds.congr' {P : Program} {t : TypeId} {κ : Type} [DecidableEq κ] {K : Keys P t κ} {w : World} {b b' : Nat} {F G : κ → Option Value} (h : Holds K w b F) (hb : b = b') (e : ∀ k, F k = G k) : Holds K w b' G := hb ▸ h.congr e
theorem wrong_no (A0 : Option Addr) (c0 : Nat) (l0 : List (S43)) (w : World) (hr0 : Kd.C k43 w A0 l0.length l0) (hc0 : l0.length ≤ c0) (h : ¬ (l0.length ≤ 1000 ∧ l0.all vld = true)) :
    Calls Tryz.prog 6 #[.slice A0 l0.length c0] w fun r w' => r = .returned (.tuple #[.int .i64 0, .int .i64 1]) ∧ Below w.heap.size w w' := by
  have HR0 := Aside0.mk hr0
  have HC0 := Aside0.mk hc0
  have HE := Aside0.mk (show journal_valid.f l0 = some false by unfold journal_valid.f; simp only [Option.some.injEq, Bool.and_eq_false_iff, decide_eq_false_iff_not]; rcases Classical.not_and_iff_not_or_not.1 h with h | h <;> simp [h])
  clear hr0 hc0 h
  go_enter Tryz.func6, Tryz.ntmps6
  go_wp2_with (go_at_call 24; refine (journal_valid.calls _ _ _ _ _ HR0.out HC0.out HE.out).mono ?_; rintro r w1 ⟨rfl, hb⟩)
  go_ret2
  exact ⟨rfl, hb⟩
set_option maxHeartbeats 4000000 in
set_option maxRecDepth 100000 in
theorem wrong_yes (A0 : Option Addr) (c0 : Nat) (l0 : List (S43)) (w : World) (hr0 : Kd.C k43 w A0 l0.length l0) (hc0 : l0.length ≤ c0) (hle : l0.length ≤ 1000) (hv : l0.all vld = true) (r1 r2 : Int) (hr : wrongFrom l0 0 ⟨fun _ => none, fun _ => none⟩ = (r1, r2)) :
    Calls Tryz.prog 6 #[.slice A0 l0.length c0] w fun r w' => r = .returned (.tuple #[.int .i64 r1, .int .i64 r2]) ∧ Below w.heap.size w w' := by
  have HR0 := Aside0.mk hr0
  have HC0 := Aside0.mk hc0
  have HE := Aside0.mk (show journal_valid.f l0 = some true by unfold journal_valid.f; rw [decide_eq_true hle, hv]; rfl)
  have HV := Aside0.mk hv
  have HRR := Aside0.mk hr
  clear hr0 hc0 hv hr
  have hmm := @run_makeMap Tryz.prog
  go_enter Tryz.func6, Tryz.ntmps6
  go_wp2_with (go_at_call 24; refine (journal_valid.calls _ _ _ _ _ HR0.out HC0.out HE.out).mono ?_; rintro r w1 ⟨rfl, hb⟩)
  obtain ⟨b1, hb1⟩ : ∃ b, b = w1.heap.size := ⟨_, rfl⟩
  obtain ⟨b2, hb2⟩ : ∃ b, b = w1.heap.size + 1 := ⟨_, rfl⟩
  have hbs : w.heap.size ≤ w1.heap.size := hb.size
  have hs1 : (w1.alloc (.map #[] 0)).heap.size = w1.heap.size + 1 := by simp
  have HJ := Aside0.mk (show Jrn ((w1.alloc (.map #[] 0)).alloc (.map #[] 0)) w.heap.size b1 b2 (fun _ => none) (fun _ => none) (fun _ => 0) (fun _ => 0) (fun x => if x = b1 then (0, 2) else (0, 3)) from
    { h1 := ((Holds.made KI w1).alloc _).congr' hb1.symm (fun _ => rfl), h2 := (Holds.made KS (w1.alloc (.map #[] 0))).congr' (hs1.trans hb2.symm) (fun _ => rfl), o1 := by simp, o2 := by rw [if_neg (by omega)], l1 := by omega, l2 := by omega, og := fun _ _ h => (by cases h), om := fun _ _ h => (by cases h) })
  have HB := Aside0.mk ((hb.alloc hb.size (.map #[] 0)).alloc (by omega) (.map #[] 0))
  rw [← hb2, ← hb1]
  clear hb hbs hs1 hb1 hb2 hmm
  generalize (w1.alloc (.map #[] 0)).alloc (.map #[] 0) = w2 at HJ HB ⊢
  go_loopg [20] l0.length (fun kq v20 w' => ∃ (i : Nat) (st : WSt) (g m : Int → Nat) (own : Nat → Int × Nat), v20 = .int .i64 i ∧ i ≤ l0.length ∧ Aside0 (kq + i = l0.length) ∧ Aside0 (wrongFrom (l0.drop i) i st = (r1, r2)) ∧ Aside0 (Jrn w' w.heap.size b1 b2 st.on st.tk g m own) ∧ Aside0 (Below w.heap.size w w'))
  case atStart => exact ⟨0, _, _, _, _, rfl, by omega, ⟨by omega⟩, HRR, HJ, HB⟩
  case round =>
    clear HB HJ HRR
    obtain ⟨i, st, g, m, own, rfl, hi, HQ, HS, HJ, HB⟩ := hrel
    by_cases hlt : i < l0.length
    · obtain ⟨ad, rfl, h0, h1, h2, h3, h4⟩ := at_T43 (Kd.C_below HR0.out HB.out) (i : Int) (by omega) (by omega)
      rw [Int.toNat_natCast] at h0 h1 h2 h3 h4
      have HS2 := Aside0.mk (show wrongFrom (rd_T43 l0 (i : Int) :: l0.drop (i + 1)) i st = (r1, r2) by rw [← HS.out, drop_rd (show i < l0.length from hlt)])
      generalize rd_T43 l0 (i : Int) = n at h0 h1 h2 h3 h4 HS2
      clear HS
      by_cases k6 : n.f0 = 6
      · have HS3 := Aside0.mk ((wrongFrom_inr (wrongStep_6 k6)).symm.trans HS2.out)
        have q1 : (n.f0 == 1) = false := by rw [k6]; rfl
        have q3 : (n.f0 == 3) = false := by rw [k6]; rfl
        have q2 : (n.f0 == 2) = false := by rw [k6]; rfl
        have q4 : (n.f0 == 4) = false := by rw [k6]; rfl
        have q5 : (n.f0 == 5) = false := by rw [k6]; rfl
        have q7 : (n.f0 == 7) = false := by rw [k6]; rfl
        have q6 : (n.f0 != 6) = false := by rw [k6]; rfl
        have q4n : (n.f0 != 4) = true := by rw [k6]; rfl
        clear k6 HS2
        cases hon : st.on n.f1 with
        | none =>
          have HO1 := Aside0.mk (show onF st.on g n.f1 = none by unfold onF; rw [hon]; rfl)
          clear hon
          go_wp2_with (first | (at_lookup; refine wl_look2 (K := KI) rfl (.tmp 26) (.tmp 28) 49 rfl Tryz.underlying49 zero51 (HJ.out.h1.alloc _) n.f1 rfl rfl ?_; rw [HO1.out]; simp only [Option.getD_none, Option.isSome_none]))
          go_roundg (gk - 1)
          case measure => have := HQ.out; omega
          case rel => exact ⟨i + 1, _, _, _, _, rfl, by omega, ⟨by have := HQ.out; omega⟩, HS3, ⟨HJ.out.below ((Below.refl _ _).alloc (Nat.le_refl _) _)⟩, ⟨HB.out.alloc (below_size HB.out) _⟩⟩
        | some K =>
          have HO1 := Aside0.mk (show onF st.on g n.f1 = some (.pointer (some ⟨g n.f1, 0, none⟩)) by unfold onF; rw [hon]; rfl)
          clear hon
          go_wp2_with (first | (at_lookup; refine wl_look2 (K := KI) rfl (.tmp 26) (.tmp 28) 49 rfl Tryz.underlying49 zero51 (HJ.out.h1.alloc _) n.f1 rfl rfl ?_; rw [HO1.out]; simp only [Option.getD_some, Option.isSome_some]))
          go_roundg (gk - 1)
          case measure => have := HQ.out; omega
          case rel => exact ⟨i + 1, _, _, _, _, rfl, by omega, ⟨by have := HQ.out; omega⟩, HS3, ⟨HJ.out.below ((Below.refl _ _).alloc (Nat.le_refl _) _)⟩, ⟨HB.out.alloc (below_size HB.out) _⟩⟩
      have q6 : (n.f0 != 6) = true := bne_iff_ne.2 k6
      by_cases k1 : n.f0 = 1
      · cases hon : st.on n.f1 with
        | some K =>
          obtain ⟨rfl, rfl⟩ := Prod.mk.inj ((wrongFrom_inl (wrongStep_9 k6 (by rw [hon, k1]; rfl))).symm.trans HS2.out)
          have HO1 := Aside0.mk (show onF st.on g n.f1 = some (.pointer (some ⟨g n.f1, 0, none⟩)) by unfold onF; rw [hon]; rfl)
          have q1 : (n.f0 == 1) = true := beq_iff_eq.2 k1
          clear hon k1 k6 HS2
          go_wp2_with (first | (at_lookup; refine wl_look2 (K := KI) rfl (.tmp 26) (.tmp 28) 49 rfl Tryz.underlying49 zero51 (HJ.out.h1.alloc _) n.f1 rfl rfl ?_; rw [HO1.out]; simp only [Option.getD_some, Option.isSome_some]))
          go_ret2
          exact ⟨rfl, HB.out.alloc (below_size HB.out) _⟩
        | none =>
          have HS3 := Aside0.mk ((wrongFrom_inr (wrongStep_1 k1 hon)).symm.trans HS2.out)
          have HO1 := Aside0.mk (show onF st.on g n.f1 = none by unfold onF; rw [hon]; rfl)
          have q1 : (n.f0 == 1) = true := by rw [k1]; rfl
          have q3 : (n.f0 == 3) = false := by rw [k1]; rfl
          have q2 : (n.f0 == 2) = false := by rw [k1]; rfl
          have q4 : (n.f0 == 4) = false := by rw [k1]; rfl
          have q5 : (n.f0 == 5) = false := by rw [k1]; rfl
          have q7 : (n.f0 == 7) = false := by rw [k1]; rfl
          have q6 : (n.f0 != 6) = true := by rw [k1]; rfl
          have q4n : (n.f0 != 4) = true := by rw [k1]; rfl
          clear hon k1 k6 HS2
          have hmm := @run_makeMap Tryz.prog
          have hk := heap_alloc_new wr (.cells #[.int .i64 n.f0, .int .i64 n.f1, .string n.f2, .bool n.f3, .string n.f4] 43)
          have HB5 := Aside0.mk (HB.out.alloc (below_size HB.out) (.cells #[.int .i64 n.f0, .int .i64 n.f1, .string n.f2, .bool n.f3, .string n.f4] 43))
          have HJ5 := Aside0.mk (HJ.out.below ((Below.refl _ _).alloc (Nat.le_refl _) (.cells #[.int .i64 n.f0, .int .i64 n.f1, .string n.f2, .bool n.f3, .string n.f4] 43)))
          go_wp2_with (first | (at_lookup; refine wl_look2 (K := KI) rfl (.tmp 26) (.tmp 28) 49 rfl Tryz.underlying49 zero51 HJ5.out.h1 n.f1 rfl rfl ?_; rw [HO1.out]; simp only [Option.getD_none, Option.isSome_none]; generalize wr.alloc (.cells #[.int .i64 n.f0, .int .i64 n.f1, .string n.f2, .bool n.f3, .string n.f4] 43) = w5 at HB5 HJ5 hk ⊢; have hc0 := (blk_cell hk 0).trans (show _ = some (Value.int .i64 n.f0) from rfl); have hc1 := (blk_cell hk 1).trans (show _ = some (Value.int .i64 n.f1) from rfl); have hc2 := (blk_cell hk 2).trans (show _ = some (Value.string n.f2) from rfl)) | (at_mapUpdate; refine wl_put (K := KI) rfl (.tmp 47) (.tmp 49) (.tmp 53) 49 rfl Tryz.underlying49 ((HJ5.out.h1.alloc _).alloc _) n.f1 (.pointer (some ⟨w5.heap.size + 1, 0, none⟩)) rfl rfl rfl ?_; intro w6 hp6 hg6; obtain ⟨g', m', own', hj6⟩ := HJ5.out.opened (below_size HB5.out) n.f1 i (((Below.refl _ w5).alloc (Nat.le_refl _) (.map #[] 0)).alloc (by simp) (.cells #[.int .i64 i, .map (some w5.heap.size)] 55)) ((Holds.made KS w5).alloc _) (by have := heap_alloc_new (w5.alloc (.map #[] 0)) (.cells #[.int .i64 i, .map (some w5.heap.size)] 55); rwa [show (w5.alloc (.map #[] 0)).heap.size = w5.heap.size + 1 by simp] at this) hp6 hg6; have HJ6 := Aside0.mk hj6; have HB6 := Aside0.mk (((HB5.out.alloc (below_size HB5.out) (.map #[] 0)).alloc (by have := below_size HB5.out; simp; omega) (.cells #[.int .i64 i, .map (some w5.heap.size)] 55)).grown hg6 (by have := below_size HB5.out; simp; omega) (fun k e => by cases e; exact HJ5.out.l1)); clear hp6 hg6 hj6))
          go_roundg (gk - 1)
          case measure => have := HQ.out; omega
          case rel => exact ⟨i + 1, _, _, _, _, rfl, by omega, ⟨by have := HQ.out; omega⟩, HS3, HJ6, HB6⟩
      · cases hon : st.on n.f1 with
        | none =>
          obtain ⟨rfl, rfl⟩ := Prod.mk.inj ((wrongFrom_inl (wrongStep_9 k6 (by rw [hon]; simp [k1]))).symm.trans HS2.out)
          have HO1 := Aside0.mk (show onF st.on g n.f1 = none by unfold onF; rw [hon]; rfl)
          have q1 : (n.f0 == 1) = false := beq_eq_false_iff_ne.2 k1
          clear hon k1 k6 HS2
          go_wp2_with (first | (at_lookup; refine wl_look2 (K := KI) rfl (.tmp 26) (.tmp 28) 49 rfl Tryz.underlying49 zero51 (HJ.out.h1.alloc _) n.f1 rfl rfl ?_; rw [HO1.out]; simp only [Option.getD_none, Option.isSome_none]))
          go_ret2
          exact ⟨rfl, HB.out.alloc (below_size HB.out) _⟩
        | some K =>
          have HO1 := Aside0.mk (show onF st.on g n.f1 = some (.pointer (some ⟨g n.f1, 0, none⟩)) by unfold onF; rw [hon]; rfl)
          have HON := Aside0.mk hon
          clear hon
          by_cases k3 : n.f0 = 3
          · cases hK : K n.f2 with
            | false =>
              obtain ⟨rfl, rfl⟩ := Prod.mk.inj ((wrongFrom_inl (wrongStep_8 k3 HON.out hK)).symm.trans HS2.out)
              have q1 : (n.f0 == 1) = false := by rw [k3]; rfl
              have q3 : (n.f0 == 3) = true := by rw [k3]; rfl
              have q2 : (n.f0 == 2) = false := by rw [k3]; rfl
              have q4 : (n.f0 == 4) = false := by rw [k3]; rfl
              have q5 : (n.f0 == 5) = false := by rw [k3]; rfl
              have q7 : (n.f0 == 7) = false := by rw [k3]; rfl
              have q6 : (n.f0 != 6) = true := by rw [k3]; rfl
              have q4n : (n.f0 != 4) = true := by rw [k3]; rfl
              clear k1 k3 k6 HS2
              have hk := heap_alloc_new wr (.cells #[.int .i64 n.f0, .int .i64 n.f1, .string n.f2, .bool n.f3, .string n.f4] 43)
              have HB5 := Aside0.mk (HB.out.alloc (below_size HB.out) (.cells #[.int .i64 n.f0, .int .i64 n.f1, .string n.f2, .bool n.f3, .string n.f4] 43))
              have HJ5 := Aside0.mk (HJ.out.below ((Below.refl _ _).alloc (Nat.le_refl _) (.cells #[.int .i64 n.f0, .int .i64 n.f1, .string n.f2, .bool n.f3, .string n.f4] 43)))
              have HOG := Aside0.mk (HJ5.out.og _ _ HON.out)
              have HOM := Aside0.mk (HJ5.out.om _ _ HON.out)
              go_wp2_with (first | (at_lookup; refine wl_look2 (K := KI) rfl (.tmp 26) (.tmp 28) 49 rfl Tryz.underlying49 zero51 HJ5.out.h1 n.f1 rfl rfl ?_; rw [HO1.out]; simp only [Option.getD_some, Option.isSome_some]; generalize wr.alloc (.cells #[.int .i64 n.f0, .int .i64 n.f1, .string n.f2, .bool n.f3, .string n.f4] 43) = w5 at HB5 HJ5 hk HOG HOM ⊢; have hc0 := (blk_cell hk 0).trans (show _ = some (Value.int .i64 n.f0) from rfl); have hc1 := (blk_cell hk 1).trans (show _ = some (Value.int .i64 n.f1) from rfl); have hc2 := (blk_cell hk 2).trans (show _ = some (Value.string n.f2) from rfl)))
              obtain ⟨fr, hgu⟩ := HOG.out.2.2
              have hg1 := (blk_cell hgu 1).trans (show _ = some (Value.map (some (m n.f1))) from rfl)
              have hp0 := fun p : Past w5 => Past.cell hc0 p
              have hp2 := fun p : Past w5 => Past.cell hc2 p
              have hpg := fun p : Past w5 => Past.cell hg1 p
              have hl16 : ∀ p : Past w5, (Instr.lookup 53 (.map (some (m n.f1))) (.string n.f2) false).run Tryz.prog p.W = .ok (.bool (K n.f2)) p.W := fun p => by rw [show (Value.string n.f2) = KS.enc n.f2 from rfl, ((HOM.out.2.2.below p.h).look Tryz.underlying53 zeroB n.f2).1, show (ksF K n.f2).getD (.bool false) = .bool (K n.f2) by unfold ksF; cases K n.f2 <;> rfl]
              rw [hK] at hl16
              refine wp_region_past (by kernel_rfl) (by kernel_rfl) ?_
              repeat (go_big_quiet_step (fail))
              refine wpQuiet_nil ?_
              rintro _ ⟨p, rfl⟩
              have hb6 := p.h
              generalize p.W = w6 at hb6 ⊢
              have hc1 := pw_cell_below hb6 hc1
              have hc2 := pw_cell_below hb6 hc2
              have hg1 := pw_cell_below hb6 hg1
              have HB6 := Aside0.mk (below_step HB5.out hb6)
              have HJ6 := Aside0.mk (HJ5.out.below hb6)
              have HB56 := Aside0.mk hb6
              have HK6 := Aside0.mk ((hb6.block _ (Array.getElem?_eq_some_iff.1 hk).1).trans hk)
              have HLT6 := Aside0.mk (Array.getElem?_eq_some_iff.1 HK6.out).1
              have HNE := Aside0.mk (show wr.heap.size ≠ m n.f1 from fun e => by obtain ⟨l, c, hb, _⟩ := HOM.out.2.2; rw [← e, hk] at hb; cases hb)
              clear hp0 hp2 hpg hl16 hk hc0 hgu hb6
              go_wp2
              go_ret2
              exact ⟨rfl, HB6.out⟩
            | true =>
              have hk' : n.f0 = 3 ∧ K n.f2 = true ∨ n.f0 = 2 := .inl ⟨k3, hK⟩
              cases ht : st.tk n.f2 with
              | none =>
                have q1 : (n.f0 == 1) = false := by rw [k3]; rfl
                have q3 : (n.f0 == 3) = true := by rw [k3]; rfl
                have q2 : (n.f0 == 2) = false := by rw [k3]; rfl
                have q4 : (n.f0 == 4) = false := by rw [k3]; rfl
                have q5 : (n.f0 == 5) = false := by rw [k3]; rfl
                have q7 : (n.f0 == 7) = false := by rw [k3]; rfl
                have q6 : (n.f0 != 6) = true := by rw [k3]; rfl
                have q4n : (n.f0 != 4) = true := by rw [k3]; rfl
                have HT := Aside0.mk (show tkF st.tk n.f2 = none by unfold tkF; rw [ht]; rfl)
                have HS3 := Aside0.mk ((wrongFrom_inr (wrongStep_k hk' HON.out (.inl ht))).symm.trans HS2.out)
                clear k1 k6 HS2 hk' ht
                clear k3
                have hk := heap_alloc_new wr (.cells #[.int .i64 n.f0, .int .i64 n.f1, .string n.f2, .bool n.f3, .string n.f4] 43)
                have HB5 := Aside0.mk (HB.out.alloc (below_size HB.out) (.cells #[.int .i64 n.f0, .int .i64 n.f1, .string n.f2, .bool n.f3, .string n.f4] 43))
                have HJ5 := Aside0.mk (HJ.out.below ((Below.refl _ _).alloc (Nat.le_refl _) (.cells #[.int .i64 n.f0, .int .i64 n.f1, .string n.f2, .bool n.f3, .string n.f4] 43)))
                have HOG := Aside0.mk (HJ5.out.og _ _ HON.out)
                have HOM := Aside0.mk (HJ5.out.om _ _ HON.out)
                go_wp2_with (first | (at_lookup; refine wl_look2 (K := KI) rfl (.tmp 26) (.tmp 28) 49 rfl Tryz.underlying49 zero51 HJ5.out.h1 n.f1 rfl rfl ?_; rw [HO1.out]; simp only [Option.getD_some, Option.isSome_some]; generalize wr.alloc (.cells #[.int .i64 n.f0, .int .i64 n.f1, .string n.f2, .bool n.f3, .string n.f4] 43) = w5 at HB5 HJ5 hk HOG HOM ⊢; have hc0 := (blk_cell hk 0).trans (show _ = some (Value.int .i64 n.f0) from rfl); have hc1 := (blk_cell hk 1).trans (show _ = some (Value.int .i64 n.f1) from rfl); have hc2 := (blk_cell hk 2).trans (show _ = some (Value.string n.f2) from rfl)))
                obtain ⟨fr, hgu⟩ := HOG.out.2.2
                have hg1 := (blk_cell hgu 1).trans (show _ = some (Value.map (some (m n.f1))) from rfl)
                have hp0 := fun p : Past w5 => Past.cell hc0 p
                have hp2 := fun p : Past w5 => Past.cell hc2 p
                have hpg := fun p : Past w5 => Past.cell hg1 p
                have hl16 : ∀ p : Past w5, (Instr.lookup 53 (.map (some (m n.f1))) (.string n.f2) false).run Tryz.prog p.W = .ok (.bool (K n.f2)) p.W := fun p => by rw [show (Value.string n.f2) = KS.enc n.f2 from rfl, ((HOM.out.2.2.below p.h).look Tryz.underlying53 zeroB n.f2).1, show (ksF K n.f2).getD (.bool false) = .bool (K n.f2) by unfold ksF; cases K n.f2 <;> rfl]
                rw [hK] at hl16
                refine wp_region_past (by kernel_rfl) (by kernel_rfl) ?_
                repeat (go_big_quiet_step (fail))
                refine wpQuiet_nil ?_
                rintro _ ⟨p, rfl⟩
                have hb6 := p.h
                generalize p.W = w6 at hb6 ⊢
                have hc1 := pw_cell_below hb6 hc1
                have hc2 := pw_cell_below hb6 hc2
                have hg1 := pw_cell_below hb6 hg1
                have HB6 := Aside0.mk (below_step HB5.out hb6)
                have HJ6 := Aside0.mk (HJ5.out.below hb6)
                have HB56 := Aside0.mk hb6
                have HK6 := Aside0.mk ((hb6.block _ (Array.getElem?_eq_some_iff.1 hk).1).trans hk)
                have HLT6 := Aside0.mk (Array.getElem?_eq_some_iff.1 HK6.out).1
                have HNE := Aside0.mk (show wr.heap.size ≠ m n.f1 from fun e => by obtain ⟨l, c, hb, _⟩ := HOM.out.2.2; rw [← e, hk] at hb; cases hb)
                clear hp0 hp2 hpg hl16 hk hc0 hgu hb6
                go_wp2_with (first | (at_lookup; refine wl_look2 (K := KS) rfl (.tmp 72) (.tmp 74) 50 rfl Tryz.underlying50 zeroI HJ6.out.h2 n.f2 rfl rfl ?_; rw [HT.out]; simp only [Option.getD_none, Option.isSome_none]))
                obtain ⟨st1, w7, hme, hg7, hst⟩ := ((HOM.out.2.2.below HB56.out).drew).entry Tryz.underlying53 zeroB n.f2
                obtain ⟨w8, hes, hH8, hg8⟩ := hst (.bool true)
                obtain ⟨w9, hmu, hH9, hg9⟩ := ((HJ6.out.h2.drew).grown hg8 (fun e => Jrn.ne _ HJ6.out.o2 HOM.out.1 (.inr (by decide)) (Option.some.inj e))).put Tryz.underlying50 n.f2 (.int .i64 n.f1)
                have hme : (Instr.mapEntry 53 (.map (some (m n.f1))) (.string n.f2)).run Tryz.prog w6.drew = .ok (.tuple #[(ksF K n.f2).getD (.bool false), .int .i64 st1]) w7 := hme
                have hes : (Instr.entryStore 53 (.map (some (m n.f1))) (.int .i64 st1) (.bool true)).run Tryz.prog w7 = .ok () w8 := hes
                have hmu : (Instr.mapUpdate 50 (.map (some b2)) (.string n.f2) (.int .i64 n.f1)).run Tryz.prog w8 = .ok () w9 := hmu
                have hne7 : wr.heap.size ≠ m n.f1 := HNE.out
                have hk7 := (hg7.block wr.heap.size HLT6.out (fun e => hne7 (Option.some.inj e))).trans HK6.out
                have hk8 := (hg8.block wr.heap.size HLT6.out (fun e => hne7 (Option.some.inj e))).trans HK6.out
                have h71 := (blk_cell hk7 1).trans (show _ = some (Value.int .i64 n.f1) from rfl)
                have h72 := (blk_cell hk7 2).trans (show _ = some (Value.string n.f2) from rfl)
                have h81 := (blk_cell hk8 1).trans (show _ = some (Value.int .i64 n.f1) from rfl)
                have h82 := (blk_cell hk8 2).trans (show _ = some (Value.string n.f2) from rfl)
                have HJ9 := Aside0.mk ((HJ6.out.drew).added n.f1 n.f2 HON.out hH8 hg8 hH9 hg9)
                have HB9 := Aside0.mk ((HB6.out.drew.grown hg8 (below_size HB6.out.drew) (fun k e => by cases e; exact HOM.out.2.1)).grown hg9 (Nat.le_trans (below_size HB6.out.drew) hg8.size) (fun k e => by cases e; exact HJ6.out.l2))
                clear hst hg7 hg8 hg9 hH8 hH9 hk7 hk8 hne7
                go_region
                go_wp2
                go_roundg (gk - 1)
                case measure => have := HQ.out; omega
                case rel => exact ⟨i + 1, _, _, _, _, rfl, by omega, ⟨by have := HQ.out; omega⟩, HS3, HJ9, HB9⟩
              | some o =>
                have HT := Aside0.mk (show tkF st.tk n.f2 = some (.int .i64 o) by unfold tkF; rw [ht]; rfl)
                by_cases ho : o = n.f1
                · skip
                  have q1 : (n.f0 == 1) = false := by rw [k3]; rfl
                  have q3 : (n.f0 == 3) = true := by rw [k3]; rfl
                  have q2 : (n.f0 == 2) = false := by rw [k3]; rfl
                  have q4 : (n.f0 == 4) = false := by rw [k3]; rfl
                  have q5 : (n.f0 == 5) = false := by rw [k3]; rfl
                  have q7 : (n.f0 == 7) = false := by rw [k3]; rfl
                  have q6 : (n.f0 != 6) = true := by rw [k3]; rfl
                  have q4n : (n.f0 != 4) = true := by rw [k3]; rfl
                  have qo : (o != n.f1) = false := by rw [ho]; simp
                  have HS3 := Aside0.mk ((wrongFrom_inr (wrongStep_k hk' HON.out (.inr (ho ▸ ht)))).symm.trans HS2.out)
                  clear k1 k6 HS2 hk' ht ho
                  clear k3
                  have hk := heap_alloc_new wr (.cells #[.int .i64 n.f0, .int .i64 n.f1, .string n.f2, .bool n.f3, .string n.f4] 43)
                  have HB5 := Aside0.mk (HB.out.alloc (below_size HB.out) (.cells #[.int .i64 n.f0, .int .i64 n.f1, .string n.f2, .bool n.f3, .string n.f4] 43))
                  have HJ5 := Aside0.mk (HJ.out.below ((Below.refl _ _).alloc (Nat.le_refl _) (.cells #[.int .i64 n.f0, .int .i64 n.f1, .string n.f2, .bool n.f3, .string n.f4] 43)))
                  have HOG := Aside0.mk (HJ5.out.og _ _ HON.out)
                  have HOM := Aside0.mk (HJ5.out.om _ _ HON.out)
                  go_wp2_with (first | (at_lookup; refine wl_look2 (K := KI) rfl (.tmp 26) (.tmp 28) 49 rfl Tryz.underlying49 zero51 HJ5.out.h1 n.f1 rfl rfl ?_; rw [HO1.out]; simp only [Option.getD_some, Option.isSome_some]; generalize wr.alloc (.cells #[.int .i64 n.f0, .int .i64 n.f1, .string n.f2, .bool n.f3, .string n.f4] 43) = w5 at HB5 HJ5 hk HOG HOM ⊢; have hc0 := (blk_cell hk 0).trans (show _ = some (Value.int .i64 n.f0) from rfl); have hc1 := (blk_cell hk 1).trans (show _ = some (Value.int .i64 n.f1) from rfl); have hc2 := (blk_cell hk 2).trans (show _ = some (Value.string n.f2) from rfl)))
                  obtain ⟨fr, hgu⟩ := HOG.out.2.2
                  have hg1 := (blk_cell hgu 1).trans (show _ = some (Value.map (some (m n.f1))) from rfl)
                  have hp0 := fun p : Past w5 => Past.cell hc0 p
                  have hp2 := fun p : Past w5 => Past.cell hc2 p
                  have hpg := fun p : Past w5 => Past.cell hg1 p
                  have hl16 : ∀ p : Past w5, (Instr.lookup 53 (.map (some (m n.f1))) (.string n.f2) false).run Tryz.prog p.W = .ok (.bool (K n.f2)) p.W := fun p => by rw [show (Value.string n.f2) = KS.enc n.f2 from rfl, ((HOM.out.2.2.below p.h).look Tryz.underlying53 zeroB n.f2).1, show (ksF K n.f2).getD (.bool false) = .bool (K n.f2) by unfold ksF; cases K n.f2 <;> rfl]
                  rw [hK] at hl16
                  refine wp_region_past (by kernel_rfl) (by kernel_rfl) ?_
                  repeat (go_big_quiet_step (fail))
                  refine wpQuiet_nil ?_
                  rintro _ ⟨p, rfl⟩
                  have hb6 := p.h
                  generalize p.W = w6 at hb6 ⊢
                  have hc1 := pw_cell_below hb6 hc1
                  have hc2 := pw_cell_below hb6 hc2
                  have hg1 := pw_cell_below hb6 hg1
                  have HB6 := Aside0.mk (below_step HB5.out hb6)
                  have HJ6 := Aside0.mk (HJ5.out.below hb6)
                  have HB56 := Aside0.mk hb6
                  have HK6 := Aside0.mk ((hb6.block _ (Array.getElem?_eq_some_iff.1 hk).1).trans hk)
                  have HLT6 := Aside0.mk (Array.getElem?_eq_some_iff.1 HK6.out).1
                  have HNE := Aside0.mk (show wr.heap.size ≠ m n.f1 from fun e => by obtain ⟨l, c, hb, _⟩ := HOM.out.2.2; rw [← e, hk] at hb; cases hb)
                  clear hp0 hp2 hpg hl16 hk hc0 hgu hb6
                  go_wp2_with (first | (at_lookup; refine wl_look2 (K := KS) rfl (.tmp 72) (.tmp 74) 50 rfl Tryz.underlying50 zeroI HJ6.out.h2 n.f2 rfl rfl ?_; rw [HT.out]; simp only [Option.getD_some, Option.isSome_some]))
                  obtain ⟨st1, w7, hme, hg7, hst⟩ := ((HOM.out.2.2.below HB56.out).drew).entry Tryz.underlying53 zeroB n.f2
                  obtain ⟨w8, hes, hH8, hg8⟩ := hst (.bool true)
                  obtain ⟨w9, hmu, hH9, hg9⟩ := ((HJ6.out.h2.drew).grown hg8 (fun e => Jrn.ne _ HJ6.out.o2 HOM.out.1 (.inr (by decide)) (Option.some.inj e))).put Tryz.underlying50 n.f2 (.int .i64 n.f1)
                  have hme : (Instr.mapEntry 53 (.map (some (m n.f1))) (.string n.f2)).run Tryz.prog w6.drew = .ok (.tuple #[(ksF K n.f2).getD (.bool false), .int .i64 st1]) w7 := hme
                  have hes : (Instr.entryStore 53 (.map (some (m n.f1))) (.int .i64 st1) (.bool true)).run Tryz.prog w7 = .ok () w8 := hes
                  have hmu : (Instr.mapUpdate 50 (.map (some b2)) (.string n.f2) (.int .i64 n.f1)).run Tryz.prog w8 = .ok () w9 := hmu
                  have hne7 : wr.heap.size ≠ m n.f1 := HNE.out
                  have hk7 := (hg7.block wr.heap.size HLT6.out (fun e => hne7 (Option.some.inj e))).trans HK6.out
                  have hk8 := (hg8.block wr.heap.size HLT6.out (fun e => hne7 (Option.some.inj e))).trans HK6.out
                  have h71 := (blk_cell hk7 1).trans (show _ = some (Value.int .i64 n.f1) from rfl)
                  have h72 := (blk_cell hk7 2).trans (show _ = some (Value.string n.f2) from rfl)
                  have h81 := (blk_cell hk8 1).trans (show _ = some (Value.int .i64 n.f1) from rfl)
                  have h82 := (blk_cell hk8 2).trans (show _ = some (Value.string n.f2) from rfl)
                  have HJ9 := Aside0.mk ((HJ6.out.drew).added n.f1 n.f2 HON.out hH8 hg8 hH9 hg9)
                  have HB9 := Aside0.mk ((HB6.out.drew.grown hg8 (below_size HB6.out.drew) (fun k e => by cases e; exact HOM.out.2.1)).grown hg9 (Nat.le_trans (below_size HB6.out.drew) hg8.size) (fun k e => by cases e; exact HJ6.out.l2))
                  clear hst hg7 hg8 hg9 hH8 hH9 hk7 hk8 hne7
                  go_region
                  go_wp2
                  go_roundg (gk - 1)
                  case measure => have := HQ.out; omega
                  case rel => exact ⟨i + 1, _, _, _, _, rfl, by omega, ⟨by have := HQ.out; omega⟩, HS3, HJ9, HB9⟩
                · skip
                  have q1 : (n.f0 == 1) = false := by rw [k3]; rfl
                  have q3 : (n.f0 == 3) = true := by rw [k3]; rfl
                  have q2 : (n.f0 == 2) = false := by rw [k3]; rfl
                  have q4 : (n.f0 == 4) = false := by rw [k3]; rfl
                  have q5 : (n.f0 == 5) = false := by rw [k3]; rfl
                  have q7 : (n.f0 == 7) = false := by rw [k3]; rfl
                  have q6 : (n.f0 != 6) = true := by rw [k3]; rfl
                  have q4n : (n.f0 != 4) = true := by rw [k3]; rfl
                  have qo : (o != n.f1) = true := bne_iff_ne.2 ho
                  obtain ⟨rfl, rfl⟩ := Prod.mk.inj ((wrongFrom_inl (wrongStep_d hk' HON.out ht ho)).symm.trans HS2.out)
                  clear k1 k6 HS2 hk' ht ho
                  clear k3
                  have hk := heap_alloc_new wr (.cells #[.int .i64 n.f0, .int .i64 n.f1, .string n.f2, .bool n.f3, .string n.f4] 43)
                  have HB5 := Aside0.mk (HB.out.alloc (below_size HB.out) (.cells #[.int .i64 n.f0, .int .i64 n.f1, .string n.f2, .bool n.f3, .string n.f4] 43))
                  have HJ5 := Aside0.mk (HJ.out.below ((Below.refl _ _).alloc (Nat.le_refl _) (.cells #[.int .i64 n.f0, .int .i64 n.f1, .string n.f2, .bool n.f3, .string n.f4] 43)))
                  have HOG := Aside0.mk (HJ5.out.og _ _ HON.out)
                  have HOM := Aside0.mk (HJ5.out.om _ _ HON.out)
                  go_wp2_with (first | (at_lookup; refine wl_look2 (K := KI) rfl (.tmp 26) (.tmp 28) 49 rfl Tryz.underlying49 zero51 HJ5.out.h1 n.f1 rfl rfl ?_; rw [HO1.out]; simp only [Option.getD_some, Option.isSome_some]; generalize wr.alloc (.cells #[.int .i64 n.f0, .int .i64 n.f1, .string n.f2, .bool n.f3, .string n.f4] 43) = w5 at HB5 HJ5 hk HOG HOM ⊢; have hc0 := (blk_cell hk 0).trans (show _ = some (Value.int .i64 n.f0) from rfl); have hc1 := (blk_cell hk 1).trans (show _ = some (Value.int .i64 n.f1) from rfl); have hc2 := (blk_cell hk 2).trans (show _ = some (Value.string n.f2) from rfl)))
                  obtain ⟨fr, hgu⟩ := HOG.out.2.2
                  have hg1 := (blk_cell hgu 1).trans (show _ = some (Value.map (some (m n.f1))) from rfl)
                  have hp0 := fun p : Past w5 => Past.cell hc0 p
                  have hp2 := fun p : Past w5 => Past.cell hc2 p
                  have hpg := fun p : Past w5 => Past.cell hg1 p
                  have hl16 : ∀ p : Past w5, (Instr.lookup 53 (.map (some (m n.f1))) (.string n.f2) false).run Tryz.prog p.W = .ok (.bool (K n.f2)) p.W := fun p => by rw [show (Value.string n.f2) = KS.enc n.f2 from rfl, ((HOM.out.2.2.below p.h).look Tryz.underlying53 zeroB n.f2).1, show (ksF K n.f2).getD (.bool false) = .bool (K n.f2) by unfold ksF; cases K n.f2 <;> rfl]
                  rw [hK] at hl16
                  refine wp_region_past (by kernel_rfl) (by kernel_rfl) ?_
                  repeat (go_big_quiet_step (fail))
                  refine wpQuiet_nil ?_
                  rintro _ ⟨p, rfl⟩
                  have hb6 := p.h
                  generalize p.W = w6 at hb6 ⊢
                  have hc1 := pw_cell_below hb6 hc1
                  have hc2 := pw_cell_below hb6 hc2
                  have hg1 := pw_cell_below hb6 hg1
                  have HB6 := Aside0.mk (below_step HB5.out hb6)
                  have HJ6 := Aside0.mk (HJ5.out.below hb6)
                  have HB56 := Aside0.mk hb6
                  have HK6 := Aside0.mk ((hb6.block _ (Array.getElem?_eq_some_iff.1 hk).1).trans hk)
                  have HLT6 := Aside0.mk (Array.getElem?_eq_some_iff.1 HK6.out).1
                  have HNE := Aside0.mk (show wr.heap.size ≠ m n.f1 from fun e => by obtain ⟨l, c, hb, _⟩ := HOM.out.2.2; rw [← e, hk] at hb; cases hb)
                  clear hp0 hp2 hpg hl16 hk hc0 hgu hb6
                  go_wp2_with (first | (at_lookup; refine wl_look2 (K := KS) rfl (.tmp 72) (.tmp 74) 50 rfl Tryz.underlying50 zeroI HJ6.out.h2 n.f2 rfl rfl ?_; rw [HT.out]; simp only [Option.getD_some, Option.isSome_some]))
                  go_ret2
                  exact ⟨rfl, HB6.out⟩
          by_cases k2 : n.f0 = 2
          · have hk' : n.f0 = 3 ∧ K n.f2 = true ∨ n.f0 = 2 := .inr k2
            cases ht : st.tk n.f2 with
            | none =>
              have q1 : (n.f0 == 1) = false := by rw [k2]; rfl
              have q3 : (n.f0 == 3) = false := by rw [k2]; rfl
              have q2 : (n.f0 == 2) = true := by rw [k2]; rfl
              have q4 : (n.f0 == 4) = false := by rw [k2]; rfl
              have q5 : (n.f0 == 5) = false := by rw [k2]; rfl
              have q7 : (n.f0 == 7) = false := by rw [k2]; rfl
              have q6 : (n.f0 != 6) = true := by rw [k2]; rfl
              have q4n : (n.f0 != 4) = true := by rw [k2]; rfl
              have HT := Aside0.mk (show tkF st.tk n.f2 = none by unfold tkF; rw [ht]; rfl)
              have HS3 := Aside0.mk ((wrongFrom_inr (wrongStep_k hk' HON.out (.inl ht))).symm.trans HS2.out)
              clear k1 k6 HS2 hk' ht
              clear k2 k3
              have hk := heap_alloc_new wr (.cells #[.int .i64 n.f0, .int .i64 n.f1, .string n.f2, .bool n.f3, .string n.f4] 43)
              have HB5 := Aside0.mk (HB.out.alloc (below_size HB.out) (.cells #[.int .i64 n.f0, .int .i64 n.f1, .string n.f2, .bool n.f3, .string n.f4] 43))
              have HJ5 := Aside0.mk (HJ.out.below ((Below.refl _ _).alloc (Nat.le_refl _) (.cells #[.int .i64 n.f0, .int .i64 n.f1, .string n.f2, .bool n.f3, .string n.f4] 43)))
              have HOG := Aside0.mk (HJ5.out.og _ _ HON.out)
              have HOM := Aside0.mk (HJ5.out.om _ _ HON.out)
              go_wp2_with (first | (at_lookup; refine wl_look2 (K := KI) rfl (.tmp 26) (.tmp 28) 49 rfl Tryz.underlying49 zero51 HJ5.out.h1 n.f1 rfl rfl ?_; rw [HO1.out]; simp only [Option.getD_some, Option.isSome_some]; generalize wr.alloc (.cells #[.int .i64 n.f0, .int .i64 n.f1, .string n.f2, .bool n.f3, .string n.f4] 43) = w5 at HB5 HJ5 hk HOG HOM ⊢; have hc0 := (blk_cell hk 0).trans (show _ = some (Value.int .i64 n.f0) from rfl); have hc1 := (blk_cell hk 1).trans (show _ = some (Value.int .i64 n.f1) from rfl); have hc2 := (blk_cell hk 2).trans (show _ = some (Value.string n.f2) from rfl)))
              obtain ⟨fr, hgu⟩ := HOG.out.2.2
              have hg1 := (blk_cell hgu 1).trans (show _ = some (Value.map (some (m n.f1))) from rfl)
              have hp0 := fun p : Past w5 => Past.cell hc0 p
              have hp2 := fun p : Past w5 => Past.cell hc2 p
              have hpg := fun p : Past w5 => Past.cell hg1 p
              refine wp_region_past (by kernel_rfl) (by kernel_rfl) ?_
              repeat (go_big_quiet_step (fail))
              refine wpQuiet_nil ?_
              rintro _ ⟨p, rfl⟩
              have hb6 := p.h
              generalize p.W = w6 at hb6 ⊢
              have hc1 := pw_cell_below hb6 hc1
              have hc2 := pw_cell_below hb6 hc2
              have hg1 := pw_cell_below hb6 hg1
              have HB6 := Aside0.mk (below_step HB5.out hb6)
              have HJ6 := Aside0.mk (HJ5.out.below hb6)
              have HB56 := Aside0.mk hb6
              have HK6 := Aside0.mk ((hb6.block _ (Array.getElem?_eq_some_iff.1 hk).1).trans hk)
              have HLT6 := Aside0.mk (Array.getElem?_eq_some_iff.1 HK6.out).1
              have HNE := Aside0.mk (show wr.heap.size ≠ m n.f1 from fun e => by obtain ⟨l, c, hb, _⟩ := HOM.out.2.2; rw [← e, hk] at hb; cases hb)
              clear hp0 hp2 hpg hk hc0 hgu hb6
              go_wp2_with (first | (at_lookup; refine wl_look2 (K := KS) rfl (.tmp 72) (.tmp 74) 50 rfl Tryz.underlying50 zeroI HJ6.out.h2 n.f2 rfl rfl ?_; rw [HT.out]; simp only [Option.getD_none, Option.isSome_none]))
              obtain ⟨st1, w7, hme, hg7, hst⟩ := ((HOM.out.2.2.below HB56.out).drew).entry Tryz.underlying53 zeroB n.f2
              obtain ⟨w8, hes, hH8, hg8⟩ := hst (.bool true)
              obtain ⟨w9, hmu, hH9, hg9⟩ := ((HJ6.out.h2.drew).grown hg8 (fun e => Jrn.ne _ HJ6.out.o2 HOM.out.1 (.inr (by decide)) (Option.some.inj e))).put Tryz.underlying50 n.f2 (.int .i64 n.f1)
              have hme : (Instr.mapEntry 53 (.map (some (m n.f1))) (.string n.f2)).run Tryz.prog w6.drew = .ok (.tuple #[(ksF K n.f2).getD (.bool false), .int .i64 st1]) w7 := hme
              have hes : (Instr.entryStore 53 (.map (some (m n.f1))) (.int .i64 st1) (.bool true)).run Tryz.prog w7 = .ok () w8 := hes
              have hmu : (Instr.mapUpdate 50 (.map (some b2)) (.string n.f2) (.int .i64 n.f1)).run Tryz.prog w8 = .ok () w9 := hmu
              have hne7 : wr.heap.size ≠ m n.f1 := HNE.out
              have hk7 := (hg7.block wr.heap.size HLT6.out (fun e => hne7 (Option.some.inj e))).trans HK6.out
              have hk8 := (hg8.block wr.heap.size HLT6.out (fun e => hne7 (Option.some.inj e))).trans HK6.out
              have h71 := (blk_cell hk7 1).trans (show _ = some (Value.int .i64 n.f1) from rfl)
              have h72 := (blk_cell hk7 2).trans (show _ = some (Value.string n.f2) from rfl)
              have h81 := (blk_cell hk8 1).trans (show _ = some (Value.int .i64 n.f1) from rfl)
              have h82 := (blk_cell hk8 2).trans (show _ = some (Value.string n.f2) from rfl)
              have HJ9 := Aside0.mk ((HJ6.out.drew).added n.f1 n.f2 HON.out hH8 hg8 hH9 hg9)
              have HB9 := Aside0.mk ((HB6.out.drew.grown hg8 (below_size HB6.out.drew) (fun k e => by cases e; exact HOM.out.2.1)).grown hg9 (Nat.le_trans (below_size HB6.out.drew) hg8.size) (fun k e => by cases e; exact HJ6.out.l2))
              clear hst hg7 hg8 hg9 hH8 hH9 hk7 hk8 hne7
              go_region
              go_wp2
              go_roundg (gk - 1)
              case measure => have := HQ.out; omega
              case rel => exact ⟨i + 1, _, _, _, _, rfl, by omega, ⟨by have := HQ.out; omega⟩, HS3, HJ9, HB9⟩
            | some o =>
              have HT := Aside0.mk (show tkF st.tk n.f2 = some (.int .i64 o) by unfold tkF; rw [ht]; rfl)
              by_cases ho : o = n.f1
              · skip
                have q1 : (n.f0 == 1) = false := by rw [k2]; rfl
                have q3 : (n.f0 == 3) = false := by rw [k2]; rfl
                have q2 : (n.f0 == 2) = true := by rw [k2]; rfl
                have q4 : (n.f0 == 4) = false := by rw [k2]; rfl
                have q5 : (n.f0 == 5) = false := by rw [k2]; rfl
                have q7 : (n.f0 == 7) = false := by rw [k2]; rfl
                have q6 : (n.f0 != 6) = true := by rw [k2]; rfl
                have q4n : (n.f0 != 4) = true := by rw [k2]; rfl
                have qo : (o != n.f1) = false := by rw [ho]; simp
                have HS3 := Aside0.mk ((wrongFrom_inr (wrongStep_k hk' HON.out (.inr (ho ▸ ht)))).symm.trans HS2.out)
                clear k1 k6 HS2 hk' ht ho
                clear k2 k3
                have hk := heap_alloc_new wr (.cells #[.int .i64 n.f0, .int .i64 n.f1, .string n.f2, .bool n.f3, .string n.f4] 43)
                have HB5 := Aside0.mk (HB.out.alloc (below_size HB.out) (.cells #[.int .i64 n.f0, .int .i64 n.f1, .string n.f2, .bool n.f3, .string n.f4] 43))
                have HJ5 := Aside0.mk (HJ.out.below ((Below.refl _ _).alloc (Nat.le_refl _) (.cells #[.int .i64 n.f0, .int .i64 n.f1, .string n.f2, .bool n.f3, .string n.f4] 43)))
                have HOG := Aside0.mk (HJ5.out.og _ _ HON.out)
                have HOM := Aside0.mk (HJ5.out.om _ _ HON.out)
                go_wp2_with (first | (at_lookup; refine wl_look2 (K := KI) rfl (.tmp 26) (.tmp 28) 49 rfl Tryz.underlying49 zero51 HJ5.out.h1 n.f1 rfl rfl ?_; rw [HO1.out]; simp only [Option.getD_some, Option.isSome_some]; generalize wr.alloc (.cells #[.int .i64 n.f0, .int .i64 n.f1, .string n.f2, .bool n.f3, .string n.f4] 43) = w5 at HB5 HJ5 hk HOG HOM ⊢; have hc0 := (blk_cell hk 0).trans (show _ = some (Value.int .i64 n.f0) from rfl); have hc1 := (blk_cell hk 1).trans (show _ = some (Value.int .i64 n.f1) from rfl); have hc2 := (blk_cell hk 2).trans (show _ = some (Value.string n.f2) from rfl)))
                obtain ⟨fr, hgu⟩ := HOG.out.2.2
                have hg1 := (blk_cell hgu 1).trans (show _ = some (Value.map (some (m n.f1))) from rfl)
                have hp0 := fun p : Past w5 => Past.cell hc0 p
                have hp2 := fun p : Past w5 => Past.cell hc2 p
                have hpg := fun p : Past w5 => Past.cell hg1 p
                refine wp_region_past (by kernel_rfl) (by kernel_rfl) ?_
                repeat (go_big_quiet_step (fail))
                refine wpQuiet_nil ?_
                rintro _ ⟨p, rfl⟩
                have hb6 := p.h
                generalize p.W = w6 at hb6 ⊢
                have hc1 := pw_cell_below hb6 hc1
                have hc2 := pw_cell_below hb6 hc2
                have hg1 := pw_cell_below hb6 hg1
                have HB6 := Aside0.mk (below_step HB5.out hb6)
                have HJ6 := Aside0.mk (HJ5.out.below hb6)
                have HB56 := Aside0.mk hb6
                have HK6 := Aside0.mk ((hb6.block _ (Array.getElem?_eq_some_iff.1 hk).1).trans hk)
                have HLT6 := Aside0.mk (Array.getElem?_eq_some_iff.1 HK6.out).1
                have HNE := Aside0.mk (show wr.heap.size ≠ m n.f1 from fun e => by obtain ⟨l, c, hb, _⟩ := HOM.out.2.2; rw [← e, hk] at hb; cases hb)
                clear hp0 hp2 hpg hk hc0 hgu hb6
                go_wp2_with (first | (at_lookup; refine wl_look2 (K := KS) rfl (.tmp 72) (.tmp 74) 50 rfl Tryz.underlying50 zeroI HJ6.out.h2 n.f2 rfl rfl ?_; rw [HT.out]; simp only [Option.getD_some, Option.isSome_some]))
                obtain ⟨st1, w7, hme, hg7, hst⟩ := ((HOM.out.2.2.below HB56.out).drew).entry Tryz.underlying53 zeroB n.f2
                obtain ⟨w8, hes, hH8, hg8⟩ := hst (.bool true)
                obtain ⟨w9, hmu, hH9, hg9⟩ := ((HJ6.out.h2.drew).grown hg8 (fun e => Jrn.ne _ HJ6.out.o2 HOM.out.1 (.inr (by decide)) (Option.some.inj e))).put Tryz.underlying50 n.f2 (.int .i64 n.f1)
                have hme : (Instr.mapEntry 53 (.map (some (m n.f1))) (.string n.f2)).run Tryz.prog w6.drew = .ok (.tuple #[(ksF K n.f2).getD (.bool false), .int .i64 st1]) w7 := hme
                have hes : (Instr.entryStore 53 (.map (some (m n.f1))) (.int .i64 st1) (.bool true)).run Tryz.prog w7 = .ok () w8 := hes
                have hmu : (Instr.mapUpdate 50 (.map (some b2)) (.string n.f2) (.int .i64 n.f1)).run Tryz.prog w8 = .ok () w9 := hmu
                have hne7 : wr.heap.size ≠ m n.f1 := HNE.out
                have hk7 := (hg7.block wr.heap.size HLT6.out (fun e => hne7 (Option.some.inj e))).trans HK6.out
                have hk8 := (hg8.block wr.heap.size HLT6.out (fun e => hne7 (Option.some.inj e))).trans HK6.out
                have h71 := (blk_cell hk7 1).trans (show _ = some (Value.int .i64 n.f1) from rfl)
                have h72 := (blk_cell hk7 2).trans (show _ = some (Value.string n.f2) from rfl)
                have h81 := (blk_cell hk8 1).trans (show _ = some (Value.int .i64 n.f1) from rfl)
                have h82 := (blk_cell hk8 2).trans (show _ = some (Value.string n.f2) from rfl)
                have HJ9 := Aside0.mk ((HJ6.out.drew).added n.f1 n.f2 HON.out hH8 hg8 hH9 hg9)
                have HB9 := Aside0.mk ((HB6.out.drew.grown hg8 (below_size HB6.out.drew) (fun k e => by cases e; exact HOM.out.2.1)).grown hg9 (Nat.le_trans (below_size HB6.out.drew) hg8.size) (fun k e => by cases e; exact HJ6.out.l2))
                clear hst hg7 hg8 hg9 hH8 hH9 hk7 hk8 hne7
                go_region
                go_wp2
                go_roundg (gk - 1)
                case measure => have := HQ.out; omega
                case rel => exact ⟨i + 1, _, _, _, _, rfl, by omega, ⟨by have := HQ.out; omega⟩, HS3, HJ9, HB9⟩
              · skip
                have q1 : (n.f0 == 1) = false := by rw [k2]; rfl
                have q3 : (n.f0 == 3) = false := by rw [k2]; rfl
                have q2 : (n.f0 == 2) = true := by rw [k2]; rfl
                have q4 : (n.f0 == 4) = false := by rw [k2]; rfl
                have q5 : (n.f0 == 5) = false := by rw [k2]; rfl
                have q7 : (n.f0 == 7) = false := by rw [k2]; rfl
                have q6 : (n.f0 != 6) = true := by rw [k2]; rfl
                have q4n : (n.f0 != 4) = true := by rw [k2]; rfl
                have qo : (o != n.f1) = true := bne_iff_ne.2 ho
                obtain ⟨rfl, rfl⟩ := Prod.mk.inj ((wrongFrom_inl (wrongStep_d hk' HON.out ht ho)).symm.trans HS2.out)
                clear k1 k6 HS2 hk' ht ho
                clear k2 k3
                have hk := heap_alloc_new wr (.cells #[.int .i64 n.f0, .int .i64 n.f1, .string n.f2, .bool n.f3, .string n.f4] 43)
                have HB5 := Aside0.mk (HB.out.alloc (below_size HB.out) (.cells #[.int .i64 n.f0, .int .i64 n.f1, .string n.f2, .bool n.f3, .string n.f4] 43))
                have HJ5 := Aside0.mk (HJ.out.below ((Below.refl _ _).alloc (Nat.le_refl _) (.cells #[.int .i64 n.f0, .int .i64 n.f1, .string n.f2, .bool n.f3, .string n.f4] 43)))
                have HOG := Aside0.mk (HJ5.out.og _ _ HON.out)
                have HOM := Aside0.mk (HJ5.out.om _ _ HON.out)
                go_wp2_with (first | (at_lookup; refine wl_look2 (K := KI) rfl (.tmp 26) (.tmp 28) 49 rfl Tryz.underlying49 zero51 HJ5.out.h1 n.f1 rfl rfl ?_; rw [HO1.out]; simp only [Option.getD_some, Option.isSome_some]; generalize wr.alloc (.cells #[.int .i64 n.f0, .int .i64 n.f1, .string n.f2, .bool n.f3, .string n.f4] 43) = w5 at HB5 HJ5 hk HOG HOM ⊢; have hc0 := (blk_cell hk 0).trans (show _ = some (Value.int .i64 n.f0) from rfl); have hc1 := (blk_cell hk 1).trans (show _ = some (Value.int .i64 n.f1) from rfl); have hc2 := (blk_cell hk 2).trans (show _ = some (Value.string n.f2) from rfl)))
                obtain ⟨fr, hgu⟩ := HOG.out.2.2
                have hg1 := (blk_cell hgu 1).trans (show _ = some (Value.map (some (m n.f1))) from rfl)
                have hp0 := fun p : Past w5 => Past.cell hc0 p
                have hp2 := fun p : Past w5 => Past.cell hc2 p
                have hpg := fun p : Past w5 => Past.cell hg1 p
                refine wp_region_past (by kernel_rfl) (by kernel_rfl) ?_
                repeat (go_big_quiet_step (fail))
                refine wpQuiet_nil ?_
                rintro _ ⟨p, rfl⟩
                have hb6 := p.h
                generalize p.W = w6 at hb6 ⊢
                have hc1 := pw_cell_below hb6 hc1
                have hc2 := pw_cell_below hb6 hc2
                have hg1 := pw_cell_below hb6 hg1
                have HB6 := Aside0.mk (below_step HB5.out hb6)
                have HJ6 := Aside0.mk (HJ5.out.below hb6)
                have HB56 := Aside0.mk hb6
                have HK6 := Aside0.mk ((hb6.block _ (Array.getElem?_eq_some_iff.1 hk).1).trans hk)
                have HLT6 := Aside0.mk (Array.getElem?_eq_some_iff.1 HK6.out).1
                have HNE := Aside0.mk (show wr.heap.size ≠ m n.f1 from fun e => by obtain ⟨l, c, hb, _⟩ := HOM.out.2.2; rw [← e, hk] at hb; cases hb)
                clear hp0 hp2 hpg hk hc0 hgu hb6
                go_wp2_with (first | (at_lookup; refine wl_look2 (K := KS) rfl (.tmp 72) (.tmp 74) 50 rfl Tryz.underlying50 zeroI HJ6.out.h2 n.f2 rfl rfl ?_; rw [HT.out]; simp only [Option.getD_some, Option.isSome_some]))
                go_ret2
                exact ⟨rfl, HB6.out⟩
          by_cases k4 : n.f0 = 4
          · skip
            have q1 : (n.f0 == 1) = false := by rw [k4]; rfl
            have q3 : (n.f0 == 3) = false := by rw [k4]; rfl
            have q2 : (n.f0 == 2) = false := by rw [k4]; rfl
            have q4 : (n.f0 == 4) = true := by rw [k4]; rfl
            have q5 : (n.f0 == 5) = false := by rw [k4]; rfl
            have q7 : (n.f0 == 7) = false := by rw [k4]; rfl
            have q6 : (n.f0 != 6) = true := by rw [k4]; rfl
            have q4n : (n.f0 != 4) = false := by rw [k4]; rfl
            have HS3 := Aside0.mk ((wrongFrom_inr (wrongStep_q (by omega) HON.out)).symm.trans HS2.out)
            rw [if_pos k4] at HS3
            clear k1 k2 k3 k4 k6 HS2
            have hk := heap_alloc_new wr (.cells #[.int .i64 n.f0, .int .i64 n.f1, .string n.f2, .bool n.f3, .string n.f4] 43)
            have HB5 := Aside0.mk (HB.out.alloc (below_size HB.out) (.cells #[.int .i64 n.f0, .int .i64 n.f1, .string n.f2, .bool n.f3, .string n.f4] 43))
            have HJ5 := Aside0.mk (HJ.out.below ((Below.refl _ _).alloc (Nat.le_refl _) (.cells #[.int .i64 n.f0, .int .i64 n.f1, .string n.f2, .bool n.f3, .string n.f4] 43)))
            have HOG := Aside0.mk (HJ5.out.og _ _ HON.out)
            have HOM := Aside0.mk (HJ5.out.om _ _ HON.out)
            go_wp2_with (first | (at_lookup; refine wl_look2 (K := KI) rfl (.tmp 26) (.tmp 28) 49 rfl Tryz.underlying49 zero51 HJ5.out.h1 n.f1 rfl rfl ?_; rw [HO1.out]; simp only [Option.getD_some, Option.isSome_some]; generalize wr.alloc (.cells #[.int .i64 n.f0, .int .i64 n.f1, .string n.f2, .bool n.f3, .string n.f4] 43) = w5 at HB5 HJ5 hk HOG HOM ⊢; have hc0 := (blk_cell hk 0).trans (show _ = some (Value.int .i64 n.f0) from rfl); have hc1 := (blk_cell hk 1).trans (show _ = some (Value.int .i64 n.f1) from rfl); have hc2 := (blk_cell hk 2).trans (show _ = some (Value.string n.f2) from rfl)); obtain ⟨fr, hgu⟩ := HOG.out.2.2; have hg1 := (blk_cell hgu 1).trans (show _ = some (Value.map (some (m n.f1))) from rfl) | (at_range; refine wl_range (K := KS) rfl (.tmp 106) 53 rfl Tryz.underlying53 HOM.out.2.2 rfl ?_; intro w6 cnt hR hbl))
            go_frame
            have hb6 := hbl w5.heap.size (Nat.le_refl _)
            have HB6 := Aside0.mk (below_step HB5.out hb6)
            have hlt5 : wr.heap.size < w5.heap.size := (Array.getElem?_eq_some_iff.1 hk).1
            have HT2 := Aside0.mk (show wr.heap.size ≠ b2 from fun e => by obtain ⟨l, c, hb, _⟩ := HJ5.out.h2; rw [← e, hk] at hb; cases hb)
            have HT1 := Aside0.mk (show wr.heap.size ≠ b1 from fun e => by obtain ⟨l, c, hb, _⟩ := HJ5.out.h1; rw [← e, hk] at hb; cases hb)
            obtain ⟨own6, HO6, HJ6⟩ : ∃ own6, Aside0 (own6 w5.heap.size = (0, 4)) ∧ Aside0 (Jrn w6 w.heap.size b1 b2 st.on st.tk g m own6) := ⟨_, ⟨by simp⟩, ⟨HJ5.out.beside hb6⟩⟩
            have HK6 := Aside0.mk ((hb6.block _ hlt5).trans hk)
            have hltr : wr.heap.size < w5.heap.size := hlt5
            have hb2r : b2 < w5.heap.size := HJ5.out.lt2
            have hrw : w.heap.size ≤ w5.heap.size := below_size HB5.out
            clear hbl hb6 hlt5 hk hc0 hc1 hc2 hgu hg1
            generalize w5.heap.size = r at *
            generalize wr.heap.size = tb at *
            have HR := Aside0.mk hR
            clear hR HB5 HJ5 HOG HOM HJ HB HO1
            go_loopg [108] (cnt + 1) (fun kq v108 w' => ∃ (left : ByteArray → Bool) (cn : Nat), Aside0 (kq = cn + 1) ∧ Aside0 (Ranging KS w' r (m n.f1) (ksF K) left cn) ∧ Aside0 (Jrn w' w.heap.size b1 b2 st.on (fun k => if K k = true ∧ left k = false then none else st.tk k) g m own6) ∧ Aside0 (Below w.heap.size w w') ∧ Aside0 (w'.heap[tb]? = some (.cells #[.int .i64 n.f0, .int .i64 n.f1, .string n.f2, .bool n.f3, .string n.f4] 43)))
            case atStart => exact ⟨_, cnt, ⟨rfl⟩, HR, ⟨HJ6.out.congr (fun _ => rfl) (fun k => by show st.tk k = (if K k = true ∧ (ksF K k).isSome = false then none else st.tk k); unfold ksF; cases K k <;> rfl)⟩, HB6, HK6⟩
            case round =>
              clear HR HJ6 HB6 HK6
              obtain ⟨left, cn, HQ2, HR, HJ6, HB6, HK6⟩ := hrel
              rcases HR.out.next 0 with ⟨hl, hrun⟩ | ⟨k0, v0, cn', w8, hcn, hlk, hFk, hrun, hent, hR8, hg8⟩
              · have hrun' : ∀ ty, (Instr.next (.pointer (some ⟨r, 0, none⟩)) false ty).run Tryz.prog wr = .ok (.tuple #[.bool false]) wr := fun _ => hrun
                clear hrun
                have hmm := @run_makeMap Tryz.prog
                have HJ7 := Aside0.mk (HJ6.out.congr (fun _ => rfl) (tk' := fun k => if K k = true then none else st.tk k) (fun k => by simp only [hl k, and_true]))
                clear HJ6 hl HR
                have HOG := Aside0.mk (HJ7.out.og _ _ HON.out)
                obtain ⟨fr, hgu⟩ := HOG.out.2.2
                have HGU := Aside0.mk hgu
                have hltg := (Array.getElem?_eq_some_iff.1 hgu).1
                have hgu' := (heap_alloc_old wr (.map #[] 0) hltg).trans hgu
                have hx0 := (blk_cell hgu' 0).trans (show _ = some (Value.int .i64 fr) from rfl)
                have hx1 := (blk_cell hgu' 1).trans (show _ = some (Value.map (some (m n.f1))) from rfl)
                have hf0 : (wr.alloc (.map #[] 0)).frozen? ⟨g n.f1, 0, none⟩ = false := by unfold World.frozen?; rw [hgu']; rfl
                have hf1 : (wr.alloc (.map #[] 0)).frozen? ⟨g n.f1, 1, none⟩ = false := by unfold World.frozen?; rw [hgu']; rfl
                have htg : tb ≠ g n.f1 := fun e => by have := HK6.out; rw [e, hgu] at this; cases this
                have hltb := (Array.getElem?_eq_some_iff.1 HK6.out).1
                have hW2 := two_cells hgu' (.int .i64 i) (.map (some wr.heap.size))
                have hgr := grown_two (wr.alloc (.map #[] 0)) ⟨g n.f1, 0, none⟩ ⟨g n.f1, 1, none⟩ rfl (.int .i64 i) (.map (some wr.heap.size))
                obtain ⟨m', own', hj8⟩ := HJ7.out.quieted (below_size HB6.out) n.f1 i HON.out ((Below.refl _ wr).alloc (Nat.le_refl _) (.map #[] 0)) (Holds.made KS wr) hW2 hgr
                have HJ8 := Aside0.mk hj8
                have HB8 := Aside0.mk ((HB6.out.alloc (below_size HB6.out) (.map #[] 0)).grown hgr (by have := below_size HB6.out; simp; omega) (fun k e => by cases e; exact HOG.out.2.1))
                have hk8 := (hgr.block tb (by simp; omega) (fun e => htg (Option.some.inj e))).trans ((heap_alloc_old wr (.map #[] 0) hltb).trans HK6.out)
                have HC0' := Aside0.mk ((blk_cell hk8 0).trans (show _ = some (Value.int .i64 n.f0) from rfl))
                have HC1' := Aside0.mk ((blk_cell hk8 1).trans (show _ = some (Value.int .i64 n.f1) from rfl))
                clear hgu hgu' hltg htg hltb hW2 hgr hj8 hk8 HJ7 HB6 HK6 HOG HGU
                go_upto_region 30 with (fail)
                generalize ((wr.alloc (.map #[] 0)).setCell ⟨g n.f1, 0, none⟩ (.int .i64 i)).setCell ⟨g n.f1, 1, none⟩ (.map (some wr.heap.size)) = w9 at HJ8 HB8 HC0' HC1' ⊢
                have hc0 := HC0'.out
                have hc1 := HC1'.out
                clear hx0 hx1 hf0 hf1 HC0' HC1'
                go_wp2
                go_roundg (l0.length - i - 1)
                case measure => have := HQ.out; omega
                case rel => exact ⟨i + 1, _, _, _, _, rfl, by omega, ⟨by have := HQ.out; omega⟩, HS3, HJ8, HB8⟩
              · have hrun' : ∀ ty, (Instr.next (.pointer (some ⟨r, 0, none⟩)) false ty).run Tryz.prog wr = .ok (.tuple #[.bool true, .string k0, v0]) w8 := fun _ => hrun
                have hent' : (Instr.entry (.pointer (some ⟨r, 0, none⟩))).run Tryz.prog w8 = .ok (.tuple #[.string k0, v0]) w8 := hent
                have hKk : K k0 = true := by unfold ksF at hFk; cases hKK : K k0 <;> rw [hKK] at hFk <;> simp at hFk ⊢
                have HJ8 := Aside0.mk (HJ6.out.other HO6.out hg8)
                have HB8 := Aside0.mk (HB6.out.grown hg8 (below_size HB6.out) (fun k e => by cases e; exact hrw))
                have HK8 := Aside0.mk ((hg8.block tb (Array.getElem?_eq_some_iff.1 HK6.out).1 (fun e => by have := Option.some.inj e; omega)).trans HK6.out)
                have HR8 := Aside0.mk hR8
                have HKK := Aside0.mk hKk
                clear hrun hent hFk hlk hKk hR8 hg8 HJ6 HB6 HK6 HR
                go_wp2_with (first | (at_delete; refine wl_drop (K := KS) rfl (.tmp 112) (.tmp 113) 50 9 rfl Tryz.underlying50 HJ8.out.h2 k0 rfl rfl ?_; intro w9 hp9 hg9; have HJ9 := Aside0.mk (HJ8.out.struck (tk' := fun k => if K k = true ∧ (left k && !decide (k = k0)) = false then none else st.tk k) (hp9.congr (fun q => by have := HKK.out; unfold tkF; by_cases hq : q = k0 <;> simp [hq, this])) hg9); have HB9 := Aside0.mk (HB8.out.grown hg9 (below_size HB8.out) (fun k e => by cases e; exact HJ8.out.l2)); have HK9 := Aside0.mk ((hg9.block tb (Array.getElem?_eq_some_iff.1 HK8.out).1 (fun e => HT2.out (Option.some.inj e))).trans HK8.out); have HR9 := Aside0.mk (HR8.out.grown hg9 (fun e => Jrn.ne _ (HJ8.out.om _ _ HON.out).1 HJ8.out.o2 (.inr (by decide)) (Option.some.inj e)) (fun e => by have := Option.some.inj e; omega)); clear hp9 hg9))
                go_roundg (cn' + 1)
                case measure => have := HQ2.out; omega
                case rel => exact ⟨_, cn', ⟨rfl⟩, HR9, HJ9, HB9, HK9⟩
          by_cases k5 : n.f0 = 5
          · skip
            have q1 : (n.f0 == 1) = false := by rw [k5]; rfl
            have q3 : (n.f0 == 3) = false := by rw [k5]; rfl
            have q2 : (n.f0 == 2) = false := by rw [k5]; rfl
            have q4 : (n.f0 == 4) = false := by rw [k5]; rfl
            have q5 : (n.f0 == 5) = true := by rw [k5]; rfl
            have q7 : (n.f0 == 7) = false := by rw [k5]; rfl
            have q6 : (n.f0 != 6) = true := by rw [k5]; rfl
            have q4n : (n.f0 != 4) = true := by rw [k5]; rfl
            have HS3 := Aside0.mk ((wrongFrom_inr (wrongStep_q (by omega) HON.out)).symm.trans HS2.out)
            rw [if_neg k4] at HS3
            clear k1 k2 k3 k4 k5 k6 HS2
            have hk := heap_alloc_new wr (.cells #[.int .i64 n.f0, .int .i64 n.f1, .string n.f2, .bool n.f3, .string n.f4] 43)
            have HB5 := Aside0.mk (HB.out.alloc (below_size HB.out) (.cells #[.int .i64 n.f0, .int .i64 n.f1, .string n.f2, .bool n.f3, .string n.f4] 43))
            have HJ5 := Aside0.mk (HJ.out.below ((Below.refl _ _).alloc (Nat.le_refl _) (.cells #[.int .i64 n.f0, .int .i64 n.f1, .string n.f2, .bool n.f3, .string n.f4] 43)))
            have HOG := Aside0.mk (HJ5.out.og _ _ HON.out)
            have HOM := Aside0.mk (HJ5.out.om _ _ HON.out)
            go_wp2_with (first | (at_lookup; refine wl_look2 (K := KI) rfl (.tmp 26) (.tmp 28) 49 rfl Tryz.underlying49 zero51 HJ5.out.h1 n.f1 rfl rfl ?_; rw [HO1.out]; simp only [Option.getD_some, Option.isSome_some]; generalize wr.alloc (.cells #[.int .i64 n.f0, .int .i64 n.f1, .string n.f2, .bool n.f3, .string n.f4] 43) = w5 at HB5 HJ5 hk HOG HOM ⊢; have hc0 := (blk_cell hk 0).trans (show _ = some (Value.int .i64 n.f0) from rfl); have hc1 := (blk_cell hk 1).trans (show _ = some (Value.int .i64 n.f1) from rfl); have hc2 := (blk_cell hk 2).trans (show _ = some (Value.string n.f2) from rfl)); obtain ⟨fr, hgu⟩ := HOG.out.2.2; have hg1 := (blk_cell hgu 1).trans (show _ = some (Value.map (some (m n.f1))) from rfl) | (at_range; refine wl_range (K := KS) rfl (.tmp 106) 53 rfl Tryz.underlying53 HOM.out.2.2 rfl ?_; intro w6 cnt hR hbl))
            go_frame
            have hb6 := hbl w5.heap.size (Nat.le_refl _)
            have HB6 := Aside0.mk (below_step HB5.out hb6)
            have hlt5 : wr.heap.size < w5.heap.size := (Array.getElem?_eq_some_iff.1 hk).1
            have HT2 := Aside0.mk (show wr.heap.size ≠ b2 from fun e => by obtain ⟨l, c, hb, _⟩ := HJ5.out.h2; rw [← e, hk] at hb; cases hb)
            have HT1 := Aside0.mk (show wr.heap.size ≠ b1 from fun e => by obtain ⟨l, c, hb, _⟩ := HJ5.out.h1; rw [← e, hk] at hb; cases hb)
            obtain ⟨own6, HO6, HJ6⟩ : ∃ own6, Aside0 (own6 w5.heap.size = (0, 4)) ∧ Aside0 (Jrn w6 w.heap.size b1 b2 st.on st.tk g m own6) := ⟨_, ⟨by simp⟩, ⟨HJ5.out.beside hb6⟩⟩
            have HK6 := Aside0.mk ((hb6.block _ hlt5).trans hk)
            have hltr : wr.heap.size < w5.heap.size := hlt5
            have hb2r : b2 < w5.heap.size := HJ5.out.lt2
            have hrw : w.heap.size ≤ w5.heap.size := below_size HB5.out
            clear hbl hb6 hlt5 hk hc0 hc1 hc2 hgu hg1
            generalize w5.heap.size = r at *
            generalize wr.heap.size = tb at *
            have HR := Aside0.mk hR
            clear hR HB5 HJ5 HOG HOM HJ HB HO1
            go_loopg [108] (cnt + 1) (fun kq v108 w' => ∃ (left : ByteArray → Bool) (cn : Nat), Aside0 (kq = cn + 1) ∧ Aside0 (Ranging KS w' r (m n.f1) (ksF K) left cn) ∧ Aside0 (Jrn w' w.heap.size b1 b2 st.on (fun k => if K k = true ∧ left k = false then none else st.tk k) g m own6) ∧ Aside0 (Below w.heap.size w w') ∧ Aside0 (w'.heap[tb]? = some (.cells #[.int .i64 n.f0, .int .i64 n.f1, .string n.f2, .bool n.f3, .string n.f4] 43)))
            case atStart => exact ⟨_, cnt, ⟨rfl⟩, HR, ⟨HJ6.out.congr (fun _ => rfl) (fun k => by show st.tk k = (if K k = true ∧ (ksF K k).isSome = false then none else st.tk k); unfold ksF; cases K k <;> rfl)⟩, HB6, HK6⟩
            case round =>
              clear HR HJ6 HB6 HK6
              obtain ⟨left, cn, HQ2, HR, HJ6, HB6, HK6⟩ := hrel
              rcases HR.out.next 0 with ⟨hl, hrun⟩ | ⟨k0, v0, cn', w8, hcn, hlk, hFk, hrun, hent, hR8, hg8⟩
              · have hrun' : ∀ ty, (Instr.next (.pointer (some ⟨r, 0, none⟩)) false ty).run Tryz.prog wr = .ok (.tuple #[.bool false]) wr := fun _ => hrun
                clear hrun
                have hmm := @run_makeMap Tryz.prog
                have HJ7 := Aside0.mk (HJ6.out.congr (fun _ => rfl) (tk' := fun k => if K k = true then none else st.tk k) (fun k => by simp only [hl k, and_true]))
                clear HJ6 hl HR
                have HOG := Aside0.mk (HJ7.out.og _ _ HON.out)
                obtain ⟨fr, hgu⟩ := HOG.out.2.2
                have HGU := Aside0.mk hgu
                have hltg := (Array.getElem?_eq_some_iff.1 hgu).1
                have hgu' := (heap_alloc_old wr (.map #[] 0) hltg).trans hgu
                have hx0 := (blk_cell hgu' 0).trans (show _ = some (Value.int .i64 fr) from rfl)
                have hx1 := (blk_cell hgu' 1).trans (show _ = some (Value.map (some (m n.f1))) from rfl)
                have hf0 : (wr.alloc (.map #[] 0)).frozen? ⟨g n.f1, 0, none⟩ = false := by unfold World.frozen?; rw [hgu']; rfl
                have hf1 : (wr.alloc (.map #[] 0)).frozen? ⟨g n.f1, 1, none⟩ = false := by unfold World.frozen?; rw [hgu']; rfl
                have htg : tb ≠ g n.f1 := fun e => by have := HK6.out; rw [e, hgu] at this; cases this
                have hltb := (Array.getElem?_eq_some_iff.1 HK6.out).1
                have hW2 := two_cells hgu' (.int .i64 i) (.map (some wr.heap.size))
                have hgr := grown_two (wr.alloc (.map #[] 0)) ⟨g n.f1, 0, none⟩ ⟨g n.f1, 1, none⟩ rfl (.int .i64 i) (.map (some wr.heap.size))
                obtain ⟨m', own', hj8⟩ := HJ7.out.quieted (below_size HB6.out) n.f1 i HON.out ((Below.refl _ wr).alloc (Nat.le_refl _) (.map #[] 0)) (Holds.made KS wr) hW2 hgr
                have HJ8 := Aside0.mk hj8
                have HB8 := Aside0.mk ((HB6.out.alloc (below_size HB6.out) (.map #[] 0)).grown hgr (by have := below_size HB6.out; simp; omega) (fun k e => by cases e; exact HOG.out.2.1))
                have hk8 := (hgr.block tb (by simp; omega) (fun e => htg (Option.some.inj e))).trans ((heap_alloc_old wr (.map #[] 0) hltb).trans HK6.out)
                have HC0' := Aside0.mk ((blk_cell hk8 0).trans (show _ = some (Value.int .i64 n.f0) from rfl))
                have HC1' := Aside0.mk ((blk_cell hk8 1).trans (show _ = some (Value.int .i64 n.f1) from rfl))
                clear hgu hgu' hltg htg hltb hW2 hgr hj8 hk8 HJ7 HB6 HK6 HOG HGU
                go_upto_region 30 with (fail)
                generalize ((wr.alloc (.map #[] 0)).setCell ⟨g n.f1, 0, none⟩ (.int .i64 i)).setCell ⟨g n.f1, 1, none⟩ (.map (some wr.heap.size)) = w9 at HJ8 HB8 HC0' HC1' ⊢
                have hc0 := HC0'.out
                have hc1 := HC1'.out
                clear hx0 hx1 hf0 hf1 HC0' HC1'
                go_wp2_with (first | (at_delete; refine wl_drop (K := KI) rfl (.tmp 125) (.tmp 127) 49 3 rfl Tryz.underlying49 HJ8.out.h1 n.f1 rfl rfl ?_; intro w10 hp10 hg10; have HJ9 := Aside0.mk ((HJ8.out.ended n.f1 hp10 hg10).congr (on' := fun v => if v = n.f1 then none else st.on v) (fun v => by by_cases hv : v = n.f1 <;> simp [hv]) (fun _ => rfl)); have HB9 := Aside0.mk (HB8.out.grown hg10 (below_size HB8.out) (fun k e => by cases e; exact HJ8.out.l1)); clear hp10 hg10))
                go_roundg (l0.length - i - 1)
                case measure => have := HQ.out; omega
                case rel => exact ⟨i + 1, _, _, _, _, rfl, by omega, ⟨by have := HQ.out; omega⟩, HS3, HJ9, HB9⟩
              · have hrun' : ∀ ty, (Instr.next (.pointer (some ⟨r, 0, none⟩)) false ty).run Tryz.prog wr = .ok (.tuple #[.bool true, .string k0, v0]) w8 := fun _ => hrun
                have hent' : (Instr.entry (.pointer (some ⟨r, 0, none⟩))).run Tryz.prog w8 = .ok (.tuple #[.string k0, v0]) w8 := hent
                have hKk : K k0 = true := by unfold ksF at hFk; cases hKK : K k0 <;> rw [hKK] at hFk <;> simp at hFk ⊢
                have HJ8 := Aside0.mk (HJ6.out.other HO6.out hg8)
                have HB8 := Aside0.mk (HB6.out.grown hg8 (below_size HB6.out) (fun k e => by cases e; exact hrw))
                have HK8 := Aside0.mk ((hg8.block tb (Array.getElem?_eq_some_iff.1 HK6.out).1 (fun e => by have := Option.some.inj e; omega)).trans HK6.out)
                have HR8 := Aside0.mk hR8
                have HKK := Aside0.mk hKk
                clear hrun hent hFk hlk hKk hR8 hg8 HJ6 HB6 HK6 HR
                go_wp2_with (first | (at_delete; refine wl_drop (K := KS) rfl (.tmp 112) (.tmp 113) 50 9 rfl Tryz.underlying50 HJ8.out.h2 k0 rfl rfl ?_; intro w9 hp9 hg9; have HJ9 := Aside0.mk (HJ8.out.struck (tk' := fun k => if K k = true ∧ (left k && !decide (k = k0)) = false then none else st.tk k) (hp9.congr (fun q => by have := HKK.out; unfold tkF; by_cases hq : q = k0 <;> simp [hq, this])) hg9); have HB9 := Aside0.mk (HB8.out.grown hg9 (below_size HB8.out) (fun k e => by cases e; exact HJ8.out.l2)); have HK9 := Aside0.mk ((hg9.block tb (Array.getElem?_eq_some_iff.1 HK8.out).1 (fun e => HT2.out (Option.some.inj e))).trans HK8.out); have HR9 := Aside0.mk (HR8.out.grown hg9 (fun e => Jrn.ne _ (HJ8.out.om _ _ HON.out).1 HJ8.out.o2 (.inr (by decide)) (Option.some.inj e)) (fun e => by have := Option.some.inj e; omega)); clear hp9 hg9))
                go_roundg (cn' + 1)
                case measure => have := HQ2.out; omega
                case rel => exact ⟨_, cn', ⟨rfl⟩, HR9, HJ9, HB9, HK9⟩
          by_cases k7 : n.f0 = 7
          · skip
            have q1 : (n.f0 == 1) = false := by rw [k7]; rfl
            have q3 : (n.f0 == 3) = false := by rw [k7]; rfl
            have q2 : (n.f0 == 2) = false := by rw [k7]; rfl
            have q4 : (n.f0 == 4) = false := by rw [k7]; rfl
            have q5 : (n.f0 == 5) = false := by rw [k7]; rfl
            have q7 : (n.f0 == 7) = true := by rw [k7]; rfl
            have q6 : (n.f0 != 6) = true := by rw [k7]; rfl
            have q4n : (n.f0 != 4) = true := by rw [k7]; rfl
            have HS3 := Aside0.mk ((wrongFrom_inr (wrongStep_q (by omega) HON.out)).symm.trans HS2.out)
            rw [if_neg k4] at HS3
            clear k1 k2 k3 k4 k5 k7 k6 HS2
            have hk := heap_alloc_new wr (.cells #[.int .i64 n.f0, .int .i64 n.f1, .string n.f2, .bool n.f3, .string n.f4] 43)
            have HB5 := Aside0.mk (HB.out.alloc (below_size HB.out) (.cells #[.int .i64 n.f0, .int .i64 n.f1, .string n.f2, .bool n.f3, .string n.f4] 43))
            have HJ5 := Aside0.mk (HJ.out.below ((Below.refl _ _).alloc (Nat.le_refl _) (.cells #[.int .i64 n.f0, .int .i64 n.f1, .string n.f2, .bool n.f3, .string n.f4] 43)))
            have HOG := Aside0.mk (HJ5.out.og _ _ HON.out)
            have HOM := Aside0.mk (HJ5.out.om _ _ HON.out)
            go_wp2_with (first | (at_lookup; refine wl_look2 (K := KI) rfl (.tmp 26) (.tmp 28) 49 rfl Tryz.underlying49 zero51 HJ5.out.h1 n.f1 rfl rfl ?_; rw [HO1.out]; simp only [Option.getD_some, Option.isSome_some]; generalize wr.alloc (.cells #[.int .i64 n.f0, .int .i64 n.f1, .string n.f2, .bool n.f3, .string n.f4] 43) = w5 at HB5 HJ5 hk HOG HOM ⊢; have hc0 := (blk_cell hk 0).trans (show _ = some (Value.int .i64 n.f0) from rfl); have hc1 := (blk_cell hk 1).trans (show _ = some (Value.int .i64 n.f1) from rfl); have hc2 := (blk_cell hk 2).trans (show _ = some (Value.string n.f2) from rfl)); obtain ⟨fr, hgu⟩ := HOG.out.2.2; have hg1 := (blk_cell hgu 1).trans (show _ = some (Value.map (some (m n.f1))) from rfl) | (at_range; refine wl_range (K := KS) rfl (.tmp 106) 53 rfl Tryz.underlying53 HOM.out.2.2 rfl ?_; intro w6 cnt hR hbl))
            go_frame
            have hb6 := hbl w5.heap.size (Nat.le_refl _)
            have HB6 := Aside0.mk (below_step HB5.out hb6)
            have hlt5 : wr.heap.size < w5.heap.size := (Array.getElem?_eq_some_iff.1 hk).1
            have HT2 := Aside0.mk (show wr.heap.size ≠ b2 from fun e => by obtain ⟨l, c, hb, _⟩ := HJ5.out.h2; rw [← e, hk] at hb; cases hb)
            have HT1 := Aside0.mk (show wr.heap.size ≠ b1 from fun e => by obtain ⟨l, c, hb, _⟩ := HJ5.out.h1; rw [← e, hk] at hb; cases hb)
            obtain ⟨own6, HO6, HJ6⟩ : ∃ own6, Aside0 (own6 w5.heap.size = (0, 4)) ∧ Aside0 (Jrn w6 w.heap.size b1 b2 st.on st.tk g m own6) := ⟨_, ⟨by simp⟩, ⟨HJ5.out.beside hb6⟩⟩
            have HK6 := Aside0.mk ((hb6.block _ hlt5).trans hk)
            have hltr : wr.heap.size < w5.heap.size := hlt5
            have hb2r : b2 < w5.heap.size := HJ5.out.lt2
            have hrw : w.heap.size ≤ w5.heap.size := below_size HB5.out
            clear hbl hb6 hlt5 hk hc0 hc1 hc2 hgu hg1
            generalize w5.heap.size = r at *
            generalize wr.heap.size = tb at *
            have HR := Aside0.mk hR
            clear hR HB5 HJ5 HOG HOM HJ HB HO1
            go_loopg [108] (cnt + 1) (fun kq v108 w' => ∃ (left : ByteArray → Bool) (cn : Nat), Aside0 (kq = cn + 1) ∧ Aside0 (Ranging KS w' r (m n.f1) (ksF K) left cn) ∧ Aside0 (Jrn w' w.heap.size b1 b2 st.on (fun k => if K k = true ∧ left k = false then none else st.tk k) g m own6) ∧ Aside0 (Below w.heap.size w w') ∧ Aside0 (w'.heap[tb]? = some (.cells #[.int .i64 n.f0, .int .i64 n.f1, .string n.f2, .bool n.f3, .string n.f4] 43)))
            case atStart => exact ⟨_, cnt, ⟨rfl⟩, HR, ⟨HJ6.out.congr (fun _ => rfl) (fun k => by show st.tk k = (if K k = true ∧ (ksF K k).isSome = false then none else st.tk k); unfold ksF; cases K k <;> rfl)⟩, HB6, HK6⟩
            case round =>
              clear HR HJ6 HB6 HK6
              obtain ⟨left, cn, HQ2, HR, HJ6, HB6, HK6⟩ := hrel
              rcases HR.out.next 0 with ⟨hl, hrun⟩ | ⟨k0, v0, cn', w8, hcn, hlk, hFk, hrun, hent, hR8, hg8⟩
              · have hrun' : ∀ ty, (Instr.next (.pointer (some ⟨r, 0, none⟩)) false ty).run Tryz.prog wr = .ok (.tuple #[.bool false]) wr := fun _ => hrun
                clear hrun
                have hmm := @run_makeMap Tryz.prog
                have HJ7 := Aside0.mk (HJ6.out.congr (fun _ => rfl) (tk' := fun k => if K k = true then none else st.tk k) (fun k => by simp only [hl k, and_true]))
                clear HJ6 hl HR
                have HOG := Aside0.mk (HJ7.out.og _ _ HON.out)
                obtain ⟨fr, hgu⟩ := HOG.out.2.2
                have HGU := Aside0.mk hgu
                have hltg := (Array.getElem?_eq_some_iff.1 hgu).1
                have hgu' := (heap_alloc_old wr (.map #[] 0) hltg).trans hgu
                have hx0 := (blk_cell hgu' 0).trans (show _ = some (Value.int .i64 fr) from rfl)
                have hx1 := (blk_cell hgu' 1).trans (show _ = some (Value.map (some (m n.f1))) from rfl)
                have hf0 : (wr.alloc (.map #[] 0)).frozen? ⟨g n.f1, 0, none⟩ = false := by unfold World.frozen?; rw [hgu']; rfl
                have hf1 : (wr.alloc (.map #[] 0)).frozen? ⟨g n.f1, 1, none⟩ = false := by unfold World.frozen?; rw [hgu']; rfl
                have htg : tb ≠ g n.f1 := fun e => by have := HK6.out; rw [e, hgu] at this; cases this
                have hltb := (Array.getElem?_eq_some_iff.1 HK6.out).1
                have hW2 := two_cells hgu' (.int .i64 i) (.map (some wr.heap.size))
                have hgr := grown_two (wr.alloc (.map #[] 0)) ⟨g n.f1, 0, none⟩ ⟨g n.f1, 1, none⟩ rfl (.int .i64 i) (.map (some wr.heap.size))
                obtain ⟨m', own', hj8⟩ := HJ7.out.quieted (below_size HB6.out) n.f1 i HON.out ((Below.refl _ wr).alloc (Nat.le_refl _) (.map #[] 0)) (Holds.made KS wr) hW2 hgr
                have HJ8 := Aside0.mk hj8
                have HB8 := Aside0.mk ((HB6.out.alloc (below_size HB6.out) (.map #[] 0)).grown hgr (by have := below_size HB6.out; simp; omega) (fun k e => by cases e; exact HOG.out.2.1))
                have hk8 := (hgr.block tb (by simp; omega) (fun e => htg (Option.some.inj e))).trans ((heap_alloc_old wr (.map #[] 0) hltb).trans HK6.out)
                have HC0' := Aside0.mk ((blk_cell hk8 0).trans (show _ = some (Value.int .i64 n.f0) from rfl))
                have HC1' := Aside0.mk ((blk_cell hk8 1).trans (show _ = some (Value.int .i64 n.f1) from rfl))
                clear hgu hgu' hltg htg hltb hW2 hgr hj8 hk8 HJ7 HB6 HK6 HOG HGU
                go_upto_region 30 with (fail)
                generalize ((wr.alloc (.map #[] 0)).setCell ⟨g n.f1, 0, none⟩ (.int .i64 i)).setCell ⟨g n.f1, 1, none⟩ (.map (some wr.heap.size)) = w9 at HJ8 HB8 HC0' HC1' ⊢
                have hc0 := HC0'.out
                have hc1 := HC1'.out
                clear hx0 hx1 hf0 hf1 HC0' HC1'
                go_wp2_with (first | (at_delete; refine wl_drop (K := KI) rfl (.tmp 125) (.tmp 127) 49 3 rfl Tryz.underlying49 HJ8.out.h1 n.f1 rfl rfl ?_; intro w10 hp10 hg10; have HJ9 := Aside0.mk ((HJ8.out.ended n.f1 hp10 hg10).congr (on' := fun v => if v = n.f1 then none else st.on v) (fun v => by by_cases hv : v = n.f1 <;> simp [hv]) (fun _ => rfl)); have HB9 := Aside0.mk (HB8.out.grown hg10 (below_size HB8.out) (fun k e => by cases e; exact HJ8.out.l1)); clear hp10 hg10))
                go_roundg (l0.length - i - 1)
                case measure => have := HQ.out; omega
                case rel => exact ⟨i + 1, _, _, _, _, rfl, by omega, ⟨by have := HQ.out; omega⟩, HS3, HJ9, HB9⟩
              · have hrun' : ∀ ty, (Instr.next (.pointer (some ⟨r, 0, none⟩)) false ty).run Tryz.prog wr = .ok (.tuple #[.bool true, .string k0, v0]) w8 := fun _ => hrun
                have hent' : (Instr.entry (.pointer (some ⟨r, 0, none⟩))).run Tryz.prog w8 = .ok (.tuple #[.string k0, v0]) w8 := hent
                have hKk : K k0 = true := by unfold ksF at hFk; cases hKK : K k0 <;> rw [hKK] at hFk <;> simp at hFk ⊢
                have HJ8 := Aside0.mk (HJ6.out.other HO6.out hg8)
                have HB8 := Aside0.mk (HB6.out.grown hg8 (below_size HB6.out) (fun k e => by cases e; exact hrw))
                have HK8 := Aside0.mk ((hg8.block tb (Array.getElem?_eq_some_iff.1 HK6.out).1 (fun e => by have := Option.some.inj e; omega)).trans HK6.out)
                have HR8 := Aside0.mk hR8
                have HKK := Aside0.mk hKk
                clear hrun hent hFk hlk hKk hR8 hg8 HJ6 HB6 HK6 HR
                go_wp2_with (first | (at_delete; refine wl_drop (K := KS) rfl (.tmp 112) (.tmp 113) 50 9 rfl Tryz.underlying50 HJ8.out.h2 k0 rfl rfl ?_; intro w9 hp9 hg9; have HJ9 := Aside0.mk (HJ8.out.struck (tk' := fun k => if K k = true ∧ (left k && !decide (k = k0)) = false then none else st.tk k) (hp9.congr (fun q => by have := HKK.out; unfold tkF; by_cases hq : q = k0 <;> simp [hq, this])) hg9); have HB9 := Aside0.mk (HB8.out.grown hg9 (below_size HB8.out) (fun k e => by cases e; exact HJ8.out.l2)); have HK9 := Aside0.mk ((hg9.block tb (Array.getElem?_eq_some_iff.1 HK8.out).1 (fun e => HT2.out (Option.some.inj e))).trans HK8.out); have HR9 := Aside0.mk (HR8.out.grown hg9 (fun e => Jrn.ne _ (HJ8.out.om _ _ HON.out).1 HJ8.out.o2 (.inr (by decide)) (Option.some.inj e)) (fun e => by have := Option.some.inj e; omega)); clear hp9 hg9))
                go_roundg (cn' + 1)
                case measure => have := HQ2.out; omega
                case rel => exact ⟨_, cn', ⟨rfl⟩, HR9, HJ9, HB9, HK9⟩
          have HS3 := Aside0.mk ((wrongFrom_inr (wrongStep_x k1 k2 k3 k4 k5 k7 HON.out)).symm.trans HS2.out)
          have q1 : (n.f0 == 1) = false := beq_eq_false_iff_ne.2 k1
          have q2 : (n.f0 == 2) = false := beq_eq_false_iff_ne.2 k2
          have q3 : (n.f0 == 3) = false := beq_eq_false_iff_ne.2 k3
          have q4 : (n.f0 == 4) = false := beq_eq_false_iff_ne.2 k4
          have q5 : (n.f0 == 5) = false := beq_eq_false_iff_ne.2 k5
          have q7 : (n.f0 == 7) = false := beq_eq_false_iff_ne.2 k7
          clear k1 k2 k3 k4 k5 k6 k7 HS2
          go_wp2_with (first | (at_lookup; refine wl_look2 (K := KI) rfl (.tmp 26) (.tmp 28) 49 rfl Tryz.underlying49 zero51 (HJ.out.h1.alloc _) n.f1 rfl rfl ?_; rw [HO1.out]; simp only [Option.getD_some, Option.isSome_some]))
          go_roundg (gk - 1)
          case measure => have := HQ.out; omega
          case rel => exact ⟨i + 1, _, _, _, _, rfl, by omega, ⟨by have := HQ.out; omega⟩, HS3, ⟨HJ.out.below ((Below.refl _ _).alloc (Nat.le_refl _) _)⟩, ⟨HB.out.alloc (below_size HB.out) _⟩⟩
    · have hi : i = l0.length := by omega
      subst hi
      obtain ⟨rfl, rfl⟩ := Prod.mk.inj (show ((-1, 0) : Int × Int) = (r1, r2) by rw [← HS.out, List.drop_length]; rfl)
      clear HS
      go_wp2
      go_ret2
      exact ⟨rfl, HB.out⟩
theorem journal_Wrong.calls (A0 : Option Addr) (c0 : Nat) (l0 : List (S43)) (r1 : Int) (r2 : Int) (w : World) (hr0 : Kd.C k43 w A0 l0.length l0) (hc0 : l0.length ≤ c0) (h : journal_Wrong.f l0 = some (r1, r2)) :
    Calls Tryz.prog 6 #[.slice A0 l0.length c0] w fun e w' => e = .returned (.tuple #[.int .i64 r1, .int .i64 r2]) ∧ Below w.heap.size w w' := by
  unfold journal_Wrong.f at h
  by_cases hv : l0.length ≤ 1000 ∧ l0.all vld = true
  · rw [if_pos hv] at h
    exact wrong_yes A0 c0 l0 w hr0 hc0 hv.1 hv.2 r1 r2 (Option.some.inj h)
  · rw [if_neg hv] at h
    obtain ⟨rfl, rfl⟩ := Prod.mk.inj (Option.some.inj h)
    exact wrong_no A0 c0 l0 w hr0 hc0 hv
end Go.Proofs.YteblpjnkinghoaaGreat.J
namespace Go.Proofs.YteblpjnkinghoaaGreat.J
open Go.RowKit Go.Proofs.YteblpjnkinghoaaGreatW.PrintWords Go.Proofs.YteblpjnkinghoaaGreatW.PrintLast Go.Proofs.YteblpjnkinghoaaGreatW.PrintMore
attribute [local go_sem] max2_int min2_int max_two min_two max_three min_three max_four min_four   -- for this text's walks alone
set_option linter.unusedVariables false
set_option linter.unusedSimpArgs false
/-! ### journal_right: function 27 -/
def journal_right.f (l0 : List (S43)) : Option (Int) := (journal_Wrong.f l0).bind fun bt171 => (if bt171.2 = 0 then (some bt171.2) else (if bt171.2 = 1 then (some bt171.2) else (some 9)))
set_option maxHeartbeats 8000000 in
set_option maxRecDepth 100000 in
theorem journal_right.calls (A0 : Option Addr) (c0 : Nat) (l0 : List (S43)) (r : Int) (w : World) (hr0 : Kd.C k43 w A0 l0.length l0) (hc0 : l0.length ≤ c0) (h : journal_right.f l0 = some r) :
    Calls Tryz.prog 27 #[.slice A0 l0.length c0] w fun e w' => e = .returned (.int .i64 r) ∧ Below w.heap.size w w' := by
  have HR0 := Aside0.mk hr0
  have HC0 := Aside0.mk hc0
  clear hr0 hc0
  have HB := Aside0.mk (Below.refl w.heap.size w)
  have H : ((journal_Wrong.f l0).bind fun bt171 => (if bt171.2 = 0 then (some bt171.2) else (if bt171.2 = 1 then (some bt171.2) else (some 9)))) = some r := h
  clear h
  replace H := Option.bind_eq_some_iff.mp H
  obtain ⟨⟨t171, t172⟩, A20, H⟩ := H
  replace H : (if t172 = 0 then (some t172) else (if t172 = 1 then (some t172) else (some 9))) = some r := H
  have A2 := Aside0.mk A20
  clear A20
  by_cases c3 : t172 = 0
  · rw [if_pos c3] at H
    have c3b0 : (t172 == 0) = true := beq_iff_eq.mpr c3
    have c3b1 : (t172 != 0) = false := bne_eq_false_iff_eq.mpr c3
    clear c3
    obtain rfl := Option.some.inj H
    go_enter Tryz.func27, Tryz.ntmps27
    go_wp2_with (first | ((with_reducible refine gate_callee (f := 6) rfl ?_); refine goesL_ (some 7) rfl rfl Tryz.func6 (by kernel_rfl) rfl #[.slice A0 l0.length c0] rfl (by (try simp only [List.map_toArray, List.map_cons, List.map_nil]); first | done | rfl | (simp only [List.length_drop, List.length_take]; rfl)) ?_; (with_reducible refine (journal_Wrong.calls _ _ l0 t171 t172 _ ?side1 ?side2 A2.out).mono ?_); (case side1 => repeat (first | exact HR0.out | (with_reducible refine Kd.C_alloc ?_ _) | (with_reducible refine Kd.C_drewN ?_ _) | (with_reducible refine Kd.C_drew ?_))); (case side2 => exact HC0.out); rintro e w4 ⟨rfl, hb⟩; refine ⟨_, rfl, ?_⟩; have n0_ := Aside0.mk (below_step (by repeat (first | (with_reducible first | exact HB.out | apply below_alloc | apply pw_below_drewN | apply below_drew1) | exact HB.out)) hb); clear HB; have HB := n0_; clear n0_; (try clear hb); (try clear hb2); (try clear hk); (try clear hi)))
    go_ret
    exact ⟨by first | rfl | (simp [errW_none, errW_some] <;> rfl) | (simp [*, errW_none, errW_some] <;> rfl), by repeat (first | (with_reducible first | exact HB.out | apply below_alloc | apply pw_below_drewN | apply below_drew1) | exact HB.out)⟩
  · rw [if_neg c3] at H
    have c3b0 : (t172 == 0) = false := beq_eq_false_iff_ne.mpr c3
    have c3b1 : (t172 != 0) = true := bne_iff_ne.mpr c3
    by_cases c5 : t172 = 1
    · rw [if_pos c5] at H
      have c5b0 : (t172 == 1) = true := beq_iff_eq.mpr c5
      have c5b1 : (t172 != 1) = false := bne_eq_false_iff_eq.mpr c5
      clear c5
      obtain rfl := Option.some.inj H
      go_enter Tryz.func27, Tryz.ntmps27
      go_wp2_with (first | ((with_reducible refine gate_callee (f := 6) rfl ?_); refine goesL_ (some 7) rfl rfl Tryz.func6 (by kernel_rfl) rfl #[.slice A0 l0.length c0] rfl (by (try simp only [List.map_toArray, List.map_cons, List.map_nil]); first | done | rfl | (simp only [List.length_drop, List.length_take]; rfl)) ?_; (with_reducible refine (journal_Wrong.calls _ _ l0 t171 t172 _ ?side1 ?side2 A2.out).mono ?_); (case side1 => repeat (first | exact HR0.out | (with_reducible refine Kd.C_alloc ?_ _) | (with_reducible refine Kd.C_drewN ?_ _) | (with_reducible refine Kd.C_drew ?_))); (case side2 => exact HC0.out); rintro e w6 ⟨rfl, hb⟩; refine ⟨_, rfl, ?_⟩; have n0_ := Aside0.mk (below_step (by repeat (first | (with_reducible first | exact HB.out | apply below_alloc | apply pw_below_drewN | apply below_drew1) | exact HB.out)) hb); clear HB; have HB := n0_; clear n0_; (try clear hb); (try clear hb2); (try clear hk); (try clear hi)))
      go_ret
      exact ⟨by first | rfl | (simp [errW_none, errW_some] <;> rfl) | (simp [*, errW_none, errW_some] <;> rfl), by repeat (first | (with_reducible first | exact HB.out | apply below_alloc | apply pw_below_drewN | apply below_drew1) | exact HB.out)⟩
    · rw [if_neg c5] at H
      have c5b0 : (t172 == 1) = false := beq_eq_false_iff_ne.mpr c5
      have c5b1 : (t172 != 1) = true := bne_iff_ne.mpr c5
      obtain rfl := Option.some.inj H
      go_enter Tryz.func27, Tryz.ntmps27
      go_wp2_with (first | ((with_reducible refine gate_callee (f := 6) rfl ?_); refine goesL_ (some 7) rfl rfl Tryz.func6 (by kernel_rfl) rfl #[.slice A0 l0.length c0] rfl (by (try simp only [List.map_toArray, List.map_cons, List.map_nil]); first | done | rfl | (simp only [List.length_drop, List.length_take]; rfl)) ?_; (with_reducible refine (journal_Wrong.calls _ _ l0 t171 t172 _ ?side1 ?side2 A2.out).mono ?_); (case side1 => repeat (first | exact HR0.out | (with_reducible refine Kd.C_alloc ?_ _) | (with_reducible refine Kd.C_drewN ?_ _) | (with_reducible refine Kd.C_drew ?_))); (case side2 => exact HC0.out); rintro e w7 ⟨rfl, hb⟩; refine ⟨_, rfl, ?_⟩; have n0_ := Aside0.mk (below_step (by repeat (first | (with_reducible first | exact HB.out | apply below_alloc | apply pw_below_drewN | apply below_drew1) | exact HB.out)) hb); clear HB; have HB := n0_; clear n0_; (try clear hb); (try clear hb2); (try clear hk); (try clear hi)))
      go_ret
      exact ⟨by first | rfl | (simp [errW_none, errW_some] <;> rfl) | (simp [*, errW_none, errW_some] <;> rfl), by repeat (first | (with_reducible first | exact HB.out | apply below_alloc | apply pw_below_drewN | apply below_drew1) | exact HB.out)⟩

/-! ### journal_asked: function 36 -/
def journal_asked.f (k : Nat) (l0 : List (S43)) (a1 : Int) : Option (Int × Int) := (journal_right.f l0).bind fun t173 => (if t173 = 0 then ((journal_unit.f a1).bind fun t174 => (if t174 = true then ((journal_since.f k l0 a1).bind fun bt175 => (if bt175.2 = true then (some (bt175.1, 0)) else (some (0, 8)))) else (some (0, 7)))) else (some (0, t173)))
theorem journal_asked.mono : ∀ a0 a1 k, LeO (journal_asked.f k a0 a1) (journal_asked.f (k + 1) a0 a1) := by
  intro a0 a1 k
  unfold journal_asked.f
  repeat' first
      | (with_reducible exact journal_since.mono _ _ _)
      | (with_reducible exact LeO.refl _)
      | (with_reducible exact LeO.none _)
      | (with_reducible refine LeO.ite ?_ ?_)
      | (with_reducible refine LeO.bind ?_ (fun _ => ?_))
      | exact journal_since.mono _ _ _
      | exact LeO.none _
      | refine LeO.ite ?_ ?_
      | refine LeO.bind ?_ (fun _ => ?_)
set_option maxHeartbeats 8000000 in
set_option maxRecDepth 100000 in
theorem journal_asked.calls (k : Nat) (A0 : Option Addr) (c0 : Nat) (l0 : List (S43)) (a1 : Int) (r1 : Int) (r2 : Int) (w : World) (hr0 : Kd.C k43 w A0 l0.length l0) (hc0 : l0.length ≤ c0) (h : journal_asked.f k l0 a1 = some (r1, r2)) :
    Calls Tryz.prog 36 #[.slice A0 l0.length c0, .int .i64 a1] w fun e w' => e = .returned (.tuple #[.int .i64 r1, .int .i64 r2]) ∧ Below w.heap.size w w' := by
  have HR0 := Aside0.mk hr0
  have HC0 := Aside0.mk hc0
  clear hr0 hc0
  have HB := Aside0.mk (Below.refl w.heap.size w)
  have H : ((journal_right.f l0).bind fun t173 => (if t173 = 0 then ((journal_unit.f a1).bind fun t174 => (if t174 = true then ((journal_since.f k l0 a1).bind fun bt175 => (if bt175.2 = true then (some (bt175.1, 0)) else (some (0, 8)))) else (some (0, 7)))) else (some (0, t173)))) = some (r1, r2) := h
  clear h
  replace H := Option.bind_eq_some_iff.mp H
  obtain ⟨t173, A30, H⟩ := H
  replace H : (if t173 = 0 then ((journal_unit.f a1).bind fun t174 => (if t174 = true then ((journal_since.f k l0 a1).bind fun bt175 => (if bt175.2 = true then (some (bt175.1, 0)) else (some (0, 8)))) else (some (0, 7)))) else (some (0, t173))) = some (r1, r2) := H
  have A3 := Aside0.mk A30
  clear A30
  by_cases c4 : t173 = 0
  · rw [if_pos c4] at H
    have c4b0 : (t173 == 0) = true := beq_iff_eq.mpr c4
    have c4b1 : (t173 != 0) = false := bne_eq_false_iff_eq.mpr c4
    clear c4
    replace H := Option.bind_eq_some_iff.mp H
    obtain ⟨t174, A50, H⟩ := H
    replace H : (if t174 = true then ((journal_since.f k l0 a1).bind fun bt175 => (if bt175.2 = true then (some (bt175.1, 0)) else (some (0, 8)))) else (some (0, 7))) = some (r1, r2) := H
    have A5 := Aside0.mk A50
    clear A50
    by_cases c6 : t174 = true
    · subst c6
      have H1 : ((journal_since.f k l0 a1).bind fun bt175 => (if bt175.2 = true then (some (bt175.1, 0)) else (some (0, 8)))) = some (r1, r2) := by rw [if_pos rfl] at H; exact H
      clear H
      have H := H1
      clear H1
      replace H := Option.bind_eq_some_iff.mp H
      obtain ⟨⟨t175, t176⟩, A70, H⟩ := H
      replace H : (if t176 = true then (some (t175, 0)) else (some (0, 8))) = some (r1, r2) := H
      have A7 := Aside0.mk A70
      clear A70
      by_cases c8 : t176 = true
      · subst c8
        have H1 : (some (t175, 0)) = some (r1, r2) := by rw [if_pos rfl] at H; exact H
        clear H
        have H := H1
        clear H1
        simp only [Option.some.injEq, Prod.mk.injEq] at H
        obtain ⟨rfl, rfl⟩ := H
        go_enter Tryz.func36, Tryz.ntmps36
        go_wp2_with (first | ((with_reducible refine gate_callee (f := 27) rfl ?_); refine goesL_ (some 10) rfl rfl Tryz.func27 (by kernel_rfl) rfl #[.slice A0 l0.length c0] rfl (by (try simp only [List.map_toArray, List.map_cons, List.map_nil]); first | done | rfl | (simp only [List.length_drop, List.length_take]; rfl)) ?_; (with_reducible refine (journal_right.calls _ _ l0 t173 _ ?side1 ?side2 A3.out).mono ?_); (case side1 => repeat (first | exact HR0.out | (with_reducible refine Kd.C_alloc ?_ _) | (with_reducible refine Kd.C_drewN ?_ _) | (with_reducible refine Kd.C_drew ?_))); (case side2 => exact HC0.out); rintro e w9 ⟨rfl, hb⟩; refine ⟨_, rfl, ?_⟩; have n0_ := Aside0.mk (below_step (by repeat (first | (with_reducible first | exact HB.out | apply below_alloc | apply pw_below_drewN | apply below_drew1) | exact HB.out)) hb); clear HB; have HB := n0_; clear n0_; (try clear hb); (try clear hb2); (try clear hk); (try clear hi)) | ((with_reducible refine gate_callee (f := 49) rfl ?_); refine goesL_ (some 15) rfl rfl Tryz.func49 (by kernel_rfl) rfl #[.int .i64 a1] rfl (by (try simp only [List.map_toArray, List.map_cons, List.map_nil]); first | done | rfl | (simp only [List.length_drop, List.length_take]; rfl)) ?_; (with_reducible refine (journal_unit.calls a1 true _ A5.out).mono ?_); rintro e w' ⟨rfl, ⟨nd, rfl⟩⟩; refine ⟨_, rfl, ?_⟩) | ((with_reducible refine gate_callee (f := 30) rfl ?_); refine goesL_ (some 20) rfl rfl Tryz.func30 (by kernel_rfl) rfl #[.slice A0 l0.length c0, .int .i64 a1] rfl (by (try simp only [List.map_toArray, List.map_cons, List.map_nil]); first | done | rfl | (simp only [List.length_drop, List.length_take]; rfl)) ?_; (with_reducible refine (journal_since.calls k _ _ l0 a1 t175 true _ ?side1 ?side2 A7.out).mono ?_); (case side1 => repeat (first | exact (Kd.C_below HR0.out (by repeat (first | (with_reducible first | exact HB.out | apply below_alloc | apply pw_below_drewN | apply below_drew1) | exact HB.out))) | (with_reducible refine Kd.C_alloc ?_ _) | (with_reducible refine Kd.C_drewN ?_ _) | (with_reducible refine Kd.C_drew ?_))); (case side2 => exact HC0.out); rintro e w10 ⟨rfl, hb⟩; refine ⟨_, rfl, ?_⟩; have n0_ := Aside0.mk (below_step (by repeat (first | (with_reducible first | exact HB.out | apply below_alloc | apply pw_below_drewN | apply below_drew1) | exact HB.out)) hb); clear HB; have HB := n0_; clear n0_; (try clear hb); (try clear hb2); (try clear hk); (try clear hi)))
        go_ret2
        exact ⟨by first | rfl | (simp [errW_none, errW_some] <;> rfl) | (simp [*, errW_none, errW_some] <;> rfl), by repeat (first | (with_reducible first | exact HB.out | apply below_alloc | apply pw_below_drewN | apply below_drew1) | exact HB.out)⟩
      · replace c8 := Bool.eq_false_iff.mpr c8
        subst c8
        have H1 : (some (0, 8)) = some (r1, r2) := by rw [if_neg (show ¬ (false = true) by decide)] at H; exact H
        clear H
        have H := H1
        clear H1
        simp only [Option.some.injEq, Prod.mk.injEq] at H
        obtain ⟨rfl, rfl⟩ := H
        go_enter Tryz.func36, Tryz.ntmps36
        go_wp2_with (first | ((with_reducible refine gate_callee (f := 27) rfl ?_); refine goesL_ (some 10) rfl rfl Tryz.func27 (by kernel_rfl) rfl #[.slice A0 l0.length c0] rfl (by (try simp only [List.map_toArray, List.map_cons, List.map_nil]); first | done | rfl | (simp only [List.length_drop, List.length_take]; rfl)) ?_; (with_reducible refine (journal_right.calls _ _ l0 t173 _ ?side1 ?side2 A3.out).mono ?_); (case side1 => repeat (first | exact HR0.out | (with_reducible refine Kd.C_alloc ?_ _) | (with_reducible refine Kd.C_drewN ?_ _) | (with_reducible refine Kd.C_drew ?_))); (case side2 => exact HC0.out); rintro e w11 ⟨rfl, hb⟩; refine ⟨_, rfl, ?_⟩; have n0_ := Aside0.mk (below_step (by repeat (first | (with_reducible first | exact HB.out | apply below_alloc | apply pw_below_drewN | apply below_drew1) | exact HB.out)) hb); clear HB; have HB := n0_; clear n0_; (try clear hb); (try clear hb2); (try clear hk); (try clear hi)) | ((with_reducible refine gate_callee (f := 49) rfl ?_); refine goesL_ (some 15) rfl rfl Tryz.func49 (by kernel_rfl) rfl #[.int .i64 a1] rfl (by (try simp only [List.map_toArray, List.map_cons, List.map_nil]); first | done | rfl | (simp only [List.length_drop, List.length_take]; rfl)) ?_; (with_reducible refine (journal_unit.calls a1 true _ A5.out).mono ?_); rintro e w' ⟨rfl, ⟨nd, rfl⟩⟩; refine ⟨_, rfl, ?_⟩) | ((with_reducible refine gate_callee (f := 30) rfl ?_); refine goesL_ (some 20) rfl rfl Tryz.func30 (by kernel_rfl) rfl #[.slice A0 l0.length c0, .int .i64 a1] rfl (by (try simp only [List.map_toArray, List.map_cons, List.map_nil]); first | done | rfl | (simp only [List.length_drop, List.length_take]; rfl)) ?_; (with_reducible refine (journal_since.calls k _ _ l0 a1 t175 false _ ?side1 ?side2 A7.out).mono ?_); (case side1 => repeat (first | exact (Kd.C_below HR0.out (by repeat (first | (with_reducible first | exact HB.out | apply below_alloc | apply pw_below_drewN | apply below_drew1) | exact HB.out))) | (with_reducible refine Kd.C_alloc ?_ _) | (with_reducible refine Kd.C_drewN ?_ _) | (with_reducible refine Kd.C_drew ?_))); (case side2 => exact HC0.out); rintro e w12 ⟨rfl, hb⟩; refine ⟨_, rfl, ?_⟩; have n0_ := Aside0.mk (below_step (by repeat (first | (with_reducible first | exact HB.out | apply below_alloc | apply pw_below_drewN | apply below_drew1) | exact HB.out)) hb); clear HB; have HB := n0_; clear n0_; (try clear hb); (try clear hb2); (try clear hk); (try clear hi)))
        go_ret2
        exact ⟨by first | rfl | (simp [errW_none, errW_some] <;> rfl) | (simp [*, errW_none, errW_some] <;> rfl), by repeat (first | (with_reducible first | exact HB.out | apply below_alloc | apply pw_below_drewN | apply below_drew1) | exact HB.out)⟩
    · replace c6 := Bool.eq_false_iff.mpr c6
      subst c6
      have H1 : (some (0, 7)) = some (r1, r2) := by rw [if_neg (show ¬ (false = true) by decide)] at H; exact H
      clear H
      have H := H1
      clear H1
      simp only [Option.some.injEq, Prod.mk.injEq] at H
      obtain ⟨rfl, rfl⟩ := H
      go_enter Tryz.func36, Tryz.ntmps36
      go_wp2_with (first | ((with_reducible refine gate_callee (f := 27) rfl ?_); refine goesL_ (some 10) rfl rfl Tryz.func27 (by kernel_rfl) rfl #[.slice A0 l0.length c0] rfl (by (try simp only [List.map_toArray, List.map_cons, List.map_nil]); first | done | rfl | (simp only [List.length_drop, List.length_take]; rfl)) ?_; (with_reducible refine (journal_right.calls _ _ l0 t173 _ ?side1 ?side2 A3.out).mono ?_); (case side1 => repeat (first | exact HR0.out | (with_reducible refine Kd.C_alloc ?_ _) | (with_reducible refine Kd.C_drewN ?_ _) | (with_reducible refine Kd.C_drew ?_))); (case side2 => exact HC0.out); rintro e w13 ⟨rfl, hb⟩; refine ⟨_, rfl, ?_⟩; have n0_ := Aside0.mk (below_step (by repeat (first | (with_reducible first | exact HB.out | apply below_alloc | apply pw_below_drewN | apply below_drew1) | exact HB.out)) hb); clear HB; have HB := n0_; clear n0_; (try clear hb); (try clear hb2); (try clear hk); (try clear hi)) | ((with_reducible refine gate_callee (f := 49) rfl ?_); refine goesL_ (some 15) rfl rfl Tryz.func49 (by kernel_rfl) rfl #[.int .i64 a1] rfl (by (try simp only [List.map_toArray, List.map_cons, List.map_nil]); first | done | rfl | (simp only [List.length_drop, List.length_take]; rfl)) ?_; (with_reducible refine (journal_unit.calls a1 false _ A5.out).mono ?_); rintro e w' ⟨rfl, ⟨nd, rfl⟩⟩; refine ⟨_, rfl, ?_⟩))
      go_ret2
      exact ⟨by first | rfl | (simp [errW_none, errW_some] <;> rfl) | (simp [*, errW_none, errW_some] <;> rfl), by repeat (first | (with_reducible first | exact HB.out | apply below_alloc | apply pw_below_drewN | apply below_drew1) | exact HB.out)⟩
  · rw [if_neg c4] at H
    have c4b0 : (t173 == 0) = false := beq_eq_false_iff_ne.mpr c4
    have c4b1 : (t173 != 0) = true := bne_iff_ne.mpr c4
    simp only [Option.some.injEq, Prod.mk.injEq] at H
    obtain ⟨rfl, rfl⟩ := H
    go_enter Tryz.func36, Tryz.ntmps36
    go_wp2_with (first | ((with_reducible refine gate_callee (f := 27) rfl ?_); refine goesL_ (some 10) rfl rfl Tryz.func27 (by kernel_rfl) rfl #[.slice A0 l0.length c0] rfl (by (try simp only [List.map_toArray, List.map_cons, List.map_nil]); first | done | rfl | (simp only [List.length_drop, List.length_take]; rfl)) ?_; (with_reducible refine (journal_right.calls _ _ l0 t173 _ ?side1 ?side2 A3.out).mono ?_); (case side1 => repeat (first | exact HR0.out | (with_reducible refine Kd.C_alloc ?_ _) | (with_reducible refine Kd.C_drewN ?_ _) | (with_reducible refine Kd.C_drew ?_))); (case side2 => exact HC0.out); rintro e w14 ⟨rfl, hb⟩; refine ⟨_, rfl, ?_⟩; have n0_ := Aside0.mk (below_step (by repeat (first | (with_reducible first | exact HB.out | apply below_alloc | apply pw_below_drewN | apply below_drew1) | exact HB.out)) hb); clear HB; have HB := n0_; clear n0_; (try clear hb); (try clear hb2); (try clear hk); (try clear hi)))
    go_ret2
    exact ⟨by first | rfl | (simp [errW_none, errW_some] <;> rfl) | (simp [*, errW_none, errW_some] <;> rfl), by repeat (first | (with_reducible first | exact HB.out | apply below_alloc | apply pw_below_drewN | apply below_drew1) | exact HB.out)⟩

end Go.Proofs.YteblpjnkinghoaaGreat.J
/- journal.since and journal.asked, as the printed functions have them, in plain words. -/
namespace Go.Proofs.YteblpjnkinghoaaGreat.J
open Go.RowKit Go.Proofs.YteblpjnkinghoaaGreatW.PrintWords
theorem wrap_next' {k n : Nat} (h : k < n) (hn : n ≤ 9223372036854775807) : wrap64 ((k : Int) + 1) = ((k + 1 : Nat) : Int) := by unfold wrap64; omega
/-- One note of since. -/
def sinceStep (u : Int) (st : Int × Bool) (i : Nat) (n : S43) : Int × Bool :=
  if n.f1 = u then (if n.f0 = 6 then st else if n.f0 = 1 ∨ n.f0 = 4 then ((i : Int), true) else if n.f0 = 5 ∨ n.f0 = 7 then (st.1, false) else st) else st
def sinceFrom (u : Int) : List S43 → Nat → Int × Bool → Int × Bool
  | [], _, st => st
  | n :: l, i, st => sinceFrom u l (i + 1) (sinceStep u st i n)
def sinceV (l : List S43) (u : Int) : Int × Bool := sinceFrom u l 0 (0, false)
theorem since_from (l : List S43) (u : Int) (hl : l.length ≤ 9223372036854775807) : ∀ (d k : Nat), d = l.length - k → k ≤ l.length → ∀ f, 3 * d < f → ∀ st : Int × Bool,
    journal_since.l0 f u st.1 st.2 l (l.length : Int) (k : Int) = some (sinceFrom u (l.drop k) k st)
  | d, k, hd, hk, 0, h, st => by omega
  | 0, k, hd, hk, f + 1, h, st => by
    have : k = l.length := by omega
    subst this
    rw [journal_since.l0, if_neg (by omega), List.drop_length]; rfl
  | d + 1, k, hd, hk, f + 1, h, st => by
    have hlt : k < l.length := by omega
    have next : ∀ (g : Nat) (st' : Int × Bool), f ≤ g + 2 → journal_since.l0 g u st'.1 st'.2 l (l.length : Int) (wrap64 ((k : Int) + 1)) = some (sinceFrom u (l.drop (k + 1)) (k + 1) st') := fun g st' hg => by
      rw [wrap_next' hlt hl]
      exact since_from l u hl d (k + 1) (by omega) (by omega) g (by omega) st'
    obtain ⟨g, rfl⟩ : ∃ g, f = g + 2 := ⟨f - 2, by omega⟩
    rw [drop_rd hlt, sinceFrom, journal_since.l0, if_pos (by omega), if_pos (by omega), if_pos (by omega)]
    generalize rd_T43 l (k : Int) = n
    by_cases h1 : n.f1 = u
    · rw [if_pos h1, journal_since.j1]
      by_cases h6 : n.f0 = 6
      · rw [if_pos (by rw [h6]; rfl)]
        rw [show sinceStep u st k n = st by unfold sinceStep; rw [if_pos h1, if_pos h6]]
        exact next (g + 1) st (by omega)
      · rw [if_neg (by simpa using h6)]
        by_cases hq : n.f0 = 1 ∨ n.f0 = 4
        · have e : sinceStep u st k n = ((k : Int), true) := by unfold sinceStep; rw [if_pos h1, if_neg h6, if_pos hq]
          rw [e]
          rcases hq with hq | hq
          · rw [if_pos hq, journal_since.j2, if_pos (by rw [hq]; rfl)]
            exact next g ((k : Int), true) (by omega)
          · rw [if_neg (by omega), journal_since.j2, if_pos (by rw [hq]; rfl)]
            exact next g ((k : Int), true) (by omega)
        · rw [if_neg (by omega), journal_since.j2, if_neg (by simp; omega)]
          by_cases h5 : n.f0 = 5
          · rw [if_pos h5, show sinceStep u st k n = (st.1, false) by unfold sinceStep; rw [if_pos h1, if_neg h6, if_neg hq, if_pos (.inl h5)]]
            exact next g (st.1, false) (by omega)
          · rw [if_neg h5]
            by_cases h7 : n.f0 = 7
            · rw [if_pos h7, show sinceStep u st k n = (st.1, false) by unfold sinceStep; rw [if_pos h1, if_neg h6, if_neg hq, if_pos (.inr h7)]]
              exact next g (st.1, false) (by omega)
            · rw [if_neg h7, show sinceStep u st k n = st by unfold sinceStep; rw [if_pos h1, if_neg h6, if_neg hq, if_neg (by omega)]]
              exact next g st (by omega)
    · rw [if_neg h1, journal_since.j1, if_pos rfl, show sinceStep u st k n = st by unfold sinceStep; rw [if_neg h1]]
      exact next (g + 1) st (by omega)
theorem since_all (l : List S43) (u : Int) (hl : l.length ≤ 9223372036854775807) : journal_since.f (3 * l.length + 1) l u = some (sinceV l u) := by
  have := since_from l u hl l.length 0 (by omega) (by omega) (3 * l.length + 1) (by omega) (0, false)
  unfold journal_since.f sinceV
  simpa using this
/-- What right answers (right answers nothing where Wrong does not). -/
def rightV (l : List S43) : Int := (journal_right.f l).getD 0
def askedV (l : List S43) (u : Int) : Int × Int :=
  if rightV l = 0 then (if 1 ≤ u ∧ u ≤ 1000 then (if (sinceV l u).2 = true then ((sinceV l u).1, 0) else (0, 8)) else (0, 7)) else (0, rightV l)
theorem asked_all (l : List S43) (u : Int) (hl : rightV l = 0 → l.length ≤ 9223372036854775807) (hr : journal_right.f l = some (rightV l)) : journal_asked.f (3 * l.length + 1) l u = some (askedV l u) := by
  unfold journal_asked.f askedV journal_unit.f
  rw [hr]
  simp only [Option.bind_some]
  by_cases h0 : rightV l = 0
  · rw [if_pos h0, if_pos h0, since_all l u (hl h0)]
    by_cases hs : (sinceV l u).2 = true
    · by_cases h1 : 1 ≤ u <;> by_cases h2 : u ≤ 1000 <;> simp [h1, h2, hs]
    · by_cases h1 : 1 ≤ u <;> by_cases h2 : u ≤ 1000 <;> simp [h1, h2, hs]
  · rw [if_neg h0, if_neg h0]
theorem since_range (u : Int) : ∀ (l : List S43) (i : Nat) (st : Int × Bool), (sinceFrom u l i st).2 = true → (st.2 = true → 0 ≤ st.1 ∧ st.1 < i + l.length) → 0 ≤ (sinceFrom u l i st).1 ∧ (sinceFrom u l i st).1 < i + l.length
  | [], i, st, h, hs => by
    have := hs h
    simpa [sinceFrom] using this
  | n :: l, i, st, h, hs => by
    rw [sinceFrom] at h ⊢
    have := since_range u l (i + 1) (sinceStep u st i n) h (fun h' => by
      unfold sinceStep at h' ⊢
      split
      · split
        · rename_i h1 h6; rw [if_pos h1, if_pos h6] at h'; have := hs h'; simp only [List.length_cons] at this; omega
        · split
          · simp only; omega
          · split
            · rename_i h1 h6 hq h5; rw [if_pos h1, if_neg h6, if_neg hq, if_pos h5] at h'; cases h'
            · rename_i h1 h6 hq h5; rw [if_pos h1, if_neg h6, if_neg hq, if_neg h5] at h'; have := hs h'; simp only [List.length_cons] at this; omega
      · rename_i h1; rw [if_neg h1] at h'; have := hs h'; simp only [List.length_cons] at this; omega)
    simp only [List.length_cons]
    omega
end Go.Proofs.YteblpjnkinghoaaGreat.J

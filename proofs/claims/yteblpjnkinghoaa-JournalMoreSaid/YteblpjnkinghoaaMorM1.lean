/- Lemmas and contracts (part 1) on which the claim's last text leans: The statement JournalMore: More is that of 25.1. No condition. -/
import Derived.Test.YteblpjnkinghoaaProg
import Derived.Below
import Derived.Deep.Draws
import Derived.Deep.AppendLies
import Derived.Maps.AppendAt
import Derived.OwnWalk
import Derived.Laws.BytesArg
import Derived.Laws.MakeOwn
import Derived.Laws.OwnMore
import Derived.Deep.OwnRows
import Derived.Tactics
import Derived.Lib.ConvBytes
import Derived.Laws.Slices
import Derived.WalkKit
import Derived.KernelRfl
import Derived.RowKit3
import Derived.Deep.LoopGhost
import Derived.Deep.QuietTactic
import Derived.BigQuiet
import Derived.WideLaws
import Derived.Deep.DeepCutAuto
import Derived.Deep.CutBlock
import Derived.Deep.RegionHeld3
import Derived.Laws.Rows
import Derived.Lib.AppendStr
import Derived.ArgAppend
import Derived.Laws.IdiomCopy
import Derived.OrdersHeld
import Derived.Laws.BitsLemmas
import Derived.RowKit
import Derived.Recover
import Derived.WalkLawsBesides
import Derived.Laws.EntriesVeiled
import Derived.Laws.DeepStrings4
import Derived.Maps.OwnSet
import Derived.Maps.RangeWalk
import Derived.WideKeyEntry
import Derived.Shelf.Spec.SlicesInsert
import Derived.Laws.CopyOwn
import Derived.Test.YteblpjnkinghoaaMorM0
set_option linter.unusedVariables false
set_option linter.unusedSimpArgs false
namespace Go.Proofs.Yteblpjnkinghoaa.J
open Go.RowKit Go.Proofs.YteblpjnkinghoaaW.PrintWords Go.Proofs.YteblpjnkinghoaaW.PrintLast Go.Proofs.YteblpjnkinghoaaW.PrintMore
attribute [local go_sem] max2_int min2_int max_two min_two max_three min_three max_four min_four   -- for this text's walks alone
set_option linter.unusedVariables false
set_option linter.unusedSimpArgs false
def errW : Option Int → Value
  | none => .nilIface
  | some c => .iface 0 (.int .i64 c)
theorem errW_none : errW none = .nilIface := rfl
theorem errW_some (c : Int) : errW (some c) = .iface 0 (.int .i64 c) := rfl

theorem info5 : (Try.prog.info? 5).map (fun i => (i.zero, i.size, i.bytes)) = some (some (.int .u8 0), 1, 1) := by kernel_rfl
theorem info39 : (Try.prog.info? 39).map (fun i => (i.zero, i.size, i.bytes)) = some (some (.agg #[(.int .i64 0), (.int .i64 0), (.string ⟨#[]⟩), (.bool false), (.string ⟨#[]⟩)]), 5, 56) := by kernel_rfl
theorem info41 : (Try.prog.info? 41).map (fun i => (i.zero, i.size, i.bytes)) = some (some (.agg #[(.string ⟨#[]⟩), (.bool false), (.string ⟨#[]⟩)]), 3, 40) := by kernel_rfl
/-! #### struct type 39 -/
structure S39 where
  f0 : Int
  f1 : Int
  f2 : ByteArray
  f3 : Bool
  f4 : ByteArray
def z39 : S39 := ⟨(0 : Int), (0 : Int), (⟨#[]⟩ : ByteArray), false, (⟨#[]⟩ : ByteArray)⟩
def k39 : Kd S39 := Kd.iso (Kd.pair (Kd.int .i64) (Kd.pair (Kd.int .i64) (Kd.pair Kd.string (Kd.pair Kd.bool Kd.string)))) (fun x : S39 => (x.f0, x.f1, x.f2, x.f3, x.f4))
theorem k39_open {w : World} {x : S39} {cs : List Value} (h : k39.K w x cs) : cs = [.int .i64 x.f0, .int .i64 x.f1, .string x.f2, .bool x.f3, .string x.f4] := by
  obtain ⟨_, _, rfl, rfl, ⟨_, _, rfl, rfl, ⟨_, _, rfl, rfl, ⟨_, _, rfl, rfl, rfl⟩⟩⟩⟩ := h
  exact rfl
theorem k39_mk (w : World) (x : S39)  : k39.K w x [.int .i64 x.f0, .int .i64 x.f1, .string x.f2, .bool x.f3, .string x.f4] := ⟨[.int .i64 x.f0], [.int .i64 x.f1, .string x.f2, .bool x.f3, .string x.f4], rfl, rfl, ⟨[.int .i64 x.f1], [.string x.f2, .bool x.f3, .string x.f4], rfl, rfl, ⟨[.string x.f2], [.bool x.f3, .string x.f4], rfl, rfl, ⟨[.bool x.f3], [.string x.f4], rfl, rfl, rfl⟩⟩⟩⟩
theorem k39_mkM (w : World) (base : Nat) (ok : Nat → Prop) (x : S39)  : k39.M w base ok x [.int .i64 x.f0, .int .i64 x.f1, .string x.f2, .bool x.f3, .string x.f4] := ⟨[.int .i64 x.f0], [.int .i64 x.f1, .string x.f2, .bool x.f3, .string x.f4], rfl, rfl, ⟨[.int .i64 x.f1], [.string x.f2, .bool x.f3, .string x.f4], rfl, rfl, ⟨[.string x.f2], [.bool x.f3, .string x.f4], rfl, rfl, ⟨[.bool x.f3], [.string x.f4], rfl, rfl, rfl⟩⟩⟩⟩
def rd_T39 (xs : List S39) (i : Int) : S39 := xs.getD i.toNat z39
theorem at_T39 {w : World} {A : Option Addr} {n : Nat} {xs : List S39} (h : Kd.C k39 w A n xs) (i : Int) (h0 : 0 ≤ i) (h1 : i < n) : ∃ ad , A = some ad ∧ w.cell? (ad.add (i.toNat * 5)) = some (.int .i64 (rd_T39 xs i).f0) ∧ w.cell? ⟨(ad.add (i.toNat * 5)).block, (ad.add (i.toNat * 5)).off + 1, none⟩ = some (.int .i64 (rd_T39 xs i).f1) ∧ w.cell? ⟨(ad.add (i.toNat * 5)).block, (ad.add (i.toNat * 5)).off + 2, none⟩ = some (.string (rd_T39 xs i).f2) ∧ w.cell? ⟨(ad.add (i.toNat * 5)).block, (ad.add (i.toNat * 5)).off + 3, none⟩ = some (.bool (rd_T39 xs i).f3) ∧ w.cell? ⟨(ad.add (i.toNat * 5)).block, (ad.add (i.toNat * 5)).off + 4, none⟩ = some (.string (rd_T39 xs i).f4) := by
  obtain ⟨ad, c, e, _, hK, hc0⟩ := Kd.C_get h z39 i h0 h1
  have hc : ∀ j u, c[j]? = some u → w.cell? (ad.add (i.toNat * 5 + j)) = some u := hc0
  obtain rfl := k39_open hK
  exact ⟨ad, e, hc 0 _ rfl, by rw [← add_field _ _ 1 (by omega)]; exact hc 1 _ rfl, by rw [← add_field _ _ 2 (by omega)]; exact hc 2 _ rfl, by rw [← add_field _ _ 3 (by omega)]; exact hc 3 _ rfl, by rw [← add_field _ _ 4 (by omega)]; exact hc 4 _ rfl⟩

/-! #### struct type 41 -/
structure S41 where
  f0 : ByteArray
  f1 : Bool
  f2 : ByteArray
def z41 : S41 := ⟨(⟨#[]⟩ : ByteArray), false, (⟨#[]⟩ : ByteArray)⟩
def k41 : Kd S41 := Kd.iso (Kd.pair Kd.string (Kd.pair Kd.bool Kd.string)) (fun x : S41 => (x.f0, x.f1, x.f2))
theorem k41_open {w : World} {x : S41} {cs : List Value} (h : k41.K w x cs) : cs = [.string x.f0, .bool x.f1, .string x.f2] := by
  obtain ⟨_, _, rfl, rfl, ⟨_, _, rfl, rfl, rfl⟩⟩ := h
  exact rfl
theorem k41_openM {w : World} {base : Nat} {ok : Nat → Prop} {x : S41} {cs : List Value} (h : k41.M w base ok x cs) : cs = [.string x.f0, .bool x.f1, .string x.f2] := by
  obtain ⟨_, _, rfl, rfl, ⟨_, _, rfl, rfl, rfl⟩⟩ := h
  exact rfl
theorem k41_mk (w : World) (x : S41)  : k41.K w x [.string x.f0, .bool x.f1, .string x.f2] := ⟨[.string x.f0], [.bool x.f1, .string x.f2], rfl, rfl, ⟨[.bool x.f1], [.string x.f2], rfl, rfl, rfl⟩⟩
theorem k41_mkM (w : World) (base : Nat) (ok : Nat → Prop) (x : S41)  : k41.M w base ok x [.string x.f0, .bool x.f1, .string x.f2] := ⟨[.string x.f0], [.bool x.f1, .string x.f2], rfl, rfl, ⟨[.bool x.f1], [.string x.f2], rfl, rfl, rfl⟩⟩
def rd_T41 (xs : List S41) (i : Int) : S41 := xs.getD i.toNat z41
theorem at_T41 {w : World} {A : Option Addr} {n : Nat} {xs : List S41} (h : Kd.C k41 w A n xs) (i : Int) (h0 : 0 ≤ i) (h1 : i < n) : ∃ ad , A = some ad ∧ w.cell? (ad.add (i.toNat * 3)) = some (.string (rd_T41 xs i).f0) ∧ w.cell? ⟨(ad.add (i.toNat * 3)).block, (ad.add (i.toNat * 3)).off + 1, none⟩ = some (.bool (rd_T41 xs i).f1) ∧ w.cell? ⟨(ad.add (i.toNat * 3)).block, (ad.add (i.toNat * 3)).off + 2, none⟩ = some (.string (rd_T41 xs i).f2) := by
  obtain ⟨ad, c, e, _, hK, hc0⟩ := Kd.C_get h z41 i h0 h1
  have hc : ∀ j u, c[j]? = some u → w.cell? (ad.add (i.toNat * 3 + j)) = some u := hc0
  obtain rfl := k41_open hK
  exact ⟨ad, e, hc 0 _ rfl, by rw [← add_field _ _ 1 (by omega)]; exact hc 1 _ rfl, by rw [← add_field _ _ 2 (by omega)]; exact hc 2 _ rfl⟩

end Go.Proofs.Yteblpjnkinghoaa.J
/- How a function that counts its rounds comes to its value. -/
namespace Go.Proofs.Yteblpjnkinghoaa.J
open Go.RowKit Go.Proofs.YteblpjnkinghoaaW.PrintWords
/-- From some number of rounds on, the value is there. -/
def Ev {α : Type} (g : Nat → Option α) (v : α) : Prop := ∃ K, ∀ k, K ≤ k → g k = some v
namespace Ev
theorem of {α : Type} {g : Nat → Option α} {v : α} (h : ∀ k, g k = some v) : Ev g v := ⟨0, fun k _ => h k⟩
theorem val {α : Type} (v : α) : Ev (fun _ => some v) v := of fun _ => rfl
theorem bind {α β : Type} {f : Nat → Option α} {g : Nat → α → Option β} {a : α} {v : β} (hf : Ev f a) (hg : Ev (fun k => g k a) v) : Ev (fun k => (f k).bind (g k)) v := by
  obtain ⟨K, h⟩ := hf
  obtain ⟨K', h'⟩ := hg
  exact ⟨max K K', fun k hk => by
    have h1 := h k (by omega)
    have h2 := h' k (by omega)
    show (f k).bind (g k) = _
    rw [h1]; exact h2⟩
theorem step {α : Type} {g body : Nat → Option α} {v : α} (e : ∀ k, g (k + 1) = body k) (h : Ev body v) : Ev g v := by
  obtain ⟨K, h⟩ := h
  exact ⟨K + 1, fun k hk => by
    obtain ⟨j, rfl⟩ : ∃ j, k = j + 1 := ⟨k - 1, by omega⟩
    rw [e]; exact h j (by omega)⟩
theorem congr {α : Type} {g body : Nat → Option α} {v : α} (h : Ev body v) (e : ∀ k, g k = body k) : Ev g v := by
  obtain ⟨K, h⟩ := h
  exact ⟨K, fun k hk => (e k).trans (h k hk)⟩
theorem ex {α : Type} {g : Nat → Option α} {v : α} (h : Ev g v) : ∃ k, g k = some v := by
  obtain ⟨K, h⟩ := h
  exact ⟨K, h K (Nat.le_refl _)⟩
end Ev
theorem Ev.mono {α : Type} {g : Nat → Option α} {v : α} (h : ∀ k, LeO (g k) (g (k + 1))) {K : Nat} (hv : g K = some v) : Ev g v := ⟨K, fun _ hk => at_rounds h hk hv⟩
end Go.Proofs.Yteblpjnkinghoaa.J
namespace Go.Proofs.Yteblpjnkinghoaa.J
open Go.RowKit Go.Proofs.YteblpjnkinghoaaW.PrintWords Go.Proofs.YteblpjnkinghoaaW.PrintLast Go.Proofs.YteblpjnkinghoaaW.PrintMore
/-- A world behind w: what lay in w lies as it lay. -/
structure Past (w : World) where
  W : World
  h : Below w.heap.size w W
instance (w : World) : Inhabited (Past w) := ⟨⟨w, Below.refl _ _⟩⟩
instance (w : World) : Nonempty (Past w) := ⟨default⟩
theorem Past.cell {w : World} {a : Addr} {v : Value} (h : w.cell? a = some v) (p : Past w) : p.W.cell? a = some v := pw_cell_below p.h h
theorem Past.grown {w : World} (p : Past w) {W' : World} (h : Below p.W.heap.size p.W W') : Below w.heap.size w W' := below_step p.h h
/-- A region that draws its order, whose operations only read, whose callees may lay blocks of their own: walked once, in the order of the text. -/
theorem wp_region_past {P : Program} {id : Nat} {Q : Exit → Act → World → Prop} {a : Act} {w : World} {l : List Oper} (hm : P.follows .mixedOrders = true) (hB : Region.lexB .any l.toArray = true)
    (h : wpQuiet P l.toArray (fun w' => ∃ p : Past w, w' = p.W) (fun a' => ∀ w', (∃ p : Past w, w' = p.W) → Q .normal a' w') l a) : (Code.region id l.toArray true).wp P Q a w :=
  wp_region_quiet (C := fun w' => ∃ p : Past w, w' = p.W) hm hB ⟨⟨w.drew, below_drew (Below.refl _ _)⟩, rfl⟩ (by simpa using h)
theorem Calls.past_of {P : Program} {f : FuncId} {args : Array Value} {w : World} {p : Past w} {v : Value}
    (h : Calls P f args p.W fun e w' => e = .returned v ∧ Below p.W.heap.size p.W w') : Calls P f args p.W fun e w'' => e = .returned v ∧ ∃ q : Past w, w'' = q.W :=
  h.mono fun _ w' ⟨he, hb⟩ => ⟨he, ⟨w', p.grown hb⟩, rfl⟩
end Go.Proofs.Yteblpjnkinghoaa.J
namespace Go.Proofs.Yteblpjnkinghoaa.J
open Go.RowKit Go.Proofs.YteblpjnkinghoaaW.PrintWords Go.Proofs.YteblpjnkinghoaaW.PrintLast Go.Proofs.YteblpjnkinghoaaW.PrintMore
attribute [local go_sem] max2_int min2_int max_two min_two max_three min_three max_four min_four   -- for this text's walks alone
set_option linter.unusedVariables false
set_option linter.unusedSimpArgs false
/-! ### journal_unit: function 65 -/
def journal_unit.f (a0 : Int) : Option (Bool) := if a0 ≥ 1 then (some (decide (a0 ≤ 1000))) else (some false)
set_option maxHeartbeats 8000000 in
set_option maxRecDepth 100000 in
theorem journal_unit.calls (a0 : Int) (r : Bool) (w : World) (h : journal_unit.f a0 = some r) :
    Calls Try.prog 65 #[.int .i64 a0] w fun e w' => e = .returned (.bool r) ∧ Drawn0 w w' := by
  have H : (if a0 ≥ 1 then (some (decide (a0 ≤ 1000))) else (some false)) = some r := h
  clear h
  by_cases c2 : a0 ≥ 1
  · rw [if_pos c2] at H
    have c2b0 : decide (1 ≤ a0) = true := decide_eq_true c2
    clear c2
    obtain rfl := Option.some.inj H
    go_enter Try.func65, Try.ntmps65
    go_wp2
    go_ret
    exact ⟨by first | rfl | (simp; done) | (simp [*]; done), by repeat (first | exact Drawn0.refl _ | apply Drawn0.step)⟩
  · rw [if_neg c2] at H
    have c2b0 : decide (1 ≤ a0) = false := decide_eq_false c2
    clear c2
    obtain rfl := Option.some.inj H
    go_enter Try.func65, Try.ntmps65
    go_wp2
    go_ret
    exact ⟨by first | rfl | (simp; done) | (simp [*]; done), by repeat (first | exact Drawn0.refl _ | apply Drawn0.step)⟩

/-! ### journal_plain: function 75 -/
def journal_plain.f (a0_0 : Int) (a0_1 : Int) (a0_2 : ByteArray) (a0_3 : Bool) (a0_4 : ByteArray) : Option (Bool) := (journal_unit.f a0_1).bind fun t102 => (if t102 = true then (if a0_2.toList = ([] : List UInt8) then (if a0_3 = true then (some false) else (some (a0_4.toList == ([] : List UInt8)))) else (some false)) else (some false))
set_option maxHeartbeats 8000000 in
set_option maxRecDepth 100000 in
theorem journal_plain.calls (a0_0 : Int) (a0_1 : Int) (a0_2 : ByteArray) (a0_3 : Bool) (a0_4 : ByteArray) (r : Bool) (w : World) (h : journal_plain.f a0_0 a0_1 a0_2 a0_3 a0_4 = some r) :
    Calls Try.prog 75 #[.agg #[.int .i64 a0_0, .int .i64 a0_1, .string a0_2, .bool a0_3, .string a0_4]] w fun e w' => e = .returned (.bool r) ∧ Below w.heap.size w w' := by
  have hu39 := Try.underlying39
  have HB := Aside0.mk (Below.refl w.heap.size w)
  have H : ((journal_unit.f a0_1).bind fun t102 => (if t102 = true then (if a0_2.toList = ([] : List UInt8) then (if a0_3 = true then (some false) else (some (a0_4.toList == ([] : List UInt8)))) else (some false)) else (some false))) = some r := h
  clear h
  replace H := Option.bind_eq_some_iff.mp H
  obtain ⟨t102, A20, H⟩ := H
  replace H : (if t102 = true then (if a0_2.toList = ([] : List UInt8) then (if a0_3 = true then (some false) else (some (a0_4.toList == ([] : List UInt8)))) else (some false)) else (some false)) = some r := H
  have A2 := Aside0.mk A20
  clear A20
  by_cases c3 : t102 = true
  · subst c3
    have H1 : (if a0_2.toList = ([] : List UInt8) then (if a0_3 = true then (some false) else (some (a0_4.toList == ([] : List UInt8)))) else (some false)) = some r := by rw [if_pos rfl] at H; exact H
    clear H
    have H := H1
    clear H1
    by_cases c4 : a0_2.toList = ([] : List UInt8)
    · rw [if_pos c4] at H
      have c4b0 : (a0_2.toList == ([] : List UInt8)) = true := beq_iff_eq.mpr c4
      have c4b1 : (a0_2.toList != ([] : List UInt8)) = false := bne_eq_false_iff_eq.mpr c4
      clear c4
      by_cases c5 : a0_3 = true
      · subst c5
        have H1 : (some false) = some r := by rw [if_pos rfl] at H; exact H
        clear H
        have H := H1
        clear H1
        obtain rfl := Option.some.inj H
        go_enter Try.func75, Try.ntmps75
        go_wp2_with (first | ((with_reducible refine gate_dst (N := 1) rfl ?_); refine box_event ?hg (N := 1) ?hd (cs := #[.int .i64 a0_0, .int .i64 a0_1, .string a0_2, .bool true, .string a0_4]) (t := 39) ?hr ?_; (case hd => rfl); (case hg => rfl); (case hr => first | (go_simp; done) | (go_simp; rfl)); intro gb101 hg w6 hbox hb; have n0_ := Aside0.mk (below_step (by repeat (first | (with_reducible first | exact HB.out | apply below_alloc | apply pw_below_drewN | apply below_drew1) | exact HB.out)) hb); have n1_ := Aside0.mk (hbox); have n2_ := Aside0.mk ((by rw [hg]; exact (below_size (by repeat (first | (with_reducible first | exact HB.out | apply below_alloc | apply pw_below_drewN | apply below_drew1) | exact HB.out))) : w.heap.size ≤ gb101)); have n3_ := Aside0.mk ((by rw [hg]; exact (below_size (by repeat (first | (with_reducible first | exact HB.out | apply below_alloc | apply pw_below_drewN | apply below_drew1) | exact HB.out))) : w.heap.size ≤ gb101)); clear HB; have HB := n0_; have BK101 := n1_; have GW101 := n2_; have GE101 := n3_; clear n0_ n1_ n2_ n3_; clear hb hbox hg; have hcz7_0 : w6.cell? ⟨gb101, 0, none⟩ = some (.int .i64 a0_0) := (blk_cell BK101.out 0).trans rfl; have hcz7_1 : w6.cell? ⟨gb101, 1, none⟩ = some (.int .i64 a0_1) := (blk_cell BK101.out 1).trans rfl; have hcz7_2 : w6.cell? ⟨gb101, 2, none⟩ = some (.string a0_2) := (blk_cell BK101.out 2).trans rfl; have hcz7_3 : w6.cell? ⟨gb101, 3, none⟩ = some (.bool true) := (blk_cell BK101.out 3).trans rfl; have hcz7_4 : w6.cell? ⟨gb101, 4, none⟩ = some (.string a0_4) := (blk_cell BK101.out 4).trans rfl; have hfz7_0 := blk_frozen BK101.out 0; have hfz7_1 := blk_frozen BK101.out 1; have hfz7_2 := blk_frozen BK101.out 2; have hfz7_3 := blk_frozen BK101.out 3; have hfz7_4 := blk_frozen BK101.out 4) | ((with_reducible refine gate_callee (f := 65) rfl ?_); refine goesL_ (some 5) rfl rfl Try.func65 (by kernel_rfl) rfl #[.int .i64 a0_1] rfl (by (try simp only [List.map_toArray, List.map_cons, List.map_nil]); first | done | rfl | (simp only [List.length_drop, List.length_take]; rfl)) ?_; (with_reducible refine (journal_unit.calls a0_1 true _ A2.out).mono ?_); rintro e w' ⟨rfl, ⟨nd, rfl⟩⟩; refine ⟨_, rfl, ?_⟩))
        go_ret
        exact ⟨by first | rfl | (simp [errW_none, errW_some] <;> rfl) | (simp [*, errW_none, errW_some] <;> rfl), by repeat (first | (with_reducible first | exact HB.out | apply below_alloc | apply pw_below_drewN | apply below_drew1 | refine below_set ?_ GE101.out) | exact HB.out)⟩
      · replace c5 := Bool.eq_false_iff.mpr c5
        subst c5
        have H1 : (some (a0_4.toList == ([] : List UInt8))) = some r := by rw [if_neg (show ¬ (false = true) by decide)] at H; exact H
        clear H
        have H := H1
        clear H1
        obtain rfl := Option.some.inj H
        go_enter Try.func75, Try.ntmps75
        go_wp2_with (first | ((with_reducible refine gate_dst (N := 1) rfl ?_); refine box_event ?hg (N := 1) ?hd (cs := #[.int .i64 a0_0, .int .i64 a0_1, .string a0_2, .bool false, .string a0_4]) (t := 39) ?hr ?_; (case hd => rfl); (case hg => rfl); (case hr => first | (go_simp; done) | (go_simp; rfl)); intro gb101 hg w8 hbox hb; have n0_ := Aside0.mk (below_step (by repeat (first | (with_reducible first | exact HB.out | apply below_alloc | apply pw_below_drewN | apply below_drew1) | exact HB.out)) hb); have n1_ := Aside0.mk (hbox); have n2_ := Aside0.mk ((by rw [hg]; exact (below_size (by repeat (first | (with_reducible first | exact HB.out | apply below_alloc | apply pw_below_drewN | apply below_drew1) | exact HB.out))) : w.heap.size ≤ gb101)); have n3_ := Aside0.mk ((by rw [hg]; exact (below_size (by repeat (first | (with_reducible first | exact HB.out | apply below_alloc | apply pw_below_drewN | apply below_drew1) | exact HB.out))) : w.heap.size ≤ gb101)); clear HB; have HB := n0_; have BK101 := n1_; have GW101 := n2_; have GE101 := n3_; clear n0_ n1_ n2_ n3_; clear hb hbox hg; have hcz9_0 : w8.cell? ⟨gb101, 0, none⟩ = some (.int .i64 a0_0) := (blk_cell BK101.out 0).trans rfl; have hcz9_1 : w8.cell? ⟨gb101, 1, none⟩ = some (.int .i64 a0_1) := (blk_cell BK101.out 1).trans rfl; have hcz9_2 : w8.cell? ⟨gb101, 2, none⟩ = some (.string a0_2) := (blk_cell BK101.out 2).trans rfl; have hcz9_3 : w8.cell? ⟨gb101, 3, none⟩ = some (.bool false) := (blk_cell BK101.out 3).trans rfl; have hcz9_4 : w8.cell? ⟨gb101, 4, none⟩ = some (.string a0_4) := (blk_cell BK101.out 4).trans rfl; have hfz9_0 := blk_frozen BK101.out 0; have hfz9_1 := blk_frozen BK101.out 1; have hfz9_2 := blk_frozen BK101.out 2; have hfz9_3 := blk_frozen BK101.out 3; have hfz9_4 := blk_frozen BK101.out 4) | ((with_reducible refine gate_callee (f := 65) rfl ?_); refine goesL_ (some 5) rfl rfl Try.func65 (by kernel_rfl) rfl #[.int .i64 a0_1] rfl (by (try simp only [List.map_toArray, List.map_cons, List.map_nil]); first | done | rfl | (simp only [List.length_drop, List.length_take]; rfl)) ?_; (with_reducible refine (journal_unit.calls a0_1 true _ A2.out).mono ?_); rintro e w' ⟨rfl, ⟨nd, rfl⟩⟩; refine ⟨_, rfl, ?_⟩))
        go_ret
        exact ⟨by first | rfl | (simp [errW_none, errW_some] <;> rfl) | (simp [*, errW_none, errW_some] <;> rfl), by repeat (first | (with_reducible first | exact HB.out | apply below_alloc | apply pw_below_drewN | apply below_drew1 | refine below_set ?_ GE101.out) | exact HB.out)⟩
    · rw [if_neg c4] at H
      have c4b0 : (a0_2.toList == ([] : List UInt8)) = false := beq_eq_false_iff_ne.mpr c4
      have c4b1 : (a0_2.toList != ([] : List UInt8)) = true := bne_iff_ne.mpr c4
      obtain rfl := Option.some.inj H
      go_enter Try.func75, Try.ntmps75
      go_wp2_with (first | ((with_reducible refine gate_dst (N := 1) rfl ?_); refine box_event ?hg (N := 1) ?hd (cs := #[.int .i64 a0_0, .int .i64 a0_1, .string a0_2, .bool a0_3, .string a0_4]) (t := 39) ?hr ?_; (case hd => rfl); (case hg => rfl); (case hr => first | (go_simp; done) | (go_simp; rfl)); intro gb101 hg w10 hbox hb; have n0_ := Aside0.mk (below_step (by repeat (first | (with_reducible first | exact HB.out | apply below_alloc | apply pw_below_drewN | apply below_drew1) | exact HB.out)) hb); have n1_ := Aside0.mk (hbox); have n2_ := Aside0.mk ((by rw [hg]; exact (below_size (by repeat (first | (with_reducible first | exact HB.out | apply below_alloc | apply pw_below_drewN | apply below_drew1) | exact HB.out))) : w.heap.size ≤ gb101)); have n3_ := Aside0.mk ((by rw [hg]; exact (below_size (by repeat (first | (with_reducible first | exact HB.out | apply below_alloc | apply pw_below_drewN | apply below_drew1) | exact HB.out))) : w.heap.size ≤ gb101)); clear HB; have HB := n0_; have BK101 := n1_; have GW101 := n2_; have GE101 := n3_; clear n0_ n1_ n2_ n3_; clear hb hbox hg; have hcz11_0 : w10.cell? ⟨gb101, 0, none⟩ = some (.int .i64 a0_0) := (blk_cell BK101.out 0).trans rfl; have hcz11_1 : w10.cell? ⟨gb101, 1, none⟩ = some (.int .i64 a0_1) := (blk_cell BK101.out 1).trans rfl; have hcz11_2 : w10.cell? ⟨gb101, 2, none⟩ = some (.string a0_2) := (blk_cell BK101.out 2).trans rfl; have hcz11_3 : w10.cell? ⟨gb101, 3, none⟩ = some (.bool a0_3) := (blk_cell BK101.out 3).trans rfl; have hcz11_4 : w10.cell? ⟨gb101, 4, none⟩ = some (.string a0_4) := (blk_cell BK101.out 4).trans rfl; have hfz11_0 := blk_frozen BK101.out 0; have hfz11_1 := blk_frozen BK101.out 1; have hfz11_2 := blk_frozen BK101.out 2; have hfz11_3 := blk_frozen BK101.out 3; have hfz11_4 := blk_frozen BK101.out 4) | ((with_reducible refine gate_callee (f := 65) rfl ?_); refine goesL_ (some 5) rfl rfl Try.func65 (by kernel_rfl) rfl #[.int .i64 a0_1] rfl (by (try simp only [List.map_toArray, List.map_cons, List.map_nil]); first | done | rfl | (simp only [List.length_drop, List.length_take]; rfl)) ?_; (with_reducible refine (journal_unit.calls a0_1 true _ A2.out).mono ?_); rintro e w' ⟨rfl, ⟨nd, rfl⟩⟩; refine ⟨_, rfl, ?_⟩))
      go_ret
      exact ⟨by first | rfl | (simp [errW_none, errW_some] <;> rfl) | (simp [*, errW_none, errW_some] <;> rfl), by repeat (first | (with_reducible first | exact HB.out | apply below_alloc | apply pw_below_drewN | apply below_drew1 | refine below_set ?_ GE101.out) | exact HB.out)⟩
  · replace c3 := Bool.eq_false_iff.mpr c3
    subst c3
    have H1 : (some false) = some r := by rw [if_neg (show ¬ (false = true) by decide)] at H; exact H
    clear H
    have H := H1
    clear H1
    obtain rfl := Option.some.inj H
    go_enter Try.func75, Try.ntmps75
    go_wp2_with (first | ((with_reducible refine gate_dst (N := 1) rfl ?_); refine box_event ?hg (N := 1) ?hd (cs := #[.int .i64 a0_0, .int .i64 a0_1, .string a0_2, .bool a0_3, .string a0_4]) (t := 39) ?hr ?_; (case hd => rfl); (case hg => rfl); (case hr => first | (go_simp; done) | (go_simp; rfl)); intro gb101 hg w12 hbox hb; have n0_ := Aside0.mk (below_step (by repeat (first | (with_reducible first | exact HB.out | apply below_alloc | apply pw_below_drewN | apply below_drew1) | exact HB.out)) hb); have n1_ := Aside0.mk (hbox); have n2_ := Aside0.mk ((by rw [hg]; exact (below_size (by repeat (first | (with_reducible first | exact HB.out | apply below_alloc | apply pw_below_drewN | apply below_drew1) | exact HB.out))) : w.heap.size ≤ gb101)); have n3_ := Aside0.mk ((by rw [hg]; exact (below_size (by repeat (first | (with_reducible first | exact HB.out | apply below_alloc | apply pw_below_drewN | apply below_drew1) | exact HB.out))) : w.heap.size ≤ gb101)); clear HB; have HB := n0_; have BK101 := n1_; have GW101 := n2_; have GE101 := n3_; clear n0_ n1_ n2_ n3_; clear hb hbox hg; have hcz13_0 : w12.cell? ⟨gb101, 0, none⟩ = some (.int .i64 a0_0) := (blk_cell BK101.out 0).trans rfl; have hcz13_1 : w12.cell? ⟨gb101, 1, none⟩ = some (.int .i64 a0_1) := (blk_cell BK101.out 1).trans rfl; have hcz13_2 : w12.cell? ⟨gb101, 2, none⟩ = some (.string a0_2) := (blk_cell BK101.out 2).trans rfl; have hcz13_3 : w12.cell? ⟨gb101, 3, none⟩ = some (.bool a0_3) := (blk_cell BK101.out 3).trans rfl; have hcz13_4 : w12.cell? ⟨gb101, 4, none⟩ = some (.string a0_4) := (blk_cell BK101.out 4).trans rfl; have hfz13_0 := blk_frozen BK101.out 0; have hfz13_1 := blk_frozen BK101.out 1; have hfz13_2 := blk_frozen BK101.out 2; have hfz13_3 := blk_frozen BK101.out 3; have hfz13_4 := blk_frozen BK101.out 4) | ((with_reducible refine gate_callee (f := 65) rfl ?_); refine goesL_ (some 5) rfl rfl Try.func65 (by kernel_rfl) rfl #[.int .i64 a0_1] rfl (by (try simp only [List.map_toArray, List.map_cons, List.map_nil]); first | done | rfl | (simp only [List.length_drop, List.length_take]; rfl)) ?_; (with_reducible refine (journal_unit.calls a0_1 false _ A2.out).mono ?_); rintro e w' ⟨rfl, ⟨nd, rfl⟩⟩; refine ⟨_, rfl, ?_⟩))
    go_ret
    exact ⟨by first | rfl | (simp [errW_none, errW_some] <;> rfl) | (simp [*, errW_none, errW_some] <;> rfl), by repeat (first | (with_reducible first | exact HB.out | apply below_alloc | apply pw_below_drewN | apply below_drew1 | refine below_set ?_ GE101.out) | exact HB.out)⟩

/-! ### journal_imaged: function 76 -/
def journal_imaged.f (a0_0 : Int) (a0_1 : Int) (a0_2 : ByteArray) (a0_3 : Bool) (a0_4 : ByteArray) : Option (Bool) := (journal_unit.f a0_1).bind fun t104 => (if t104 = true then (if a0_2.toList = ([] : List UInt8) then (some false) else (if (a0_2.size : Int) ≤ 40 then (if (a0_4.size : Int) ≤ 4000 then (if a0_3 = true then (some true) else (some (a0_4.toList == ([] : List UInt8)))) else (some false)) else (some false))) else (some false))
set_option maxHeartbeats 8000000 in
set_option maxRecDepth 100000 in
theorem journal_imaged.calls (a0_0 : Int) (a0_1 : Int) (a0_2 : ByteArray) (a0_3 : Bool) (a0_4 : ByteArray) (r : Bool) (w : World) (h : journal_imaged.f a0_0 a0_1 a0_2 a0_3 a0_4 = some r) :
    Calls Try.prog 76 #[.agg #[.int .i64 a0_0, .int .i64 a0_1, .string a0_2, .bool a0_3, .string a0_4]] w fun e w' => e = .returned (.bool r) ∧ Below w.heap.size w w' := by
  have hu39 := Try.underlying39
  have HB := Aside0.mk (Below.refl w.heap.size w)
  have H : ((journal_unit.f a0_1).bind fun t104 => (if t104 = true then (if a0_2.toList = ([] : List UInt8) then (some false) else (if (a0_2.size : Int) ≤ 40 then (if (a0_4.size : Int) ≤ 4000 then (if a0_3 = true then (some true) else (some (a0_4.toList == ([] : List UInt8)))) else (some false)) else (some false))) else (some false))) = some r := h
  clear h
  replace H := Option.bind_eq_some_iff.mp H
  obtain ⟨t104, A20, H⟩ := H
  replace H : (if t104 = true then (if a0_2.toList = ([] : List UInt8) then (some false) else (if (a0_2.size : Int) ≤ 40 then (if (a0_4.size : Int) ≤ 4000 then (if a0_3 = true then (some true) else (some (a0_4.toList == ([] : List UInt8)))) else (some false)) else (some false))) else (some false)) = some r := H
  have A2 := Aside0.mk A20
  clear A20
  by_cases c3 : t104 = true
  · subst c3
    have H1 : (if a0_2.toList = ([] : List UInt8) then (some false) else (if (a0_2.size : Int) ≤ 40 then (if (a0_4.size : Int) ≤ 4000 then (if a0_3 = true then (some true) else (some (a0_4.toList == ([] : List UInt8)))) else (some false)) else (some false))) = some r := by rw [if_pos rfl] at H; exact H
    clear H
    have H := H1
    clear H1
    by_cases c4 : a0_2.toList = ([] : List UInt8)
    · rw [if_pos c4] at H
      have c4b0 : (a0_2.toList == ([] : List UInt8)) = true := beq_iff_eq.mpr c4
      have c4b1 : (a0_2.toList != ([] : List UInt8)) = false := bne_eq_false_iff_eq.mpr c4
      clear c4
      obtain rfl := Option.some.inj H
      go_enter Try.func76, Try.ntmps76
      go_wp2_with (first | ((with_reducible refine gate_dst (N := 1) rfl ?_); (try (refine gate_guard (by rfl) ?_; dsimp only)); refine box_event ?hg (N := 1) ?hd (cs := #[.int .i64 a0_0, .int .i64 a0_1, .string a0_2, .bool a0_3, .string a0_4]) (t := 39) ?hr ?_; (case hd => rfl); (case hg => rfl); (case hr => first | (go_simp; done) | (go_simp; rfl)); intro gb103 hg w5 hbox hb; have n0_ := Aside0.mk (below_step (by repeat (first | (with_reducible first | exact HB.out | apply below_alloc | apply pw_below_drewN | apply below_drew1) | exact HB.out)) hb); have n1_ := Aside0.mk (hbox); have n2_ := Aside0.mk ((by rw [hg]; exact (below_size (by repeat (first | (with_reducible first | exact HB.out | apply below_alloc | apply pw_below_drewN | apply below_drew1) | exact HB.out))) : w.heap.size ≤ gb103)); have n3_ := Aside0.mk ((by rw [hg]; exact (below_size (by repeat (first | (with_reducible first | exact HB.out | apply below_alloc | apply pw_below_drewN | apply below_drew1) | exact HB.out))) : w.heap.size ≤ gb103)); clear HB; have HB := n0_; have BK103 := n1_; have GW103 := n2_; have GE103 := n3_; clear n0_ n1_ n2_ n3_; clear hb hbox hg; have hcz6_0 : w5.cell? ⟨gb103, 0, none⟩ = some (.int .i64 a0_0) := (blk_cell BK103.out 0).trans rfl; have hcz6_1 : w5.cell? ⟨gb103, 1, none⟩ = some (.int .i64 a0_1) := (blk_cell BK103.out 1).trans rfl; have hcz6_2 : w5.cell? ⟨gb103, 2, none⟩ = some (.string a0_2) := (blk_cell BK103.out 2).trans rfl; have hcz6_3 : w5.cell? ⟨gb103, 3, none⟩ = some (.bool a0_3) := (blk_cell BK103.out 3).trans rfl; have hcz6_4 : w5.cell? ⟨gb103, 4, none⟩ = some (.string a0_4) := (blk_cell BK103.out 4).trans rfl; have hfz6_0 := blk_frozen BK103.out 0; have hfz6_1 := blk_frozen BK103.out 1; have hfz6_2 := blk_frozen BK103.out 2; have hfz6_3 := blk_frozen BK103.out 3; have hfz6_4 := blk_frozen BK103.out 4) | ((with_reducible refine gate_callee (f := 65) rfl ?_); refine goesL_ (some 5) rfl rfl Try.func65 (by kernel_rfl) rfl #[.int .i64 a0_1] rfl (by (try simp only [List.map_toArray, List.map_cons, List.map_nil]); first | done | rfl | (simp only [List.length_drop, List.length_take]; rfl)) ?_; (with_reducible refine (journal_unit.calls a0_1 true _ A2.out).mono ?_); rintro e w' ⟨rfl, ⟨nd, rfl⟩⟩; refine ⟨_, rfl, ?_⟩))
      go_ret
      exact ⟨by first | rfl | (simp [errW_none, errW_some] <;> rfl) | (simp [*, errW_none, errW_some] <;> rfl), by repeat (first | (with_reducible first | exact HB.out | apply below_alloc | apply pw_below_drewN | apply below_drew1 | refine below_set ?_ GE103.out) | exact HB.out)⟩
    · rw [if_neg c4] at H
      have c4b0 : (a0_2.toList == ([] : List UInt8)) = false := beq_eq_false_iff_ne.mpr c4
      have c4b1 : (a0_2.toList != ([] : List UInt8)) = true := bne_iff_ne.mpr c4
      by_cases c7 : (a0_2.size : Int) ≤ 40
      · rw [if_pos c7] at H
        have c7b0 : decide ((a0_2.size : Int) ≤ 40) = true := decide_eq_true c7
        have c7b1 : decide (a0_2.size ≤ 40) = true := decide_eq_true (by omega)
        clear c7
        by_cases c8 : (a0_4.size : Int) ≤ 4000
        · rw [if_pos c8] at H
          have c8b0 : decide ((a0_4.size : Int) ≤ 4000) = true := decide_eq_true c8
          have c8b1 : decide (a0_4.size ≤ 4000) = true := decide_eq_true (by omega)
          clear c8
          by_cases c9 : a0_3 = true
          · subst c9
            have H1 : (some true) = some r := by rw [if_pos rfl] at H; exact H
            clear H
            have H := H1
            clear H1
            obtain rfl := Option.some.inj H
            go_enter Try.func76, Try.ntmps76
            go_wp2_with (first | ((with_reducible refine gate_dst (N := 1) rfl ?_); (try (refine gate_guard (by rfl) ?_; dsimp only)); refine box_event ?hg (N := 1) ?hd (cs := #[.int .i64 a0_0, .int .i64 a0_1, .string a0_2, .bool true, .string a0_4]) (t := 39) ?hr ?_; (case hd => rfl); (case hg => rfl); (case hr => first | (go_simp; done) | (go_simp; rfl)); intro gb103 hg w10 hbox hb; have n0_ := Aside0.mk (below_step (by repeat (first | (with_reducible first | exact HB.out | apply below_alloc | apply pw_below_drewN | apply below_drew1) | exact HB.out)) hb); have n1_ := Aside0.mk (hbox); have n2_ := Aside0.mk ((by rw [hg]; exact (below_size (by repeat (first | (with_reducible first | exact HB.out | apply below_alloc | apply pw_below_drewN | apply below_drew1) | exact HB.out))) : w.heap.size ≤ gb103)); have n3_ := Aside0.mk ((by rw [hg]; exact (below_size (by repeat (first | (with_reducible first | exact HB.out | apply below_alloc | apply pw_below_drewN | apply below_drew1) | exact HB.out))) : w.heap.size ≤ gb103)); clear HB; have HB := n0_; have BK103 := n1_; have GW103 := n2_; have GE103 := n3_; clear n0_ n1_ n2_ n3_; clear hb hbox hg; have hcz11_0 : w10.cell? ⟨gb103, 0, none⟩ = some (.int .i64 a0_0) := (blk_cell BK103.out 0).trans rfl; have hcz11_1 : w10.cell? ⟨gb103, 1, none⟩ = some (.int .i64 a0_1) := (blk_cell BK103.out 1).trans rfl; have hcz11_2 : w10.cell? ⟨gb103, 2, none⟩ = some (.string a0_2) := (blk_cell BK103.out 2).trans rfl; have hcz11_3 : w10.cell? ⟨gb103, 3, none⟩ = some (.bool true) := (blk_cell BK103.out 3).trans rfl; have hcz11_4 : w10.cell? ⟨gb103, 4, none⟩ = some (.string a0_4) := (blk_cell BK103.out 4).trans rfl; have hfz11_0 := blk_frozen BK103.out 0; have hfz11_1 := blk_frozen BK103.out 1; have hfz11_2 := blk_frozen BK103.out 2; have hfz11_3 := blk_frozen BK103.out 3; have hfz11_4 := blk_frozen BK103.out 4) | ((with_reducible refine gate_callee (f := 65) rfl ?_); refine goesL_ (some 5) rfl rfl Try.func65 (by kernel_rfl) rfl #[.int .i64 a0_1] rfl (by (try simp only [List.map_toArray, List.map_cons, List.map_nil]); first | done | rfl | (simp only [List.length_drop, List.length_take]; rfl)) ?_; (with_reducible refine (journal_unit.calls a0_1 true _ A2.out).mono ?_); rintro e w' ⟨rfl, ⟨nd, rfl⟩⟩; refine ⟨_, rfl, ?_⟩))
            go_ret
            exact ⟨by first | rfl | (simp [errW_none, errW_some] <;> rfl) | (simp [*, errW_none, errW_some] <;> rfl), by repeat (first | (with_reducible first | exact HB.out | apply below_alloc | apply pw_below_drewN | apply below_drew1 | refine below_set ?_ GE103.out) | exact HB.out)⟩
          · replace c9 := Bool.eq_false_iff.mpr c9
            subst c9
            have H1 : (some (a0_4.toList == ([] : List UInt8))) = some r := by rw [if_neg (show ¬ (false = true) by decide)] at H; exact H
            clear H
            have H := H1
            clear H1
            obtain rfl := Option.some.inj H
            go_enter Try.func76, Try.ntmps76
            go_wp2_with (first | ((with_reducible refine gate_dst (N := 1) rfl ?_); (try (refine gate_guard (by rfl) ?_; dsimp only)); refine box_event ?hg (N := 1) ?hd (cs := #[.int .i64 a0_0, .int .i64 a0_1, .string a0_2, .bool false, .string a0_4]) (t := 39) ?hr ?_; (case hd => rfl); (case hg => rfl); (case hr => first | (go_simp; done) | (go_simp; rfl)); intro gb103 hg w12 hbox hb; have n0_ := Aside0.mk (below_step (by repeat (first | (with_reducible first | exact HB.out | apply below_alloc | apply pw_below_drewN | apply below_drew1) | exact HB.out)) hb); have n1_ := Aside0.mk (hbox); have n2_ := Aside0.mk ((by rw [hg]; exact (below_size (by repeat (first | (with_reducible first | exact HB.out | apply below_alloc | apply pw_below_drewN | apply below_drew1) | exact HB.out))) : w.heap.size ≤ gb103)); have n3_ := Aside0.mk ((by rw [hg]; exact (below_size (by repeat (first | (with_reducible first | exact HB.out | apply below_alloc | apply pw_below_drewN | apply below_drew1) | exact HB.out))) : w.heap.size ≤ gb103)); clear HB; have HB := n0_; have BK103 := n1_; have GW103 := n2_; have GE103 := n3_; clear n0_ n1_ n2_ n3_; clear hb hbox hg; have hcz13_0 : w12.cell? ⟨gb103, 0, none⟩ = some (.int .i64 a0_0) := (blk_cell BK103.out 0).trans rfl; have hcz13_1 : w12.cell? ⟨gb103, 1, none⟩ = some (.int .i64 a0_1) := (blk_cell BK103.out 1).trans rfl; have hcz13_2 : w12.cell? ⟨gb103, 2, none⟩ = some (.string a0_2) := (blk_cell BK103.out 2).trans rfl; have hcz13_3 : w12.cell? ⟨gb103, 3, none⟩ = some (.bool false) := (blk_cell BK103.out 3).trans rfl; have hcz13_4 : w12.cell? ⟨gb103, 4, none⟩ = some (.string a0_4) := (blk_cell BK103.out 4).trans rfl; have hfz13_0 := blk_frozen BK103.out 0; have hfz13_1 := blk_frozen BK103.out 1; have hfz13_2 := blk_frozen BK103.out 2; have hfz13_3 := blk_frozen BK103.out 3; have hfz13_4 := blk_frozen BK103.out 4) | ((with_reducible refine gate_callee (f := 65) rfl ?_); refine goesL_ (some 5) rfl rfl Try.func65 (by kernel_rfl) rfl #[.int .i64 a0_1] rfl (by (try simp only [List.map_toArray, List.map_cons, List.map_nil]); first | done | rfl | (simp only [List.length_drop, List.length_take]; rfl)) ?_; (with_reducible refine (journal_unit.calls a0_1 true _ A2.out).mono ?_); rintro e w' ⟨rfl, ⟨nd, rfl⟩⟩; refine ⟨_, rfl, ?_⟩))
            go_ret
            exact ⟨by first | rfl | (simp [errW_none, errW_some] <;> rfl) | (simp [*, errW_none, errW_some] <;> rfl), by repeat (first | (with_reducible first | exact HB.out | apply below_alloc | apply pw_below_drewN | apply below_drew1 | refine below_set ?_ GE103.out) | exact HB.out)⟩
        · rw [if_neg c8] at H
          have c8b0 : decide ((a0_4.size : Int) ≤ 4000) = false := decide_eq_false c8
          have c8b1 : decide (a0_4.size ≤ 4000) = false := decide_eq_false (by omega)
          clear c8
          obtain rfl := Option.some.inj H
          go_enter Try.func76, Try.ntmps76
          go_wp2_with (first | ((with_reducible refine gate_dst (N := 1) rfl ?_); (try (refine gate_guard (by rfl) ?_; dsimp only)); refine box_event ?hg (N := 1) ?hd (cs := #[.int .i64 a0_0, .int .i64 a0_1, .string a0_2, .bool a0_3, .string a0_4]) (t := 39) ?hr ?_; (case hd => rfl); (case hg => rfl); (case hr => first | (go_simp; done) | (go_simp; rfl)); intro gb103 hg w14 hbox hb; have n0_ := Aside0.mk (below_step (by repeat (first | (with_reducible first | exact HB.out | apply below_alloc | apply pw_below_drewN | apply below_drew1) | exact HB.out)) hb); have n1_ := Aside0.mk (hbox); have n2_ := Aside0.mk ((by rw [hg]; exact (below_size (by repeat (first | (with_reducible first | exact HB.out | apply below_alloc | apply pw_below_drewN | apply below_drew1) | exact HB.out))) : w.heap.size ≤ gb103)); have n3_ := Aside0.mk ((by rw [hg]; exact (below_size (by repeat (first | (with_reducible first | exact HB.out | apply below_alloc | apply pw_below_drewN | apply below_drew1) | exact HB.out))) : w.heap.size ≤ gb103)); clear HB; have HB := n0_; have BK103 := n1_; have GW103 := n2_; have GE103 := n3_; clear n0_ n1_ n2_ n3_; clear hb hbox hg; have hcz15_0 : w14.cell? ⟨gb103, 0, none⟩ = some (.int .i64 a0_0) := (blk_cell BK103.out 0).trans rfl; have hcz15_1 : w14.cell? ⟨gb103, 1, none⟩ = some (.int .i64 a0_1) := (blk_cell BK103.out 1).trans rfl; have hcz15_2 : w14.cell? ⟨gb103, 2, none⟩ = some (.string a0_2) := (blk_cell BK103.out 2).trans rfl; have hcz15_3 : w14.cell? ⟨gb103, 3, none⟩ = some (.bool a0_3) := (blk_cell BK103.out 3).trans rfl; have hcz15_4 : w14.cell? ⟨gb103, 4, none⟩ = some (.string a0_4) := (blk_cell BK103.out 4).trans rfl; have hfz15_0 := blk_frozen BK103.out 0; have hfz15_1 := blk_frozen BK103.out 1; have hfz15_2 := blk_frozen BK103.out 2; have hfz15_3 := blk_frozen BK103.out 3; have hfz15_4 := blk_frozen BK103.out 4) | ((with_reducible refine gate_callee (f := 65) rfl ?_); refine goesL_ (some 5) rfl rfl Try.func65 (by kernel_rfl) rfl #[.int .i64 a0_1] rfl (by (try simp only [List.map_toArray, List.map_cons, List.map_nil]); first | done | rfl | (simp only [List.length_drop, List.length_take]; rfl)) ?_; (with_reducible refine (journal_unit.calls a0_1 true _ A2.out).mono ?_); rintro e w' ⟨rfl, ⟨nd, rfl⟩⟩; refine ⟨_, rfl, ?_⟩))
          go_ret
          exact ⟨by first | rfl | (simp [errW_none, errW_some] <;> rfl) | (simp [*, errW_none, errW_some] <;> rfl), by repeat (first | (with_reducible first | exact HB.out | apply below_alloc | apply pw_below_drewN | apply below_drew1 | refine below_set ?_ GE103.out) | exact HB.out)⟩
      · rw [if_neg c7] at H
        have c7b0 : decide ((a0_2.size : Int) ≤ 40) = false := decide_eq_false c7
        have c7b1 : decide (a0_2.size ≤ 40) = false := decide_eq_false (by omega)
        clear c7
        obtain rfl := Option.some.inj H
        go_enter Try.func76, Try.ntmps76
        go_wp2_with (first | ((with_reducible refine gate_dst (N := 1) rfl ?_); (try (refine gate_guard (by rfl) ?_; dsimp only)); refine box_event ?hg (N := 1) ?hd (cs := #[.int .i64 a0_0, .int .i64 a0_1, .string a0_2, .bool a0_3, .string a0_4]) (t := 39) ?hr ?_; (case hd => rfl); (case hg => rfl); (case hr => first | (go_simp; done) | (go_simp; rfl)); intro gb103 hg w16 hbox hb; have n0_ := Aside0.mk (below_step (by repeat (first | (with_reducible first | exact HB.out | apply below_alloc | apply pw_below_drewN | apply below_drew1) | exact HB.out)) hb); have n1_ := Aside0.mk (hbox); have n2_ := Aside0.mk ((by rw [hg]; exact (below_size (by repeat (first | (with_reducible first | exact HB.out | apply below_alloc | apply pw_below_drewN | apply below_drew1) | exact HB.out))) : w.heap.size ≤ gb103)); have n3_ := Aside0.mk ((by rw [hg]; exact (below_size (by repeat (first | (with_reducible first | exact HB.out | apply below_alloc | apply pw_below_drewN | apply below_drew1) | exact HB.out))) : w.heap.size ≤ gb103)); clear HB; have HB := n0_; have BK103 := n1_; have GW103 := n2_; have GE103 := n3_; clear n0_ n1_ n2_ n3_; clear hb hbox hg; have hcz17_0 : w16.cell? ⟨gb103, 0, none⟩ = some (.int .i64 a0_0) := (blk_cell BK103.out 0).trans rfl; have hcz17_1 : w16.cell? ⟨gb103, 1, none⟩ = some (.int .i64 a0_1) := (blk_cell BK103.out 1).trans rfl; have hcz17_2 : w16.cell? ⟨gb103, 2, none⟩ = some (.string a0_2) := (blk_cell BK103.out 2).trans rfl; have hcz17_3 : w16.cell? ⟨gb103, 3, none⟩ = some (.bool a0_3) := (blk_cell BK103.out 3).trans rfl; have hcz17_4 : w16.cell? ⟨gb103, 4, none⟩ = some (.string a0_4) := (blk_cell BK103.out 4).trans rfl; have hfz17_0 := blk_frozen BK103.out 0; have hfz17_1 := blk_frozen BK103.out 1; have hfz17_2 := blk_frozen BK103.out 2; have hfz17_3 := blk_frozen BK103.out 3; have hfz17_4 := blk_frozen BK103.out 4) | ((with_reducible refine gate_callee (f := 65) rfl ?_); refine goesL_ (some 5) rfl rfl Try.func65 (by kernel_rfl) rfl #[.int .i64 a0_1] rfl (by (try simp only [List.map_toArray, List.map_cons, List.map_nil]); first | done | rfl | (simp only [List.length_drop, List.length_take]; rfl)) ?_; (with_reducible refine (journal_unit.calls a0_1 true _ A2.out).mono ?_); rintro e w' ⟨rfl, ⟨nd, rfl⟩⟩; refine ⟨_, rfl, ?_⟩))
        go_ret
        exact ⟨by first | rfl | (simp [errW_none, errW_some] <;> rfl) | (simp [*, errW_none, errW_some] <;> rfl), by repeat (first | (with_reducible first | exact HB.out | apply below_alloc | apply pw_below_drewN | apply below_drew1 | refine below_set ?_ GE103.out) | exact HB.out)⟩
  · replace c3 := Bool.eq_false_iff.mpr c3
    subst c3
    have H1 : (some false) = some r := by rw [if_neg (show ¬ (false = true) by decide)] at H; exact H
    clear H
    have H := H1
    clear H1
    obtain rfl := Option.some.inj H
    go_enter Try.func76, Try.ntmps76
    go_wp2_with (first | ((with_reducible refine gate_dst (N := 1) rfl ?_); (try (refine gate_guard (by rfl) ?_; dsimp only)); refine box_event ?hg (N := 1) ?hd (cs := #[.int .i64 a0_0, .int .i64 a0_1, .string a0_2, .bool a0_3, .string a0_4]) (t := 39) ?hr ?_; (case hd => rfl); (case hg => rfl); (case hr => first | (go_simp; done) | (go_simp; rfl)); intro gb103 hg w18 hbox hb; have n0_ := Aside0.mk (below_step (by repeat (first | (with_reducible first | exact HB.out | apply below_alloc | apply pw_below_drewN | apply below_drew1) | exact HB.out)) hb); have n1_ := Aside0.mk (hbox); have n2_ := Aside0.mk ((by rw [hg]; exact (below_size (by repeat (first | (with_reducible first | exact HB.out | apply below_alloc | apply pw_below_drewN | apply below_drew1) | exact HB.out))) : w.heap.size ≤ gb103)); have n3_ := Aside0.mk ((by rw [hg]; exact (below_size (by repeat (first | (with_reducible first | exact HB.out | apply below_alloc | apply pw_below_drewN | apply below_drew1) | exact HB.out))) : w.heap.size ≤ gb103)); clear HB; have HB := n0_; have BK103 := n1_; have GW103 := n2_; have GE103 := n3_; clear n0_ n1_ n2_ n3_; clear hb hbox hg; have hcz19_0 : w18.cell? ⟨gb103, 0, none⟩ = some (.int .i64 a0_0) := (blk_cell BK103.out 0).trans rfl; have hcz19_1 : w18.cell? ⟨gb103, 1, none⟩ = some (.int .i64 a0_1) := (blk_cell BK103.out 1).trans rfl; have hcz19_2 : w18.cell? ⟨gb103, 2, none⟩ = some (.string a0_2) := (blk_cell BK103.out 2).trans rfl; have hcz19_3 : w18.cell? ⟨gb103, 3, none⟩ = some (.bool a0_3) := (blk_cell BK103.out 3).trans rfl; have hcz19_4 : w18.cell? ⟨gb103, 4, none⟩ = some (.string a0_4) := (blk_cell BK103.out 4).trans rfl; have hfz19_0 := blk_frozen BK103.out 0; have hfz19_1 := blk_frozen BK103.out 1; have hfz19_2 := blk_frozen BK103.out 2; have hfz19_3 := blk_frozen BK103.out 3; have hfz19_4 := blk_frozen BK103.out 4) | ((with_reducible refine gate_callee (f := 65) rfl ?_); refine goesL_ (some 5) rfl rfl Try.func65 (by kernel_rfl) rfl #[.int .i64 a0_1] rfl (by (try simp only [List.map_toArray, List.map_cons, List.map_nil]); first | done | rfl | (simp only [List.length_drop, List.length_take]; rfl)) ?_; (with_reducible refine (journal_unit.calls a0_1 false _ A2.out).mono ?_); rintro e w' ⟨rfl, ⟨nd, rfl⟩⟩; refine ⟨_, rfl, ?_⟩))
    go_ret
    exact ⟨by first | rfl | (simp [errW_none, errW_some] <;> rfl) | (simp [*, errW_none, errW_some] <;> rfl), by repeat (first | (with_reducible first | exact HB.out | apply below_alloc | apply pw_below_drewN | apply below_drew1 | refine below_set ?_ GE103.out) | exact HB.out)⟩

/-! ### journal_named: function 77 -/
def journal_named.f (a0_0 : Int) (a0_1 : Int) (a0_2 : ByteArray) (a0_3 : Bool) (a0_4 : ByteArray) : Option (Bool) := if a0_1 = 0 then (if a0_2.toList = ([] : List UInt8) then (if a0_3 = true then (some false) else (if a0_4.toList = ([] : List UInt8) then (some false) else (some (decide ((a0_4.size : Int) ≤ 40))))) else (some false)) else (some false)
set_option maxHeartbeats 8000000 in
set_option maxRecDepth 100000 in
theorem journal_named.calls (a0_0 : Int) (a0_1 : Int) (a0_2 : ByteArray) (a0_3 : Bool) (a0_4 : ByteArray) (r : Bool) (w : World) (h : journal_named.f a0_0 a0_1 a0_2 a0_3 a0_4 = some r) :
    Calls Try.prog 77 #[.agg #[.int .i64 a0_0, .int .i64 a0_1, .string a0_2, .bool a0_3, .string a0_4]] w fun e w' => e = .returned (.bool r) ∧ Below w.heap.size w w' := by
  have hu39 := Try.underlying39
  have HB := Aside0.mk (Below.refl w.heap.size w)
  have H : (if a0_1 = 0 then (if a0_2.toList = ([] : List UInt8) then (if a0_3 = true then (some false) else (if a0_4.toList = ([] : List UInt8) then (some false) else (some (decide ((a0_4.size : Int) ≤ 40))))) else (some false)) else (some false)) = some r := h
  clear h
  by_cases c2 : a0_1 = 0
  · rw [if_pos c2] at H
    have c2b0 : (a0_1 == 0) = true := beq_iff_eq.mpr c2
    have c2b1 : (a0_1 != 0) = false := bne_eq_false_iff_eq.mpr c2
    clear c2
    by_cases c3 : a0_2.toList = ([] : List UInt8)
    · rw [if_pos c3] at H
      have c3b0 : (a0_2.toList == ([] : List UInt8)) = true := beq_iff_eq.mpr c3
      have c3b1 : (a0_2.toList != ([] : List UInt8)) = false := bne_eq_false_iff_eq.mpr c3
      clear c3
      by_cases c4 : a0_3 = true
      · subst c4
        have H1 : (some false) = some r := by rw [if_pos rfl] at H; exact H
        clear H
        have H := H1
        clear H1
        obtain rfl := Option.some.inj H
        go_enter Try.func77, Try.ntmps77
        go_wp2_with (first | ((with_reducible refine gate_dst (N := 1) rfl ?_); (try (refine gate_guard (by rfl) ?_; dsimp only)); refine box_event ?hg (N := 1) ?hd (cs := #[.int .i64 a0_0, .int .i64 a0_1, .string a0_2, .bool true, .string a0_4]) (t := 39) ?hr ?_; (case hd => rfl); (case hg => rfl); (case hr => first | (go_simp; done) | (go_simp; rfl)); intro gb105 hg w5 hbox hb; have n0_ := Aside0.mk (below_step (by repeat (first | (with_reducible first | exact HB.out | apply below_alloc | apply pw_below_drewN | apply below_drew1) | exact HB.out)) hb); have n1_ := Aside0.mk (hbox); have n2_ := Aside0.mk ((by rw [hg]; exact (below_size (by repeat (first | (with_reducible first | exact HB.out | apply below_alloc | apply pw_below_drewN | apply below_drew1) | exact HB.out))) : w.heap.size ≤ gb105)); have n3_ := Aside0.mk ((by rw [hg]; exact (below_size (by repeat (first | (with_reducible first | exact HB.out | apply below_alloc | apply pw_below_drewN | apply below_drew1) | exact HB.out))) : w.heap.size ≤ gb105)); clear HB; have HB := n0_; have BK105 := n1_; have GW105 := n2_; have GE105 := n3_; clear n0_ n1_ n2_ n3_; clear hb hbox hg; have hcz6_0 : w5.cell? ⟨gb105, 0, none⟩ = some (.int .i64 a0_0) := (blk_cell BK105.out 0).trans rfl; have hcz6_1 : w5.cell? ⟨gb105, 1, none⟩ = some (.int .i64 a0_1) := (blk_cell BK105.out 1).trans rfl; have hcz6_2 : w5.cell? ⟨gb105, 2, none⟩ = some (.string a0_2) := (blk_cell BK105.out 2).trans rfl; have hcz6_3 : w5.cell? ⟨gb105, 3, none⟩ = some (.bool true) := (blk_cell BK105.out 3).trans rfl; have hcz6_4 : w5.cell? ⟨gb105, 4, none⟩ = some (.string a0_4) := (blk_cell BK105.out 4).trans rfl; have hfz6_0 := blk_frozen BK105.out 0; have hfz6_1 := blk_frozen BK105.out 1; have hfz6_2 := blk_frozen BK105.out 2; have hfz6_3 := blk_frozen BK105.out 3; have hfz6_4 := blk_frozen BK105.out 4))
        go_ret
        exact ⟨by first | rfl | (simp [errW_none, errW_some] <;> rfl) | (simp [*, errW_none, errW_some] <;> rfl), by repeat (first | (with_reducible first | exact HB.out | apply below_alloc | apply pw_below_drewN | apply below_drew1 | refine below_set ?_ GE105.out) | exact HB.out)⟩
      · replace c4 := Bool.eq_false_iff.mpr c4
        subst c4
        have H1 : (if a0_4.toList = ([] : List UInt8) then (some false) else (some (decide ((a0_4.size : Int) ≤ 40)))) = some r := by rw [if_neg (show ¬ (false = true) by decide)] at H; exact H
        clear H
        have H := H1
        clear H1
        by_cases c7 : a0_4.toList = ([] : List UInt8)
        · rw [if_pos c7] at H
          have c7b0 : (a0_4.toList == ([] : List UInt8)) = true := beq_iff_eq.mpr c7
          have c7b1 : (a0_4.toList != ([] : List UInt8)) = false := bne_eq_false_iff_eq.mpr c7
          clear c7
          obtain rfl := Option.some.inj H
          go_enter Try.func77, Try.ntmps77
          go_wp2_with (first | ((with_reducible refine gate_dst (N := 1) rfl ?_); (try (refine gate_guard (by rfl) ?_; dsimp only)); refine box_event ?hg (N := 1) ?hd (cs := #[.int .i64 a0_0, .int .i64 a0_1, .string a0_2, .bool false, .string a0_4]) (t := 39) ?hr ?_; (case hd => rfl); (case hg => rfl); (case hr => first | (go_simp; done) | (go_simp; rfl)); intro gb105 hg w8 hbox hb; have n0_ := Aside0.mk (below_step (by repeat (first | (with_reducible first | exact HB.out | apply below_alloc | apply pw_below_drewN | apply below_drew1) | exact HB.out)) hb); have n1_ := Aside0.mk (hbox); have n2_ := Aside0.mk ((by rw [hg]; exact (below_size (by repeat (first | (with_reducible first | exact HB.out | apply below_alloc | apply pw_below_drewN | apply below_drew1) | exact HB.out))) : w.heap.size ≤ gb105)); have n3_ := Aside0.mk ((by rw [hg]; exact (below_size (by repeat (first | (with_reducible first | exact HB.out | apply below_alloc | apply pw_below_drewN | apply below_drew1) | exact HB.out))) : w.heap.size ≤ gb105)); clear HB; have HB := n0_; have BK105 := n1_; have GW105 := n2_; have GE105 := n3_; clear n0_ n1_ n2_ n3_; clear hb hbox hg; have hcz9_0 : w8.cell? ⟨gb105, 0, none⟩ = some (.int .i64 a0_0) := (blk_cell BK105.out 0).trans rfl; have hcz9_1 : w8.cell? ⟨gb105, 1, none⟩ = some (.int .i64 a0_1) := (blk_cell BK105.out 1).trans rfl; have hcz9_2 : w8.cell? ⟨gb105, 2, none⟩ = some (.string a0_2) := (blk_cell BK105.out 2).trans rfl; have hcz9_3 : w8.cell? ⟨gb105, 3, none⟩ = some (.bool false) := (blk_cell BK105.out 3).trans rfl; have hcz9_4 : w8.cell? ⟨gb105, 4, none⟩ = some (.string a0_4) := (blk_cell BK105.out 4).trans rfl; have hfz9_0 := blk_frozen BK105.out 0; have hfz9_1 := blk_frozen BK105.out 1; have hfz9_2 := blk_frozen BK105.out 2; have hfz9_3 := blk_frozen BK105.out 3; have hfz9_4 := blk_frozen BK105.out 4))
          go_ret
          exact ⟨by first | rfl | (simp [errW_none, errW_some] <;> rfl) | (simp [*, errW_none, errW_some] <;> rfl), by repeat (first | (with_reducible first | exact HB.out | apply below_alloc | apply pw_below_drewN | apply below_drew1 | refine below_set ?_ GE105.out) | exact HB.out)⟩
        · rw [if_neg c7] at H
          have c7b0 : (a0_4.toList == ([] : List UInt8)) = false := beq_eq_false_iff_ne.mpr c7
          have c7b1 : (a0_4.toList != ([] : List UInt8)) = true := bne_iff_ne.mpr c7
          obtain rfl := Option.some.inj H
          go_enter Try.func77, Try.ntmps77
          go_wp2_with (first | ((with_reducible refine gate_dst (N := 1) rfl ?_); (try (refine gate_guard (by rfl) ?_; dsimp only)); refine box_event ?hg (N := 1) ?hd (cs := #[.int .i64 a0_0, .int .i64 a0_1, .string a0_2, .bool false, .string a0_4]) (t := 39) ?hr ?_; (case hd => rfl); (case hg => rfl); (case hr => first | (go_simp; done) | (go_simp; rfl)); intro gb105 hg w10 hbox hb; have n0_ := Aside0.mk (below_step (by repeat (first | (with_reducible first | exact HB.out | apply below_alloc | apply pw_below_drewN | apply below_drew1) | exact HB.out)) hb); have n1_ := Aside0.mk (hbox); have n2_ := Aside0.mk ((by rw [hg]; exact (below_size (by repeat (first | (with_reducible first | exact HB.out | apply below_alloc | apply pw_below_drewN | apply below_drew1) | exact HB.out))) : w.heap.size ≤ gb105)); have n3_ := Aside0.mk ((by rw [hg]; exact (below_size (by repeat (first | (with_reducible first | exact HB.out | apply below_alloc | apply pw_below_drewN | apply below_drew1) | exact HB.out))) : w.heap.size ≤ gb105)); clear HB; have HB := n0_; have BK105 := n1_; have GW105 := n2_; have GE105 := n3_; clear n0_ n1_ n2_ n3_; clear hb hbox hg; have hcz11_0 : w10.cell? ⟨gb105, 0, none⟩ = some (.int .i64 a0_0) := (blk_cell BK105.out 0).trans rfl; have hcz11_1 : w10.cell? ⟨gb105, 1, none⟩ = some (.int .i64 a0_1) := (blk_cell BK105.out 1).trans rfl; have hcz11_2 : w10.cell? ⟨gb105, 2, none⟩ = some (.string a0_2) := (blk_cell BK105.out 2).trans rfl; have hcz11_3 : w10.cell? ⟨gb105, 3, none⟩ = some (.bool false) := (blk_cell BK105.out 3).trans rfl; have hcz11_4 : w10.cell? ⟨gb105, 4, none⟩ = some (.string a0_4) := (blk_cell BK105.out 4).trans rfl; have hfz11_0 := blk_frozen BK105.out 0; have hfz11_1 := blk_frozen BK105.out 1; have hfz11_2 := blk_frozen BK105.out 2; have hfz11_3 := blk_frozen BK105.out 3; have hfz11_4 := blk_frozen BK105.out 4))
          go_ret
          exact ⟨by first | rfl | (simp [errW_none, errW_some] <;> rfl) | (simp [*, errW_none, errW_some] <;> rfl), by repeat (first | (with_reducible first | exact HB.out | apply below_alloc | apply pw_below_drewN | apply below_drew1 | refine below_set ?_ GE105.out) | exact HB.out)⟩
    · rw [if_neg c3] at H
      have c3b0 : (a0_2.toList == ([] : List UInt8)) = false := beq_eq_false_iff_ne.mpr c3
      have c3b1 : (a0_2.toList != ([] : List UInt8)) = true := bne_iff_ne.mpr c3
      obtain rfl := Option.some.inj H
      go_enter Try.func77, Try.ntmps77
      go_wp2_with (first | ((with_reducible refine gate_dst (N := 1) rfl ?_); (try (refine gate_guard (by rfl) ?_; dsimp only)); refine box_event ?hg (N := 1) ?hd (cs := #[.int .i64 a0_0, .int .i64 a0_1, .string a0_2, .bool a0_3, .string a0_4]) (t := 39) ?hr ?_; (case hd => rfl); (case hg => rfl); (case hr => first | (go_simp; done) | (go_simp; rfl)); intro gb105 hg w12 hbox hb; have n0_ := Aside0.mk (below_step (by repeat (first | (with_reducible first | exact HB.out | apply below_alloc | apply pw_below_drewN | apply below_drew1) | exact HB.out)) hb); have n1_ := Aside0.mk (hbox); have n2_ := Aside0.mk ((by rw [hg]; exact (below_size (by repeat (first | (with_reducible first | exact HB.out | apply below_alloc | apply pw_below_drewN | apply below_drew1) | exact HB.out))) : w.heap.size ≤ gb105)); have n3_ := Aside0.mk ((by rw [hg]; exact (below_size (by repeat (first | (with_reducible first | exact HB.out | apply below_alloc | apply pw_below_drewN | apply below_drew1) | exact HB.out))) : w.heap.size ≤ gb105)); clear HB; have HB := n0_; have BK105 := n1_; have GW105 := n2_; have GE105 := n3_; clear n0_ n1_ n2_ n3_; clear hb hbox hg; have hcz13_0 : w12.cell? ⟨gb105, 0, none⟩ = some (.int .i64 a0_0) := (blk_cell BK105.out 0).trans rfl; have hcz13_1 : w12.cell? ⟨gb105, 1, none⟩ = some (.int .i64 a0_1) := (blk_cell BK105.out 1).trans rfl; have hcz13_2 : w12.cell? ⟨gb105, 2, none⟩ = some (.string a0_2) := (blk_cell BK105.out 2).trans rfl; have hcz13_3 : w12.cell? ⟨gb105, 3, none⟩ = some (.bool a0_3) := (blk_cell BK105.out 3).trans rfl; have hcz13_4 : w12.cell? ⟨gb105, 4, none⟩ = some (.string a0_4) := (blk_cell BK105.out 4).trans rfl; have hfz13_0 := blk_frozen BK105.out 0; have hfz13_1 := blk_frozen BK105.out 1; have hfz13_2 := blk_frozen BK105.out 2; have hfz13_3 := blk_frozen BK105.out 3; have hfz13_4 := blk_frozen BK105.out 4))
      go_ret
      exact ⟨by first | rfl | (simp [errW_none, errW_some] <;> rfl) | (simp [*, errW_none, errW_some] <;> rfl), by repeat (first | (with_reducible first | exact HB.out | apply below_alloc | apply pw_below_drewN | apply below_drew1 | refine below_set ?_ GE105.out) | exact HB.out)⟩
  · rw [if_neg c2] at H
    have c2b0 : (a0_1 == 0) = false := beq_eq_false_iff_ne.mpr c2
    have c2b1 : (a0_1 != 0) = true := bne_iff_ne.mpr c2
    obtain rfl := Option.some.inj H
    go_enter Try.func77, Try.ntmps77
    go_wp2_with (first | ((with_reducible refine gate_dst (N := 1) rfl ?_); (try (refine gate_guard (by rfl) ?_; dsimp only)); refine box_event ?hg (N := 1) ?hd (cs := #[.int .i64 a0_0, .int .i64 a0_1, .string a0_2, .bool a0_3, .string a0_4]) (t := 39) ?hr ?_; (case hd => rfl); (case hg => rfl); (case hr => first | (go_simp; done) | (go_simp; rfl)); intro gb105 hg w14 hbox hb; have n0_ := Aside0.mk (below_step (by repeat (first | (with_reducible first | exact HB.out | apply below_alloc | apply pw_below_drewN | apply below_drew1) | exact HB.out)) hb); have n1_ := Aside0.mk (hbox); have n2_ := Aside0.mk ((by rw [hg]; exact (below_size (by repeat (first | (with_reducible first | exact HB.out | apply below_alloc | apply pw_below_drewN | apply below_drew1) | exact HB.out))) : w.heap.size ≤ gb105)); have n3_ := Aside0.mk ((by rw [hg]; exact (below_size (by repeat (first | (with_reducible first | exact HB.out | apply below_alloc | apply pw_below_drewN | apply below_drew1) | exact HB.out))) : w.heap.size ≤ gb105)); clear HB; have HB := n0_; have BK105 := n1_; have GW105 := n2_; have GE105 := n3_; clear n0_ n1_ n2_ n3_; clear hb hbox hg; have hcz15_0 : w14.cell? ⟨gb105, 0, none⟩ = some (.int .i64 a0_0) := (blk_cell BK105.out 0).trans rfl; have hcz15_1 : w14.cell? ⟨gb105, 1, none⟩ = some (.int .i64 a0_1) := (blk_cell BK105.out 1).trans rfl; have hcz15_2 : w14.cell? ⟨gb105, 2, none⟩ = some (.string a0_2) := (blk_cell BK105.out 2).trans rfl; have hcz15_3 : w14.cell? ⟨gb105, 3, none⟩ = some (.bool a0_3) := (blk_cell BK105.out 3).trans rfl; have hcz15_4 : w14.cell? ⟨gb105, 4, none⟩ = some (.string a0_4) := (blk_cell BK105.out 4).trans rfl; have hfz15_0 := blk_frozen BK105.out 0; have hfz15_1 := blk_frozen BK105.out 1; have hfz15_2 := blk_frozen BK105.out 2; have hfz15_3 := blk_frozen BK105.out 3; have hfz15_4 := blk_frozen BK105.out 4))
    go_ret
    exact ⟨by first | rfl | (simp [errW_none, errW_some] <;> rfl) | (simp [*, errW_none, errW_some] <;> rfl), by repeat (first | (with_reducible first | exact HB.out | apply below_alloc | apply pw_below_drewN | apply below_drew1 | refine below_set ?_ GE105.out) | exact HB.out)⟩

/-! ### journal_image: function 44 -/
def journal_image.f (a0_0 : ByteArray) (a0_1 : Bool) (a0_2 : ByteArray) : Option (Bool) := if a0_0.toList = ([] : List UInt8) then (some false) else (if (a0_0.size : Int) ≤ 40 then (if (a0_2.size : Int) ≤ 4000 then (if a0_1 = true then (some true) else (some (a0_2.toList == ([] : List UInt8)))) else (some false)) else (some false))
set_option maxHeartbeats 8000000 in
set_option maxRecDepth 100000 in
theorem journal_image.calls (a0_0 : ByteArray) (a0_1 : Bool) (a0_2 : ByteArray) (r : Bool) (w : World) (h : journal_image.f a0_0 a0_1 a0_2 = some r) :
    Calls Try.prog 44 #[.agg #[.string a0_0, .bool a0_1, .string a0_2]] w fun e w' => e = .returned (.bool r) ∧ Below w.heap.size w w' := by
  have hu41 := Try.underlying41
  have HB := Aside0.mk (Below.refl w.heap.size w)
  have H : (if a0_0.toList = ([] : List UInt8) then (some false) else (if (a0_0.size : Int) ≤ 40 then (if (a0_2.size : Int) ≤ 4000 then (if a0_1 = true then (some true) else (some (a0_2.toList == ([] : List UInt8)))) else (some false)) else (some false))) = some r := h
  clear h
  by_cases c2 : a0_0.toList = ([] : List UInt8)
  · rw [if_pos c2] at H
    have c2b0 : (a0_0.toList == ([] : List UInt8)) = true := beq_iff_eq.mpr c2
    have c2b1 : (a0_0.toList != ([] : List UInt8)) = false := bne_eq_false_iff_eq.mpr c2
    clear c2
    obtain rfl := Option.some.inj H
    go_enter Try.func44, Try.ntmps44
    go_wp2_with (first | ((with_reducible refine gate_dst (N := 1) rfl ?_); (try (refine gate_guard (by rfl) ?_; dsimp only)); refine box_event ?hg (N := 1) ?hd (cs := #[.string a0_0, .bool a0_1, .string a0_2]) (t := 41) ?hr ?_; (case hd => rfl); (case hg => rfl); (case hr => first | (go_simp; done) | (go_simp; rfl)); intro gb108 hg w3 hbox hb; have n0_ := Aside0.mk (below_step (by repeat (first | (with_reducible first | exact HB.out | apply below_alloc | apply pw_below_drewN | apply below_drew1) | exact HB.out)) hb); have n1_ := Aside0.mk (hbox); have n2_ := Aside0.mk ((by rw [hg]; exact (below_size (by repeat (first | (with_reducible first | exact HB.out | apply below_alloc | apply pw_below_drewN | apply below_drew1) | exact HB.out))) : w.heap.size ≤ gb108)); have n3_ := Aside0.mk ((by rw [hg]; exact (below_size (by repeat (first | (with_reducible first | exact HB.out | apply below_alloc | apply pw_below_drewN | apply below_drew1) | exact HB.out))) : w.heap.size ≤ gb108)); clear HB; have HB := n0_; have BK108 := n1_; have GW108 := n2_; have GE108 := n3_; clear n0_ n1_ n2_ n3_; clear hb hbox hg; have hcz4_0 : w3.cell? ⟨gb108, 0, none⟩ = some (.string a0_0) := (blk_cell BK108.out 0).trans rfl; have hcz4_1 : w3.cell? ⟨gb108, 1, none⟩ = some (.bool a0_1) := (blk_cell BK108.out 1).trans rfl; have hcz4_2 : w3.cell? ⟨gb108, 2, none⟩ = some (.string a0_2) := (blk_cell BK108.out 2).trans rfl; have hfz4_0 := blk_frozen BK108.out 0; have hfz4_1 := blk_frozen BK108.out 1; have hfz4_2 := blk_frozen BK108.out 2))
    go_ret
    exact ⟨by first | rfl | (simp [errW_none, errW_some] <;> rfl) | (simp [*, errW_none, errW_some] <;> rfl), by repeat (first | (with_reducible first | exact HB.out | apply below_alloc | apply pw_below_drewN | apply below_drew1 | refine below_set ?_ GE108.out) | exact HB.out)⟩
  · rw [if_neg c2] at H
    have c2b0 : (a0_0.toList == ([] : List UInt8)) = false := beq_eq_false_iff_ne.mpr c2
    have c2b1 : (a0_0.toList != ([] : List UInt8)) = true := bne_iff_ne.mpr c2
    by_cases c5 : (a0_0.size : Int) ≤ 40
    · rw [if_pos c5] at H
      have c5b0 : decide ((a0_0.size : Int) ≤ 40) = true := decide_eq_true c5
      have c5b1 : decide (a0_0.size ≤ 40) = true := decide_eq_true (by omega)
      clear c5
      by_cases c6 : (a0_2.size : Int) ≤ 4000
      · rw [if_pos c6] at H
        have c6b0 : decide ((a0_2.size : Int) ≤ 4000) = true := decide_eq_true c6
        have c6b1 : decide (a0_2.size ≤ 4000) = true := decide_eq_true (by omega)
        clear c6
        by_cases c7 : a0_1 = true
        · subst c7
          have H1 : (some true) = some r := by rw [if_pos rfl] at H; exact H
          clear H
          have H := H1
          clear H1
          obtain rfl := Option.some.inj H
          go_enter Try.func44, Try.ntmps44
          go_wp2_with (first | ((with_reducible refine gate_dst (N := 1) rfl ?_); (try (refine gate_guard (by rfl) ?_; dsimp only)); refine box_event ?hg (N := 1) ?hd (cs := #[.string a0_0, .bool true, .string a0_2]) (t := 41) ?hr ?_; (case hd => rfl); (case hg => rfl); (case hr => first | (go_simp; done) | (go_simp; rfl)); intro gb108 hg w8 hbox hb; have n0_ := Aside0.mk (below_step (by repeat (first | (with_reducible first | exact HB.out | apply below_alloc | apply pw_below_drewN | apply below_drew1) | exact HB.out)) hb); have n1_ := Aside0.mk (hbox); have n2_ := Aside0.mk ((by rw [hg]; exact (below_size (by repeat (first | (with_reducible first | exact HB.out | apply below_alloc | apply pw_below_drewN | apply below_drew1) | exact HB.out))) : w.heap.size ≤ gb108)); have n3_ := Aside0.mk ((by rw [hg]; exact (below_size (by repeat (first | (with_reducible first | exact HB.out | apply below_alloc | apply pw_below_drewN | apply below_drew1) | exact HB.out))) : w.heap.size ≤ gb108)); clear HB; have HB := n0_; have BK108 := n1_; have GW108 := n2_; have GE108 := n3_; clear n0_ n1_ n2_ n3_; clear hb hbox hg; have hcz9_0 : w8.cell? ⟨gb108, 0, none⟩ = some (.string a0_0) := (blk_cell BK108.out 0).trans rfl; have hcz9_1 : w8.cell? ⟨gb108, 1, none⟩ = some (.bool true) := (blk_cell BK108.out 1).trans rfl; have hcz9_2 : w8.cell? ⟨gb108, 2, none⟩ = some (.string a0_2) := (blk_cell BK108.out 2).trans rfl; have hfz9_0 := blk_frozen BK108.out 0; have hfz9_1 := blk_frozen BK108.out 1; have hfz9_2 := blk_frozen BK108.out 2))
          go_ret
          exact ⟨by first | rfl | (simp [errW_none, errW_some] <;> rfl) | (simp [*, errW_none, errW_some] <;> rfl), by repeat (first | (with_reducible first | exact HB.out | apply below_alloc | apply pw_below_drewN | apply below_drew1 | refine below_set ?_ GE108.out) | exact HB.out)⟩
        · replace c7 := Bool.eq_false_iff.mpr c7
          subst c7
          have H1 : (some (a0_2.toList == ([] : List UInt8))) = some r := by rw [if_neg (show ¬ (false = true) by decide)] at H; exact H
          clear H
          have H := H1
          clear H1
          obtain rfl := Option.some.inj H
          go_enter Try.func44, Try.ntmps44
          go_wp2_with (first | ((with_reducible refine gate_dst (N := 1) rfl ?_); (try (refine gate_guard (by rfl) ?_; dsimp only)); refine box_event ?hg (N := 1) ?hd (cs := #[.string a0_0, .bool false, .string a0_2]) (t := 41) ?hr ?_; (case hd => rfl); (case hg => rfl); (case hr => first | (go_simp; done) | (go_simp; rfl)); intro gb108 hg w10 hbox hb; have n0_ := Aside0.mk (below_step (by repeat (first | (with_reducible first | exact HB.out | apply below_alloc | apply pw_below_drewN | apply below_drew1) | exact HB.out)) hb); have n1_ := Aside0.mk (hbox); have n2_ := Aside0.mk ((by rw [hg]; exact (below_size (by repeat (first | (with_reducible first | exact HB.out | apply below_alloc | apply pw_below_drewN | apply below_drew1) | exact HB.out))) : w.heap.size ≤ gb108)); have n3_ := Aside0.mk ((by rw [hg]; exact (below_size (by repeat (first | (with_reducible first | exact HB.out | apply below_alloc | apply pw_below_drewN | apply below_drew1) | exact HB.out))) : w.heap.size ≤ gb108)); clear HB; have HB := n0_; have BK108 := n1_; have GW108 := n2_; have GE108 := n3_; clear n0_ n1_ n2_ n3_; clear hb hbox hg; have hcz11_0 : w10.cell? ⟨gb108, 0, none⟩ = some (.string a0_0) := (blk_cell BK108.out 0).trans rfl; have hcz11_1 : w10.cell? ⟨gb108, 1, none⟩ = some (.bool false) := (blk_cell BK108.out 1).trans rfl; have hcz11_2 : w10.cell? ⟨gb108, 2, none⟩ = some (.string a0_2) := (blk_cell BK108.out 2).trans rfl; have hfz11_0 := blk_frozen BK108.out 0; have hfz11_1 := blk_frozen BK108.out 1; have hfz11_2 := blk_frozen BK108.out 2))
          go_ret
          exact ⟨by first | rfl | (simp [errW_none, errW_some] <;> rfl) | (simp [*, errW_none, errW_some] <;> rfl), by repeat (first | (with_reducible first | exact HB.out | apply below_alloc | apply pw_below_drewN | apply below_drew1 | refine below_set ?_ GE108.out) | exact HB.out)⟩
      · rw [if_neg c6] at H
        have c6b0 : decide ((a0_2.size : Int) ≤ 4000) = false := decide_eq_false c6
        have c6b1 : decide (a0_2.size ≤ 4000) = false := decide_eq_false (by omega)
        clear c6
        obtain rfl := Option.some.inj H
        go_enter Try.func44, Try.ntmps44
        go_wp2_with (first | ((with_reducible refine gate_dst (N := 1) rfl ?_); (try (refine gate_guard (by rfl) ?_; dsimp only)); refine box_event ?hg (N := 1) ?hd (cs := #[.string a0_0, .bool a0_1, .string a0_2]) (t := 41) ?hr ?_; (case hd => rfl); (case hg => rfl); (case hr => first | (go_simp; done) | (go_simp; rfl)); intro gb108 hg w12 hbox hb; have n0_ := Aside0.mk (below_step (by repeat (first | (with_reducible first | exact HB.out | apply below_alloc | apply pw_below_drewN | apply below_drew1) | exact HB.out)) hb); have n1_ := Aside0.mk (hbox); have n2_ := Aside0.mk ((by rw [hg]; exact (below_size (by repeat (first | (with_reducible first | exact HB.out | apply below_alloc | apply pw_below_drewN | apply below_drew1) | exact HB.out))) : w.heap.size ≤ gb108)); have n3_ := Aside0.mk ((by rw [hg]; exact (below_size (by repeat (first | (with_reducible first | exact HB.out | apply below_alloc | apply pw_below_drewN | apply below_drew1) | exact HB.out))) : w.heap.size ≤ gb108)); clear HB; have HB := n0_; have BK108 := n1_; have GW108 := n2_; have GE108 := n3_; clear n0_ n1_ n2_ n3_; clear hb hbox hg; have hcz13_0 : w12.cell? ⟨gb108, 0, none⟩ = some (.string a0_0) := (blk_cell BK108.out 0).trans rfl; have hcz13_1 : w12.cell? ⟨gb108, 1, none⟩ = some (.bool a0_1) := (blk_cell BK108.out 1).trans rfl; have hcz13_2 : w12.cell? ⟨gb108, 2, none⟩ = some (.string a0_2) := (blk_cell BK108.out 2).trans rfl; have hfz13_0 := blk_frozen BK108.out 0; have hfz13_1 := blk_frozen BK108.out 1; have hfz13_2 := blk_frozen BK108.out 2))
        go_ret
        exact ⟨by first | rfl | (simp [errW_none, errW_some] <;> rfl) | (simp [*, errW_none, errW_some] <;> rfl), by repeat (first | (with_reducible first | exact HB.out | apply below_alloc | apply pw_below_drewN | apply below_drew1 | refine below_set ?_ GE108.out) | exact HB.out)⟩
    · rw [if_neg c5] at H
      have c5b0 : decide ((a0_0.size : Int) ≤ 40) = false := decide_eq_false c5
      have c5b1 : decide (a0_0.size ≤ 40) = false := decide_eq_false (by omega)
      clear c5
      obtain rfl := Option.some.inj H
      go_enter Try.func44, Try.ntmps44
      go_wp2_with (first | ((with_reducible refine gate_dst (N := 1) rfl ?_); (try (refine gate_guard (by rfl) ?_; dsimp only)); refine box_event ?hg (N := 1) ?hd (cs := #[.string a0_0, .bool a0_1, .string a0_2]) (t := 41) ?hr ?_; (case hd => rfl); (case hg => rfl); (case hr => first | (go_simp; done) | (go_simp; rfl)); intro gb108 hg w14 hbox hb; have n0_ := Aside0.mk (below_step (by repeat (first | (with_reducible first | exact HB.out | apply below_alloc | apply pw_below_drewN | apply below_drew1) | exact HB.out)) hb); have n1_ := Aside0.mk (hbox); have n2_ := Aside0.mk ((by rw [hg]; exact (below_size (by repeat (first | (with_reducible first | exact HB.out | apply below_alloc | apply pw_below_drewN | apply below_drew1) | exact HB.out))) : w.heap.size ≤ gb108)); have n3_ := Aside0.mk ((by rw [hg]; exact (below_size (by repeat (first | (with_reducible first | exact HB.out | apply below_alloc | apply pw_below_drewN | apply below_drew1) | exact HB.out))) : w.heap.size ≤ gb108)); clear HB; have HB := n0_; have BK108 := n1_; have GW108 := n2_; have GE108 := n3_; clear n0_ n1_ n2_ n3_; clear hb hbox hg; have hcz15_0 : w14.cell? ⟨gb108, 0, none⟩ = some (.string a0_0) := (blk_cell BK108.out 0).trans rfl; have hcz15_1 : w14.cell? ⟨gb108, 1, none⟩ = some (.bool a0_1) := (blk_cell BK108.out 1).trans rfl; have hcz15_2 : w14.cell? ⟨gb108, 2, none⟩ = some (.string a0_2) := (blk_cell BK108.out 2).trans rfl; have hfz15_0 := blk_frozen BK108.out 0; have hfz15_1 := blk_frozen BK108.out 1; have hfz15_2 := blk_frozen BK108.out 2))
      go_ret
      exact ⟨by first | rfl | (simp [errW_none, errW_some] <;> rfl) | (simp [*, errW_none, errW_some] <;> rfl), by repeat (first | (with_reducible first | exact HB.out | apply below_alloc | apply pw_below_drewN | apply below_drew1 | refine below_set ?_ GE108.out) | exact HB.out)⟩

/-! ### ringworkref25_image: function 59 -/
def ringworkref25_image.f (a0_0 : ByteArray) (a0_1 : Bool) (a0_2 : ByteArray) : Option (Bool) := if (a0_0.size : Int) ≥ 1 then (if (a0_0.size : Int) ≤ 40 then (if (a0_2.size : Int) ≤ 4000 then (if a0_1 = true then (some true) else (some (a0_2.toList == ([] : List UInt8)))) else (some false)) else (some false)) else (some false)
set_option maxHeartbeats 8000000 in
set_option maxRecDepth 100000 in
theorem ringworkref25_image.calls (a0_0 : ByteArray) (a0_1 : Bool) (a0_2 : ByteArray) (r : Bool) (w : World) (h : ringworkref25_image.f a0_0 a0_1 a0_2 = some r) :
    Calls Try.prog 59 #[.agg #[.string a0_0, .bool a0_1, .string a0_2]] w fun e w' => e = .returned (.bool r) ∧ Below w.heap.size w w' := by
  have hu41 := Try.underlying41
  have HB := Aside0.mk (Below.refl w.heap.size w)
  have H : (if (a0_0.size : Int) ≥ 1 then (if (a0_0.size : Int) ≤ 40 then (if (a0_2.size : Int) ≤ 4000 then (if a0_1 = true then (some true) else (some (a0_2.toList == ([] : List UInt8)))) else (some false)) else (some false)) else (some false)) = some r := h
  clear h
  by_cases c2 : (a0_0.size : Int) ≥ 1
  · rw [if_pos c2] at H
    have c2b0 : decide (1 ≤ (a0_0.size : Int)) = true := decide_eq_true c2
    have c2b1 : decide (1 ≤ a0_0.size) = true := decide_eq_true (by omega)
    clear c2
    by_cases c3 : (a0_0.size : Int) ≤ 40
    · rw [if_pos c3] at H
      have c3b0 : decide ((a0_0.size : Int) ≤ 40) = true := decide_eq_true c3
      have c3b1 : decide (a0_0.size ≤ 40) = true := decide_eq_true (by omega)
      clear c3
      by_cases c4 : (a0_2.size : Int) ≤ 4000
      · rw [if_pos c4] at H
        have c4b0 : decide ((a0_2.size : Int) ≤ 4000) = true := decide_eq_true c4
        have c4b1 : decide (a0_2.size ≤ 4000) = true := decide_eq_true (by omega)
        clear c4
        by_cases c5 : a0_1 = true
        · subst c5
          have H1 : (some true) = some r := by rw [if_pos rfl] at H; exact H
          clear H
          have H := H1
          clear H1
          obtain rfl := Option.some.inj H
          go_enter Try.func59, Try.ntmps59
          go_wp2_with (first | ((with_reducible refine gate_dst (N := 1) rfl ?_); (try (refine gate_guard (by rfl) ?_; dsimp only)); refine box_event ?hg (N := 1) ?hd (cs := #[.string a0_0, .bool true, .string a0_2]) (t := 41) ?hr ?_; (case hd => rfl); (case hg => rfl); (case hr => first | (go_simp; done) | (go_simp; rfl)); intro gb109 hg w6 hbox hb; have n0_ := Aside0.mk (below_step (by repeat (first | (with_reducible first | exact HB.out | apply below_alloc | apply pw_below_drewN | apply below_drew1) | exact HB.out)) hb); have n1_ := Aside0.mk (hbox); have n2_ := Aside0.mk ((by rw [hg]; exact (below_size (by repeat (first | (with_reducible first | exact HB.out | apply below_alloc | apply pw_below_drewN | apply below_drew1) | exact HB.out))) : w.heap.size ≤ gb109)); have n3_ := Aside0.mk ((by rw [hg]; exact (below_size (by repeat (first | (with_reducible first | exact HB.out | apply below_alloc | apply pw_below_drewN | apply below_drew1) | exact HB.out))) : w.heap.size ≤ gb109)); clear HB; have HB := n0_; have BK109 := n1_; have GW109 := n2_; have GE109 := n3_; clear n0_ n1_ n2_ n3_; clear hb hbox hg; have hcz7_0 : w6.cell? ⟨gb109, 0, none⟩ = some (.string a0_0) := (blk_cell BK109.out 0).trans rfl; have hcz7_1 : w6.cell? ⟨gb109, 1, none⟩ = some (.bool true) := (blk_cell BK109.out 1).trans rfl; have hcz7_2 : w6.cell? ⟨gb109, 2, none⟩ = some (.string a0_2) := (blk_cell BK109.out 2).trans rfl; have hfz7_0 := blk_frozen BK109.out 0; have hfz7_1 := blk_frozen BK109.out 1; have hfz7_2 := blk_frozen BK109.out 2))
          go_ret
          exact ⟨by first | rfl | (simp [errW_none, errW_some] <;> rfl) | (simp [*, errW_none, errW_some] <;> rfl), by repeat (first | (with_reducible first | exact HB.out | apply below_alloc | apply pw_below_drewN | apply below_drew1 | refine below_set ?_ GE109.out) | exact HB.out)⟩
        · replace c5 := Bool.eq_false_iff.mpr c5
          subst c5
          have H1 : (some (a0_2.toList == ([] : List UInt8))) = some r := by rw [if_neg (show ¬ (false = true) by decide)] at H; exact H
          clear H
          have H := H1
          clear H1
          obtain rfl := Option.some.inj H
          go_enter Try.func59, Try.ntmps59
          go_wp2_with (first | ((with_reducible refine gate_dst (N := 1) rfl ?_); (try (refine gate_guard (by rfl) ?_; dsimp only)); refine box_event ?hg (N := 1) ?hd (cs := #[.string a0_0, .bool false, .string a0_2]) (t := 41) ?hr ?_; (case hd => rfl); (case hg => rfl); (case hr => first | (go_simp; done) | (go_simp; rfl)); intro gb109 hg w8 hbox hb; have n0_ := Aside0.mk (below_step (by repeat (first | (with_reducible first | exact HB.out | apply below_alloc | apply pw_below_drewN | apply below_drew1) | exact HB.out)) hb); have n1_ := Aside0.mk (hbox); have n2_ := Aside0.mk ((by rw [hg]; exact (below_size (by repeat (first | (with_reducible first | exact HB.out | apply below_alloc | apply pw_below_drewN | apply below_drew1) | exact HB.out))) : w.heap.size ≤ gb109)); have n3_ := Aside0.mk ((by rw [hg]; exact (below_size (by repeat (first | (with_reducible first | exact HB.out | apply below_alloc | apply pw_below_drewN | apply below_drew1) | exact HB.out))) : w.heap.size ≤ gb109)); clear HB; have HB := n0_; have BK109 := n1_; have GW109 := n2_; have GE109 := n3_; clear n0_ n1_ n2_ n3_; clear hb hbox hg; have hcz9_0 : w8.cell? ⟨gb109, 0, none⟩ = some (.string a0_0) := (blk_cell BK109.out 0).trans rfl; have hcz9_1 : w8.cell? ⟨gb109, 1, none⟩ = some (.bool false) := (blk_cell BK109.out 1).trans rfl; have hcz9_2 : w8.cell? ⟨gb109, 2, none⟩ = some (.string a0_2) := (blk_cell BK109.out 2).trans rfl; have hfz9_0 := blk_frozen BK109.out 0; have hfz9_1 := blk_frozen BK109.out 1; have hfz9_2 := blk_frozen BK109.out 2))
          go_ret
          exact ⟨by first | rfl | (simp [errW_none, errW_some] <;> rfl) | (simp [*, errW_none, errW_some] <;> rfl), by repeat (first | (with_reducible first | exact HB.out | apply below_alloc | apply pw_below_drewN | apply below_drew1 | refine below_set ?_ GE109.out) | exact HB.out)⟩
      · rw [if_neg c4] at H
        have c4b0 : decide ((a0_2.size : Int) ≤ 4000) = false := decide_eq_false c4
        have c4b1 : decide (a0_2.size ≤ 4000) = false := decide_eq_false (by omega)
        clear c4
        obtain rfl := Option.some.inj H
        go_enter Try.func59, Try.ntmps59
        go_wp2_with (first | ((with_reducible refine gate_dst (N := 1) rfl ?_); (try (refine gate_guard (by rfl) ?_; dsimp only)); refine box_event ?hg (N := 1) ?hd (cs := #[.string a0_0, .bool a0_1, .string a0_2]) (t := 41) ?hr ?_; (case hd => rfl); (case hg => rfl); (case hr => first | (go_simp; done) | (go_simp; rfl)); intro gb109 hg w10 hbox hb; have n0_ := Aside0.mk (below_step (by repeat (first | (with_reducible first | exact HB.out | apply below_alloc | apply pw_below_drewN | apply below_drew1) | exact HB.out)) hb); have n1_ := Aside0.mk (hbox); have n2_ := Aside0.mk ((by rw [hg]; exact (below_size (by repeat (first | (with_reducible first | exact HB.out | apply below_alloc | apply pw_below_drewN | apply below_drew1) | exact HB.out))) : w.heap.size ≤ gb109)); have n3_ := Aside0.mk ((by rw [hg]; exact (below_size (by repeat (first | (with_reducible first | exact HB.out | apply below_alloc | apply pw_below_drewN | apply below_drew1) | exact HB.out))) : w.heap.size ≤ gb109)); clear HB; have HB := n0_; have BK109 := n1_; have GW109 := n2_; have GE109 := n3_; clear n0_ n1_ n2_ n3_; clear hb hbox hg; have hcz11_0 : w10.cell? ⟨gb109, 0, none⟩ = some (.string a0_0) := (blk_cell BK109.out 0).trans rfl; have hcz11_1 : w10.cell? ⟨gb109, 1, none⟩ = some (.bool a0_1) := (blk_cell BK109.out 1).trans rfl; have hcz11_2 : w10.cell? ⟨gb109, 2, none⟩ = some (.string a0_2) := (blk_cell BK109.out 2).trans rfl; have hfz11_0 := blk_frozen BK109.out 0; have hfz11_1 := blk_frozen BK109.out 1; have hfz11_2 := blk_frozen BK109.out 2))
        go_ret
        exact ⟨by first | rfl | (simp [errW_none, errW_some] <;> rfl) | (simp [*, errW_none, errW_some] <;> rfl), by repeat (first | (with_reducible first | exact HB.out | apply below_alloc | apply pw_below_drewN | apply below_drew1 | refine below_set ?_ GE109.out) | exact HB.out)⟩
    · rw [if_neg c3] at H
      have c3b0 : decide ((a0_0.size : Int) ≤ 40) = false := decide_eq_false c3
      have c3b1 : decide (a0_0.size ≤ 40) = false := decide_eq_false (by omega)
      clear c3
      obtain rfl := Option.some.inj H
      go_enter Try.func59, Try.ntmps59
      go_wp2_with (first | ((with_reducible refine gate_dst (N := 1) rfl ?_); (try (refine gate_guard (by rfl) ?_; dsimp only)); refine box_event ?hg (N := 1) ?hd (cs := #[.string a0_0, .bool a0_1, .string a0_2]) (t := 41) ?hr ?_; (case hd => rfl); (case hg => rfl); (case hr => first | (go_simp; done) | (go_simp; rfl)); intro gb109 hg w12 hbox hb; have n0_ := Aside0.mk (below_step (by repeat (first | (with_reducible first | exact HB.out | apply below_alloc | apply pw_below_drewN | apply below_drew1) | exact HB.out)) hb); have n1_ := Aside0.mk (hbox); have n2_ := Aside0.mk ((by rw [hg]; exact (below_size (by repeat (first | (with_reducible first | exact HB.out | apply below_alloc | apply pw_below_drewN | apply below_drew1) | exact HB.out))) : w.heap.size ≤ gb109)); have n3_ := Aside0.mk ((by rw [hg]; exact (below_size (by repeat (first | (with_reducible first | exact HB.out | apply below_alloc | apply pw_below_drewN | apply below_drew1) | exact HB.out))) : w.heap.size ≤ gb109)); clear HB; have HB := n0_; have BK109 := n1_; have GW109 := n2_; have GE109 := n3_; clear n0_ n1_ n2_ n3_; clear hb hbox hg; have hcz13_0 : w12.cell? ⟨gb109, 0, none⟩ = some (.string a0_0) := (blk_cell BK109.out 0).trans rfl; have hcz13_1 : w12.cell? ⟨gb109, 1, none⟩ = some (.bool a0_1) := (blk_cell BK109.out 1).trans rfl; have hcz13_2 : w12.cell? ⟨gb109, 2, none⟩ = some (.string a0_2) := (blk_cell BK109.out 2).trans rfl; have hfz13_0 := blk_frozen BK109.out 0; have hfz13_1 := blk_frozen BK109.out 1; have hfz13_2 := blk_frozen BK109.out 2))
      go_ret
      exact ⟨by first | rfl | (simp [errW_none, errW_some] <;> rfl) | (simp [*, errW_none, errW_some] <;> rfl), by repeat (first | (with_reducible first | exact HB.out | apply below_alloc | apply pw_below_drewN | apply below_drew1 | refine below_set ?_ GE109.out) | exact HB.out)⟩
  · rw [if_neg c2] at H
    have c2b0 : decide (1 ≤ (a0_0.size : Int)) = false := decide_eq_false c2
    have c2b1 : decide (1 ≤ a0_0.size) = false := decide_eq_false (by omega)
    clear c2
    obtain rfl := Option.some.inj H
    go_enter Try.func59, Try.ntmps59
    go_wp2_with (first | ((with_reducible refine gate_dst (N := 1) rfl ?_); (try (refine gate_guard (by rfl) ?_; dsimp only)); refine box_event ?hg (N := 1) ?hd (cs := #[.string a0_0, .bool a0_1, .string a0_2]) (t := 41) ?hr ?_; (case hd => rfl); (case hg => rfl); (case hr => first | (go_simp; done) | (go_simp; rfl)); intro gb109 hg w14 hbox hb; have n0_ := Aside0.mk (below_step (by repeat (first | (with_reducible first | exact HB.out | apply below_alloc | apply pw_below_drewN | apply below_drew1) | exact HB.out)) hb); have n1_ := Aside0.mk (hbox); have n2_ := Aside0.mk ((by rw [hg]; exact (below_size (by repeat (first | (with_reducible first | exact HB.out | apply below_alloc | apply pw_below_drewN | apply below_drew1) | exact HB.out))) : w.heap.size ≤ gb109)); have n3_ := Aside0.mk ((by rw [hg]; exact (below_size (by repeat (first | (with_reducible first | exact HB.out | apply below_alloc | apply pw_below_drewN | apply below_drew1) | exact HB.out))) : w.heap.size ≤ gb109)); clear HB; have HB := n0_; have BK109 := n1_; have GW109 := n2_; have GE109 := n3_; clear n0_ n1_ n2_ n3_; clear hb hbox hg; have hcz15_0 : w14.cell? ⟨gb109, 0, none⟩ = some (.string a0_0) := (blk_cell BK109.out 0).trans rfl; have hcz15_1 : w14.cell? ⟨gb109, 1, none⟩ = some (.bool a0_1) := (blk_cell BK109.out 1).trans rfl; have hcz15_2 : w14.cell? ⟨gb109, 2, none⟩ = some (.string a0_2) := (blk_cell BK109.out 2).trans rfl; have hfz15_0 := blk_frozen BK109.out 0; have hfz15_1 := blk_frozen BK109.out 1; have hfz15_2 := blk_frozen BK109.out 2))
    go_ret
    exact ⟨by first | rfl | (simp [errW_none, errW_some] <;> rfl) | (simp [*, errW_none, errW_some] <;> rfl), by repeat (first | (with_reducible first | exact HB.out | apply below_alloc | apply pw_below_drewN | apply below_drew1 | refine below_set ?_ GE109.out) | exact HB.out)⟩

end Go.Proofs.Yteblpjnkinghoaa.J
/- The contract of journal.ordered, for every slice of images. -/
namespace Go.Proofs.Yteblpjnkinghoaa.J
open Go.BigFrame Go.RowKit Go.Proofs.YteblpjnkinghoaaW.PrintWords Go.Proofs.YteblpjnkinghoaaW.PrintLast Go.Proofs.YteblpjnkinghoaaW.PrintMore
theorem journal_image.some (a0 : ByteArray) (a1 : Bool) (a2 : ByteArray) : ∃ r, journal_image.f a0 a1 a2 = some r := by
  unfold journal_image.f
  repeat' (first | exact ⟨_, rfl⟩ | split)
def img (x : S41) : Bool := (journal_image.f x.f0 x.f1 x.f2).getD false
theorem img_calls (x : S41) (w : World) : Calls Try.prog 44 #[.agg #[.string x.f0, .bool x.f1, .string x.f2]] w fun e w' => e = .returned (.bool (img x)) ∧ Below w.heap.size w w' := by
  obtain ⟨r, h⟩ := journal_image.some x.f0 x.f1 x.f2
  have : img x = r := by unfold img; rw [h]; rfl
  rw [this]
  exact journal_image.calls _ _ _ r w h
/-- Whether the image at an index is right beside the one before it. -/
def goodAt (l : List S41) (k : Nat) : Bool := img (rd_T41 l k) && (rd_T41 l k).f1 && (decide (k = 0) || Op.bytesLess (rd_T41 l ((k : Int) - 1)).f0.toList (rd_T41 l k).f0.toList)
def journal_ordered.f (l0 : List (S41)) : Option (Bool) := some ((List.range l0.length).all (goodAt l0) && decide (l0.length ≤ 500))
theorem good_bad {l : List S41} {k : Nat} (hk : k < l.length) (h : goodAt l k = false) : ((List.range l.length).all (goodAt l) && decide (l.length ≤ 500)) = false := by
  have : (List.range l.length).all (goodAt l) = false := by
    rw [List.all_eq_false]
    exact ⟨k, List.mem_range.2 hk, by rw [h]; decide⟩
  rw [this]; rfl
theorem good_upto {l : List S41} {k : Nat} (h : (List.range k).all (goodAt l) = true) (hk : goodAt l k = true) : (List.range (k + 1)).all (goodAt l) = true := by
  rw [List.range_succ, List.all_append, h]; simp [hk]
/-- An image's cells, in every world behind. -/
theorem image_cells {w1 : World} {b : Nat} {v0 v1 v2 : Value} {t : TypeId} (hk : w1.heap[b]? = some (.cells #[v0, v1, v2] t)) :
    (∀ p : Past w1, p.W.cell? ⟨b, 0, none⟩ = some v0) ∧ (∀ p : Past w1, p.W.cell? ⟨b, 1, none⟩ = some v1) ∧ (∀ p : Past w1, p.W.cell? ⟨b, 2, none⟩ = some v2) :=
  ⟨Past.cell ((blk_cell hk 0).trans rfl), Past.cell ((blk_cell hk 1).trans rfl), Past.cell ((blk_cell hk 2).trans rfl)⟩
set_option maxHeartbeats 1000000 in
theorem journal_ordered.calls (A0 : Option Addr) (c0 : Nat) (l0 : List (S41)) (r : Bool) (w : World) (hr0 : Kd.C k41 w A0 l0.length l0) (hc0 : l0.length ≤ c0) (h : journal_ordered.f l0 = some r) :
    Calls Try.prog 36 #[.slice A0 l0.length c0] w fun e w' => e = .returned (.bool r) ∧ Below w.heap.size w w' := by
  have HR0 := Aside0.mk hr0
  have HF := Aside0.mk (Option.some.inj h)
  have hlm : l0.length ≤ 9223372036854775807 := Kd.C_max hr0
  clear hr0 hc0 h
  have hnot : ∀ (x : Bool) (w : World), (Op.unary .not (.bool x)).run Try.prog w = .ok (.bool (!x)) w := fun _ _ => rfl
  go_enter Try.func36, Try.ntmps36
  go_wp2
  go_loopg [7] (l0.length + 1) (fun kq v7 w' => ∃ k : Nat, k ≤ l0.length ∧ v7 = .int .i64 k ∧ Aside0 (kq + k = l0.length + 1) ∧ Aside0 ((List.range k).all (goodAt l0) = true) ∧ Aside0 (Below w.heap.size w w'))
  case atStart => exact ⟨0, Nat.zero_le _, rfl, ⟨by omega⟩, ⟨rfl⟩, ⟨Below.refl _ _⟩⟩
  case round =>
    obtain ⟨k, hk, rfl, HQ, HX, HB⟩ := hrel
    by_cases hlt : k < l0.length
    · obtain ⟨ad, rfl, h0, h1, h2⟩ := at_T41 (Kd.C_below HR0.out HB.out) (k : Int) (by omega) (by omega)
      rw [Int.toNat_natCast] at h0 h1 h2
      obtain ⟨x, hx⟩ : ∃ x, x = rd_T41 l0 (k : Int) := ⟨_, rfl⟩
      rw [← hx] at h0 h1 h2
      have HN := Aside0.mk (show goodAt l0 k = (img x && x.f1 && (decide (k = 0) || Op.bytesLess (rd_T41 l0 ((k : Int) - 1)).f0.toList x.f0.toList)) by rw [hx]; rfl)
      clear hx
      have HC := Aside0.mk (fun w => img_calls x w)
      go_wp2
      have hb := below_step HB.out ((Below.refl wr.heap.size wr).alloc (Nat.le_refl _) (.cells #[.string x.f0, .bool x.f1, .string x.f2] 41))
      have hk1 : (wr.alloc (.cells #[.string x.f0, .bool x.f1, .string x.f2] 41)).heap[wr.heap.size]? = some (.cells #[.string x.f0, .bool x.f1, .string x.f2] 41) := heap_alloc_new wr _
      generalize (wr.alloc (.cells #[.string x.f0, .bool x.f1, .string x.f2] 41)) = w1 at hb hk1 ⊢
      clear HB
      have HB := Aside0.mk hb
      clear hb
      obtain ⟨q0, q1, q2⟩ := image_cells hk1
      clear hk1 h0 h1 h2
      cases hi : img x
      · -- no image
        rw [hi] at HC
        have HG := Aside0.mk (show goodAt l0 k = false by rw [HN.out, hi]; rfl)
        clear hi HN
        refine wp_region_past (by kernel_rfl) (by kernel_rfl) ?_
        repeat (go_big_quiet_step (first | (go_at_call 44; exact Calls.past_of (HC.out _))))
        refine wpQuiet_nil ?_
        rintro _ ⟨p, rfl⟩
        go_wp2
        go_ret
        exact ⟨by rw [← HF.out, good_bad hlt HG.out]; rfl, below_step HB.out p.h⟩
      rw [hi] at HC
      cases hf : x.f1
      · -- nothing there
        have HG := Aside0.mk (show goodAt l0 k = false by rw [HN.out, hi, hf]; rfl)
        rw [hf] at q1 HC
        clear hi HN hf
        refine wp_region_past (by kernel_rfl) (by kernel_rfl) ?_
        repeat (go_big_quiet_step (first | (go_at_call 44; exact Calls.past_of (HC.out _))))
        refine wpQuiet_nil ?_
        rintro _ ⟨p, rfl⟩
        go_wp2
        go_ret
        exact ⟨by rw [← HF.out, good_bad hlt HG.out]; rfl, below_step HB.out p.h⟩
      rw [hf] at q1 HC
      by_cases hk0 : k = 0
      · subst hk0
        have HG := Aside0.mk (show goodAt l0 0 = true by rw [HN.out, hi, hf]; rfl)
        clear hi HN hf
        refine wp_region_past (by kernel_rfl) (by kernel_rfl) ?_
        repeat (go_big_quiet_step (first | (go_at_call 44; exact Calls.past_of (HC.out _))))
        refine wpQuiet_nil ?_
        rintro _ ⟨p, rfl⟩
        go_wp2
        go_roundg (gk - 1)
        case measure => have := HQ.out; omega
        case rel => exact ⟨1, by omega, by go_num, ⟨by have := HQ.out; omega⟩, ⟨good_upto HX.out HG.out⟩, ⟨below_step HB.out p.h⟩⟩
      obtain ⟨j, rfl⟩ : ∃ j, k = j + 1 := ⟨k - 1, by omega⟩
      obtain ⟨ad', e', g0, g1, g2⟩ := at_T41 (Kd.C_below HR0.out HB.out) (j : Int) (by omega) (by omega)
      cases e'
      rw [Int.toNat_natCast] at g0 g1 g2
      clear g1 g2
      have g := Past.cell g0
      clear g0
      have ej : ((j + 1 : Nat) : Int) - 1 = j := by omega
      rw [ej] at HN
      cases hlss : Op.bytesLess (rd_T41 l0 (j : Int)).f0.toList x.f0.toList
      · have HG := Aside0.mk (show goodAt l0 (j + 1) = false by rw [HN.out, hi, hf, hlss]; rfl)
        clear hi HN hf ej
        refine wp_region_past (by kernel_rfl) (by kernel_rfl) ?_
        repeat (go_big_quiet_step (first | (go_at_call 44; exact Calls.past_of (HC.out _))))
        refine wpQuiet_nil ?_
        rintro _ ⟨p, rfl⟩
        go_wp2
        go_ret
        exact ⟨by rw [← HF.out, good_bad hlt HG.out]; rfl, below_step HB.out p.h⟩
      · have HG := Aside0.mk (show goodAt l0 (j + 1) = true by rw [HN.out, hi, hf, hlss]; simp)
        clear hi HN hf ej
        refine wp_region_past (by kernel_rfl) (by kernel_rfl) ?_
        repeat (go_big_quiet_step (first | (go_at_call 44; exact Calls.past_of (HC.out _))))
        refine wpQuiet_nil ?_
        rintro _ ⟨p, rfl⟩
        go_wp2
        go_roundg (gk - 1)
        case measure => have := HQ.out; omega
        case rel => exact ⟨j + 1 + 1, by omega, by go_num, ⟨by have := HQ.out; omega⟩, ⟨good_upto HX.out HG.out⟩, ⟨below_step HB.out p.h⟩⟩
    · have hke : k = l0.length := by omega
      subst hke
      go_wp2
      go_ret
      exact ⟨by rw [← HF.out, HX.out]; simp; omega, HB.out⟩
end Go.Proofs.Yteblpjnkinghoaa.J
namespace Go.Proofs.Yteblpjnkinghoaa.J
open Go.RowKit Go.Proofs.YteblpjnkinghoaaW.PrintWords Go.Proofs.YteblpjnkinghoaaW.PrintLast Go.Proofs.YteblpjnkinghoaaW.PrintMore
attribute [local go_sem] max2_int min2_int max_two min_two max_three min_three max_four min_four   -- for this text's walks alone
set_option linter.unusedVariables false
set_option linter.unusedSimpArgs false
theorem eqA39 (d : Nat) (w : World) (x0 y0 : Int) (x1 y1 : Int) (x2 y2 : ByteArray) (x3 y3 : Bool) (x4 y4 : ByteArray) :
    (Op.equalIn (d + 2) 39 (.agg #[.int .i64 x0, .int .i64 x1, .string x2, .bool x3, .string x4]) (.agg #[.int .i64 y0, .int .i64 y1, .string y2, .bool y3, .string y4])).run Try.prog w = .ok (x0 == y0 && (x1 == y1 && (x2.toList == y2.toList && (x3 == y3 && (x4.toList == y4.toList))))) w := by
  refine eqA_of Try.underlying39 (by kernel_rfl) ?_
  refine eqf_cons (by rfl) (by go_simp; rfl) (by go_simp; rfl) (by go_simp) ?_
  refine eqf_cons (by rfl) (by go_simp; rfl) (by go_simp; rfl) (by go_simp) ?_
  refine eqf_cons (by rfl) (by go_simp; rfl) (by go_simp; rfl) (by go_simp) ?_
  refine eqf_cons (by rfl) (by go_simp; rfl) (by go_simp; rfl) (by go_simp) ?_
  exact eqf_last (by rfl) (by go_simp; rfl) (by go_simp; rfl) (by go_simp)
end Go.Proofs.Yteblpjnkinghoaa.J
namespace Go.Proofs.Yteblpjnkinghoaa.J
open Go.RowKit Go.Proofs.YteblpjnkinghoaaW.PrintWords Go.Proofs.YteblpjnkinghoaaW.PrintLast Go.Proofs.YteblpjnkinghoaaW.PrintMore
attribute [local go_sem] max2_int min2_int max_two min_two max_three min_three max_four min_four   -- for this text's walks alone
set_option linter.unusedVariables false
set_option linter.unusedSimpArgs false
attribute [local go_sem high] eqA39
/-! ### ringworklaw25_Notes: function 10 -/
def ringworklaw25_Notes.l0 : Nat → List (S39) → Int → Int → Option (Bool)
  | 0, _, _, _ => none
  | k + 1, x0, x3, x4 => if x4 < (x0.length : Int) then (if x4 < 60 then (if 0 ≤ x4 then (ringworklaw25_Notes.l0 k x0 (wrap64 ((wrap64 (x3 + (((rd_T39 x0 x4).f2).size : Int))) + (((rd_T39 x0 x4).f4).size : Int))) (wrap64 (x4 + 1))) else (none)) else (if (x0.length : Int) ≤ 60 then (some (decide (x3 ≤ 6000))) else (some false))) else (if (x0.length : Int) ≤ 60 then (some (decide (x3 ≤ 6000))) else (some false))
def ringworklaw25_Notes.f (k : Nat) (l0 : List (S39)) : Option (Bool) := ringworklaw25_Notes.l0 k l0 0 0
set_option maxHeartbeats 8000000 in
set_option maxRecDepth 100000 in
theorem ringworklaw25_Notes.calls (k : Nat) (A0 : Option Addr) (c0 : Nat) (l0 : List (S39)) (r : Bool) (w : World) (hr0 : Kd.C k39 w A0 l0.length l0) (hc0 : l0.length ≤ c0) (h : ringworklaw25_Notes.f k l0 = some r) :
    Calls Try.prog 10 #[.slice A0 l0.length c0] w fun e w' => e = .returned (.bool r) ∧ Drawn0 w w' := by
  have HR0 := Aside0.mk hr0
  have HC0 := Aside0.mk hc0
  clear hr0 hc0
  have H : (ringworklaw25_Notes.l0 k l0 0 0) = some r := h
  clear h
  have H' := Aside0.mk H
  clear H
  go_enter Try.func10, Try.ntmps10
  go_wp2
  repeat (go_quiet (fail); try go_wp2)
  go_loopg [3, 4] k (fun kq v3 v4 w' => ∃ (x3_1 : Int) (x4_1 : Int), v3 = .int .i64 x3_1 ∧ v4 = .int .i64 x4_1 ∧ Aside0 (ringworklaw25_Notes.l0 kq l0 x3_1 x4_1 = some r) ∧ Aside0 (kq ≤ k) ∧ Drawn0 w w')
  case atStart => exact ⟨(0), (0), (by first | rfl | (simp; done) | (simp [*]; done)), (by first | rfl | (simp; done) | (simp [*]; done)), H', ⟨Nat.le_refl _⟩, by repeat (first | exact Drawn0.refl _ | apply Drawn0.step)⟩
  case round =>
    clear H'
    try clear c1
    obtain ⟨x3_1, x4_1, rfl, rfl, HA, HK1, ⟨m1, rfl⟩⟩ := hrel
    cases gk with
    | zero => exact absurd HA.out (by simp [ringworklaw25_Notes.l0])
    | succ k1 =>
      have H := HA.out
      clear HA
      simp only [ringworklaw25_Notes.l0] at H
      by_cases c2 : x4_1 < (l0.length : Int)
      · rw [if_pos c2] at H
        have c2b0 : decide (x4_1 < (l0.length : Int)) = true := decide_eq_true c2
        clear c2
        by_cases c3 : x4_1 < 60
        · rw [if_pos c3] at H
          have c3b0 : decide (x4_1 < 60) = true := decide_eq_true c3
          clear c3
          by_cases c4 : 0 ≤ x4_1
          · rw [if_pos c4] at H
            have c4b0 : decide (0 ≤ x4_1) = true := decide_eq_true c4
            clear c4
            have H' := Aside0.mk H
            clear H
            have p114 : 0 ≤ (x4_1 : Int) := of_decide_eq_true (by first | (with_reducible assumption) | assumption)
            have q114 : x4_1 < (l0.length : Int) := of_decide_eq_true (by first | (with_reducible assumption) | assumption)
            obtain ⟨ad114, e114, hx114_0, hx114_1, hx114_2, hx114_3, hx114_4⟩ := at_T39 HR0.out x4_1 p114 q114
            cases e114
            replace p114 := eq_true p114
            replace q114 := eq_true q114
            have p115 : 0 ≤ (x4_1 : Int) := of_decide_eq_true (by first | (with_reducible assumption) | assumption)
            have q115 : x4_1 < (l0.length : Int) := of_decide_eq_true (by first | (with_reducible assumption) | assumption)
            obtain ⟨ad115, e115, hx115_0, hx115_1, hx115_2, hx115_3, hx115_4⟩ := at_T39 HR0.out x4_1 p115 q115
            obtain rfl : ad114 = ad115 := (by injection e115)
            replace p115 := eq_true p115
            replace q115 := eq_true q115
            go_wp2
            repeat (go_quiet (fail); try go_wp2)
            go_roundg k1
            case measure => have := HK1.out; omega
            case rel => exact ⟨(wrap64 ((wrap64 (x3_1 + (((rd_T39 l0 x4_1).f2).size : Int))) + (((rd_T39 l0 x4_1).f4).size : Int))), (wrap64 (x4_1 + 1)), (by first | rfl | (simp; done) | (simp [*]; done)), (by first | rfl | (simp; done) | (simp [*]; done)), H', ⟨by have := HK1.out; omega⟩, by repeat (first | exact Drawn0.refl _ | apply Drawn0.step)⟩
          · rw [if_neg c4] at H
            exact absurd H (by simp)
        · rw [if_neg c3] at H
          have c3b0 : decide (x4_1 < 60) = false := decide_eq_false c3
          clear c3
          by_cases c5 : (l0.length : Int) ≤ 60
          · rw [if_pos c5] at H
            have c5b0 : decide ((l0.length : Int) ≤ 60) = true := decide_eq_true c5
            have c5b1 : decide (l0.length ≤ 60) = true := decide_eq_true (by omega)
            clear c5
            obtain rfl := Option.some.inj H
            go_wp2
            repeat (go_quiet (fail); try go_wp2)
            go_ret
            exact ⟨by first | rfl | (simp; done) | (simp [*]; done), by repeat (first | exact Drawn0.refl _ | apply Drawn0.step)⟩
          · rw [if_neg c5] at H
            have c5b0 : decide ((l0.length : Int) ≤ 60) = false := decide_eq_false c5
            have c5b1 : decide (l0.length ≤ 60) = false := decide_eq_false (by omega)
            clear c5
            obtain rfl := Option.some.inj H
            go_wp2
            repeat (go_quiet (fail); try go_wp2)
            go_ret
            exact ⟨by first | rfl | (simp; done) | (simp [*]; done), by repeat (first | exact Drawn0.refl _ | apply Drawn0.step)⟩
      · rw [if_neg c2] at H
        have c2b0 : decide (x4_1 < (l0.length : Int)) = false := decide_eq_false c2
        clear c2
        by_cases c6 : (l0.length : Int) ≤ 60
        · rw [if_pos c6] at H
          have c6b0 : decide ((l0.length : Int) ≤ 60) = true := decide_eq_true c6
          have c6b1 : decide (l0.length ≤ 60) = true := decide_eq_true (by omega)
          clear c6
          obtain rfl := Option.some.inj H
          go_wp2
          repeat (go_quiet (fail); try go_wp2)
          go_ret
          exact ⟨by first | rfl | (simp; done) | (simp [*]; done), by repeat (first | exact Drawn0.refl _ | apply Drawn0.step)⟩
        · rw [if_neg c6] at H
          have c6b0 : decide ((l0.length : Int) ≤ 60) = false := decide_eq_false c6
          have c6b1 : decide (l0.length ≤ 60) = false := decide_eq_false (by omega)
          clear c6
          obtain rfl := Option.some.inj H
          go_wp2
          repeat (go_quiet (fail); try go_wp2)
          go_ret
          exact ⟨by first | rfl | (simp; done) | (simp [*]; done), by repeat (first | exact Drawn0.refl _ | apply Drawn0.step)⟩

end Go.Proofs.Yteblpjnkinghoaa.J
/- The contract of the reference's state, for every slice of images. -/
namespace Go.Proofs.Yteblpjnkinghoaa.J
open Go.BigFrame Go.RowKit Go.Proofs.YteblpjnkinghoaaW.PrintWords Go.Proofs.YteblpjnkinghoaaW.PrintLast Go.Proofs.YteblpjnkinghoaaW.PrintMore
theorem toList_length (s : ByteArray) : s.toList.length = s.size := by rw [ByteArray.toList_eq, data_length]
theorem toList_nil_iff (s : ByteArray) : s.toList = [] ↔ s.size = 0 := by
  rw [← toList_length]; exact List.length_eq_zero_iff.symm
/-- The two programs' images are one. -/
theorem rimg (x : S41) : ringworkref25_image.f x.f0 x.f1 x.f2 = some (img x) := by
  unfold img journal_image.f ringworkref25_image.f
  by_cases h0 : x.f0.toList = []
  · rw [if_pos h0, if_neg (by have := (toList_nil_iff _).1 h0; omega)]; rfl
  · rw [if_neg h0, if_pos (by have : x.f0.size ≠ 0 := fun h => h0 ((toList_nil_iff _).2 h); omega)]
    repeat' (first | rfl | split)
theorem drop_rd41 {l0 : List S41} {k : Nat} (h : k < l0.length) : l0.drop k = rd_T41 l0 (k : Int) :: l0.drop (k + 1) := by
  have : rd_T41 l0 (k : Int) = l0[k] := by unfold rd_T41; rw [Int.toNat_natCast, List.getD_eq_getElem?_getD, List.getElem?_eq_getElem h]; rfl
  rw [this]
  exact List.drop_eq_getElem_cons h
end Go.Proofs.Yteblpjnkinghoaa.J
namespace Go.Proofs.Yteblpjnkinghoaa.J
open Go.RowKit Go.Proofs.YteblpjnkinghoaaW.PrintWords Go.Proofs.YteblpjnkinghoaaW.PrintLast Go.Proofs.YteblpjnkinghoaaW.PrintMore
attribute [local go_sem] max2_int min2_int max_two min_two max_three min_three max_four min_four   -- for this text's walks alone
set_option linter.unusedVariables false
set_option linter.unusedSimpArgs false
/-! ### ringworkref25_Valid: function 28 -/
def ringworkref25_Valid.j0 : Nat → Int → Bool → Int → Int → ByteArray → Bool → ByteArray → Option (Bool)
  | 0, _, _, _, _, _, _, _ => none
  | k + 1, x4, x32, x117000, x117001, x117002, x117003, x117004 => if x32 = true then (if x117001 ≥ 1 then (if x117001 ≤ 1000 then ((ringworkref25_image.f x117002 x117003 x117004).bind fun t117 => (some t117)) else (some false)) else (some false)) else (if x4 = 1 then (if x117001 ≥ 1 then (if x117001 ≤ 1000 then (if x117002.toList = ([] : List UInt8) then (if x117003 = true then (some false) else (some (x117004.toList == ([] : List UInt8)))) else (some false)) else (some false)) else (some false)) else (if x4 = 4 then (if x117001 ≥ 1 then (if x117001 ≤ 1000 then (if x117002.toList = ([] : List UInt8) then (if x117003 = true then (some false) else (some (x117004.toList == ([] : List UInt8)))) else (some false)) else (some false)) else (some false)) else (if x4 = 5 then (if x117001 ≥ 1 then (if x117001 ≤ 1000 then (if x117002.toList = ([] : List UInt8) then (if x117003 = true then (some false) else (some (x117004.toList == ([] : List UInt8)))) else (some false)) else (some false)) else (some false)) else (if x4 = 7 then (if x117001 ≥ 1 then (if x117001 ≤ 1000 then (if x117002.toList = ([] : List UInt8) then (if x117003 = true then (some false) else (some (x117004.toList == ([] : List UInt8)))) else (some false)) else (some false)) else (some false)) else (some false)))))
def ringworkref25_Valid.f (k : Nat) (a0_0 : Int) (a0_1 : Int) (a0_2 : ByteArray) (a0_3 : Bool) (a0_4 : ByteArray) : Option (Bool) := if a0_0 = 6 then (if a0_1 = 0 then (if a0_2.toList = ([] : List UInt8) then (if a0_3 = true then (some false) else (if (a0_4.size : Int) ≥ 1 then (some (decide ((a0_4.size : Int) ≤ 40))) else (some false))) else (some false)) else (some false)) else (if a0_0 = 2 then (ringworkref25_Valid.j0 k a0_0 (a0_0 == 2) a0_0 a0_1 a0_2 a0_3 a0_4) else (ringworkref25_Valid.j0 k a0_0 (a0_0 == 3) a0_0 a0_1 a0_2 a0_3 a0_4))
set_option maxHeartbeats 8000000 in
set_option maxRecDepth 100000 in
theorem ringworkref25_Valid.calls (k : Nat) (a0_0 : Int) (a0_1 : Int) (a0_2 : ByteArray) (a0_3 : Bool) (a0_4 : ByteArray) (r : Bool) (w : World) (h : ringworkref25_Valid.f k a0_0 a0_1 a0_2 a0_3 a0_4 = some r) :
    Calls Try.prog 28 #[.agg #[.int .i64 a0_0, .int .i64 a0_1, .string a0_2, .bool a0_3, .string a0_4]] w fun e w' => e = .returned (.bool r) ∧ Below w.heap.size w w' := by
  have hu39 := Try.underlying39
  have hu41 := Try.underlying41
  have HB := Aside0.mk (Below.refl w.heap.size w)
  have H : (if a0_0 = 6 then (if a0_1 = 0 then (if a0_2.toList = ([] : List UInt8) then (if a0_3 = true then (some false) else (if (a0_4.size : Int) ≥ 1 then (some (decide ((a0_4.size : Int) ≤ 40))) else (some false))) else (some false)) else (some false)) else (if a0_0 = 2 then (ringworkref25_Valid.j0 k a0_0 (a0_0 == 2) a0_0 a0_1 a0_2 a0_3 a0_4) else (ringworkref25_Valid.j0 k a0_0 (a0_0 == 3) a0_0 a0_1 a0_2 a0_3 a0_4))) = some r := h
  clear h
  by_cases c2 : a0_0 = 6
  · rw [if_pos c2] at H
    have c2b0 : (a0_0 == 6) = true := beq_iff_eq.mpr c2
    have c2b1 : (a0_0 != 6) = false := bne_eq_false_iff_eq.mpr c2
    clear c2
    by_cases c3 : a0_1 = 0
    · rw [if_pos c3] at H
      have c3b0 : (a0_1 == 0) = true := beq_iff_eq.mpr c3
      have c3b1 : (a0_1 != 0) = false := bne_eq_false_iff_eq.mpr c3
      clear c3
      by_cases c4 : a0_2.toList = ([] : List UInt8)
      · rw [if_pos c4] at H
        have c4b0 : (a0_2.toList == ([] : List UInt8)) = true := beq_iff_eq.mpr c4
        have c4b1 : (a0_2.toList != ([] : List UInt8)) = false := bne_eq_false_iff_eq.mpr c4
        clear c4
        by_cases c5 : a0_3 = true
        · subst c5
          have H1 : (some false) = some r := by rw [if_pos rfl] at H; exact H
          clear H
          have H := H1
          clear H1
          obtain rfl := Option.some.inj H
          go_enter Try.func28, Try.ntmps28
          go_wp2_with (first | ((with_reducible refine gate_dst (N := 1) rfl ?_); (try (refine gate_guard (by rfl) ?_; dsimp only)); refine box_event ?hg (N := 1) ?hd (cs := #[.int .i64 a0_0, .int .i64 a0_1, .string a0_2, .bool true, .string a0_4]) (t := 39) ?hr ?_; (case hd => rfl); (case hg => rfl); (case hr => first | (go_simp; done) | (go_simp; rfl)); intro gb116 hg w6 hbox hb; have n0_ := Aside0.mk (below_step (by repeat (first | (with_reducible first | exact HB.out | apply below_alloc | apply pw_below_drewN | apply below_drew1) | exact HB.out)) hb); have n1_ := Aside0.mk (hbox); have n2_ := Aside0.mk ((by rw [hg]; exact (below_size (by repeat (first | (with_reducible first | exact HB.out | apply below_alloc | apply pw_below_drewN | apply below_drew1) | exact HB.out))) : w.heap.size ≤ gb116)); have n3_ := Aside0.mk ((by rw [hg]; exact (below_size (by repeat (first | (with_reducible first | exact HB.out | apply below_alloc | apply pw_below_drewN | apply below_drew1) | exact HB.out))) : w.heap.size ≤ gb116)); clear HB; have HB := n0_; have BK116 := n1_; have GW116 := n2_; have GE116 := n3_; clear n0_ n1_ n2_ n3_; clear hb hbox hg; have hcz7_0 : w6.cell? ⟨gb116, 0, none⟩ = some (.int .i64 a0_0) := (blk_cell BK116.out 0).trans rfl; have hcz7_1 : w6.cell? ⟨gb116, 1, none⟩ = some (.int .i64 a0_1) := (blk_cell BK116.out 1).trans rfl; have hcz7_2 : w6.cell? ⟨gb116, 2, none⟩ = some (.string a0_2) := (blk_cell BK116.out 2).trans rfl; have hcz7_3 : w6.cell? ⟨gb116, 3, none⟩ = some (.bool true) := (blk_cell BK116.out 3).trans rfl; have hcz7_4 : w6.cell? ⟨gb116, 4, none⟩ = some (.string a0_4) := (blk_cell BK116.out 4).trans rfl; have hfz7_0 := blk_frozen BK116.out 0; have hfz7_1 := blk_frozen BK116.out 1; have hfz7_2 := blk_frozen BK116.out 2; have hfz7_3 := blk_frozen BK116.out 3; have hfz7_4 := blk_frozen BK116.out 4))
          go_ret
          exact ⟨by first | rfl | (simp [errW_none, errW_some] <;> rfl) | (simp [*, errW_none, errW_some] <;> rfl), by repeat (first | (with_reducible first | exact HB.out | apply below_alloc | apply pw_below_drewN | apply below_drew1 | refine below_set ?_ GE116.out) | exact HB.out)⟩
        · replace c5 := Bool.eq_false_iff.mpr c5
          subst c5
          have H1 : (if (a0_4.size : Int) ≥ 1 then (some (decide ((a0_4.size : Int) ≤ 40))) else (some false)) = some r := by rw [if_neg (show ¬ (false = true) by decide)] at H; exact H
          clear H
          have H := H1
          clear H1
          by_cases c8 : (a0_4.size : Int) ≥ 1
          · rw [if_pos c8] at H
            have c8b0 : decide (1 ≤ (a0_4.size : Int)) = true := decide_eq_true c8
            have c8b1 : decide (1 ≤ a0_4.size) = true := decide_eq_true (by omega)
            clear c8
            obtain rfl := Option.some.inj H
            go_enter Try.func28, Try.ntmps28
            go_wp2_with (first | ((with_reducible refine gate_dst (N := 1) rfl ?_); (try (refine gate_guard (by rfl) ?_; dsimp only)); refine box_event ?hg (N := 1) ?hd (cs := #[.int .i64 a0_0, .int .i64 a0_1, .string a0_2, .bool false, .string a0_4]) (t := 39) ?hr ?_; (case hd => rfl); (case hg => rfl); (case hr => first | (go_simp; done) | (go_simp; rfl)); intro gb116 hg w9 hbox hb; have n0_ := Aside0.mk (below_step (by repeat (first | (with_reducible first | exact HB.out | apply below_alloc | apply pw_below_drewN | apply below_drew1) | exact HB.out)) hb); have n1_ := Aside0.mk (hbox); have n2_ := Aside0.mk ((by rw [hg]; exact (below_size (by repeat (first | (with_reducible first | exact HB.out | apply below_alloc | apply pw_below_drewN | apply below_drew1) | exact HB.out))) : w.heap.size ≤ gb116)); have n3_ := Aside0.mk ((by rw [hg]; exact (below_size (by repeat (first | (with_reducible first | exact HB.out | apply below_alloc | apply pw_below_drewN | apply below_drew1) | exact HB.out))) : w.heap.size ≤ gb116)); clear HB; have HB := n0_; have BK116 := n1_; have GW116 := n2_; have GE116 := n3_; clear n0_ n1_ n2_ n3_; clear hb hbox hg; have hcz10_0 : w9.cell? ⟨gb116, 0, none⟩ = some (.int .i64 a0_0) := (blk_cell BK116.out 0).trans rfl; have hcz10_1 : w9.cell? ⟨gb116, 1, none⟩ = some (.int .i64 a0_1) := (blk_cell BK116.out 1).trans rfl; have hcz10_2 : w9.cell? ⟨gb116, 2, none⟩ = some (.string a0_2) := (blk_cell BK116.out 2).trans rfl; have hcz10_3 : w9.cell? ⟨gb116, 3, none⟩ = some (.bool false) := (blk_cell BK116.out 3).trans rfl; have hcz10_4 : w9.cell? ⟨gb116, 4, none⟩ = some (.string a0_4) := (blk_cell BK116.out 4).trans rfl; have hfz10_0 := blk_frozen BK116.out 0; have hfz10_1 := blk_frozen BK116.out 1; have hfz10_2 := blk_frozen BK116.out 2; have hfz10_3 := blk_frozen BK116.out 3; have hfz10_4 := blk_frozen BK116.out 4))
            go_ret
            exact ⟨by first | rfl | (simp [errW_none, errW_some] <;> rfl) | (simp [*, errW_none, errW_some] <;> rfl), by repeat (first | (with_reducible first | exact HB.out | apply below_alloc | apply pw_below_drewN | apply below_drew1 | refine below_set ?_ GE116.out) | exact HB.out)⟩
          · rw [if_neg c8] at H
            have c8b0 : decide (1 ≤ (a0_4.size : Int)) = false := decide_eq_false c8
            have c8b1 : decide (1 ≤ a0_4.size) = false := decide_eq_false (by omega)
            clear c8
            obtain rfl := Option.some.inj H
            go_enter Try.func28, Try.ntmps28
            go_wp2_with (first | ((with_reducible refine gate_dst (N := 1) rfl ?_); (try (refine gate_guard (by rfl) ?_; dsimp only)); refine box_event ?hg (N := 1) ?hd (cs := #[.int .i64 a0_0, .int .i64 a0_1, .string a0_2, .bool false, .string a0_4]) (t := 39) ?hr ?_; (case hd => rfl); (case hg => rfl); (case hr => first | (go_simp; done) | (go_simp; rfl)); intro gb116 hg w11 hbox hb; have n0_ := Aside0.mk (below_step (by repeat (first | (with_reducible first | exact HB.out | apply below_alloc | apply pw_below_drewN | apply below_drew1) | exact HB.out)) hb); have n1_ := Aside0.mk (hbox); have n2_ := Aside0.mk ((by rw [hg]; exact (below_size (by repeat (first | (with_reducible first | exact HB.out | apply below_alloc | apply pw_below_drewN | apply below_drew1) | exact HB.out))) : w.heap.size ≤ gb116)); have n3_ := Aside0.mk ((by rw [hg]; exact (below_size (by repeat (first | (with_reducible first | exact HB.out | apply below_alloc | apply pw_below_drewN | apply below_drew1) | exact HB.out))) : w.heap.size ≤ gb116)); clear HB; have HB := n0_; have BK116 := n1_; have GW116 := n2_; have GE116 := n3_; clear n0_ n1_ n2_ n3_; clear hb hbox hg; have hcz12_0 : w11.cell? ⟨gb116, 0, none⟩ = some (.int .i64 a0_0) := (blk_cell BK116.out 0).trans rfl; have hcz12_1 : w11.cell? ⟨gb116, 1, none⟩ = some (.int .i64 a0_1) := (blk_cell BK116.out 1).trans rfl; have hcz12_2 : w11.cell? ⟨gb116, 2, none⟩ = some (.string a0_2) := (blk_cell BK116.out 2).trans rfl; have hcz12_3 : w11.cell? ⟨gb116, 3, none⟩ = some (.bool false) := (blk_cell BK116.out 3).trans rfl; have hcz12_4 : w11.cell? ⟨gb116, 4, none⟩ = some (.string a0_4) := (blk_cell BK116.out 4).trans rfl; have hfz12_0 := blk_frozen BK116.out 0; have hfz12_1 := blk_frozen BK116.out 1; have hfz12_2 := blk_frozen BK116.out 2; have hfz12_3 := blk_frozen BK116.out 3; have hfz12_4 := blk_frozen BK116.out 4))
            go_ret
            exact ⟨by first | rfl | (simp [errW_none, errW_some] <;> rfl) | (simp [*, errW_none, errW_some] <;> rfl), by repeat (first | (with_reducible first | exact HB.out | apply below_alloc | apply pw_below_drewN | apply below_drew1 | refine below_set ?_ GE116.out) | exact HB.out)⟩
      · rw [if_neg c4] at H
        have c4b0 : (a0_2.toList == ([] : List UInt8)) = false := beq_eq_false_iff_ne.mpr c4
        have c4b1 : (a0_2.toList != ([] : List UInt8)) = true := bne_iff_ne.mpr c4
        obtain rfl := Option.some.inj H
        go_enter Try.func28, Try.ntmps28
        go_wp2_with (first | ((with_reducible refine gate_dst (N := 1) rfl ?_); (try (refine gate_guard (by rfl) ?_; dsimp only)); refine box_event ?hg (N := 1) ?hd (cs := #[.int .i64 a0_0, .int .i64 a0_1, .string a0_2, .bool a0_3, .string a0_4]) (t := 39) ?hr ?_; (case hd => rfl); (case hg => rfl); (case hr => first | (go_simp; done) | (go_simp; rfl)); intro gb116 hg w13 hbox hb; have n0_ := Aside0.mk (below_step (by repeat (first | (with_reducible first | exact HB.out | apply below_alloc | apply pw_below_drewN | apply below_drew1) | exact HB.out)) hb); have n1_ := Aside0.mk (hbox); have n2_ := Aside0.mk ((by rw [hg]; exact (below_size (by repeat (first | (with_reducible first | exact HB.out | apply below_alloc | apply pw_below_drewN | apply below_drew1) | exact HB.out))) : w.heap.size ≤ gb116)); have n3_ := Aside0.mk ((by rw [hg]; exact (below_size (by repeat (first | (with_reducible first | exact HB.out | apply below_alloc | apply pw_below_drewN | apply below_drew1) | exact HB.out))) : w.heap.size ≤ gb116)); clear HB; have HB := n0_; have BK116 := n1_; have GW116 := n2_; have GE116 := n3_; clear n0_ n1_ n2_ n3_; clear hb hbox hg; have hcz14_0 : w13.cell? ⟨gb116, 0, none⟩ = some (.int .i64 a0_0) := (blk_cell BK116.out 0).trans rfl; have hcz14_1 : w13.cell? ⟨gb116, 1, none⟩ = some (.int .i64 a0_1) := (blk_cell BK116.out 1).trans rfl; have hcz14_2 : w13.cell? ⟨gb116, 2, none⟩ = some (.string a0_2) := (blk_cell BK116.out 2).trans rfl; have hcz14_3 : w13.cell? ⟨gb116, 3, none⟩ = some (.bool a0_3) := (blk_cell BK116.out 3).trans rfl; have hcz14_4 : w13.cell? ⟨gb116, 4, none⟩ = some (.string a0_4) := (blk_cell BK116.out 4).trans rfl; have hfz14_0 := blk_frozen BK116.out 0; have hfz14_1 := blk_frozen BK116.out 1; have hfz14_2 := blk_frozen BK116.out 2; have hfz14_3 := blk_frozen BK116.out 3; have hfz14_4 := blk_frozen BK116.out 4))
        go_ret
        exact ⟨by first | rfl | (simp [errW_none, errW_some] <;> rfl) | (simp [*, errW_none, errW_some] <;> rfl), by repeat (first | (with_reducible first | exact HB.out | apply below_alloc | apply pw_below_drewN | apply below_drew1 | refine below_set ?_ GE116.out) | exact HB.out)⟩
    · rw [if_neg c3] at H
      have c3b0 : (a0_1 == 0) = false := beq_eq_false_iff_ne.mpr c3
      have c3b1 : (a0_1 != 0) = true := bne_iff_ne.mpr c3
      obtain rfl := Option.some.inj H
      go_enter Try.func28, Try.ntmps28
      go_wp2_with (first | ((with_reducible refine gate_dst (N := 1) rfl ?_); (try (refine gate_guard (by rfl) ?_; dsimp only)); refine box_event ?hg (N := 1) ?hd (cs := #[.int .i64 a0_0, .int .i64 a0_1, .string a0_2, .bool a0_3, .string a0_4]) (t := 39) ?hr ?_; (case hd => rfl); (case hg => rfl); (case hr => first | (go_simp; done) | (go_simp; rfl)); intro gb116 hg w15 hbox hb; have n0_ := Aside0.mk (below_step (by repeat (first | (with_reducible first | exact HB.out | apply below_alloc | apply pw_below_drewN | apply below_drew1) | exact HB.out)) hb); have n1_ := Aside0.mk (hbox); have n2_ := Aside0.mk ((by rw [hg]; exact (below_size (by repeat (first | (with_reducible first | exact HB.out | apply below_alloc | apply pw_below_drewN | apply below_drew1) | exact HB.out))) : w.heap.size ≤ gb116)); have n3_ := Aside0.mk ((by rw [hg]; exact (below_size (by repeat (first | (with_reducible first | exact HB.out | apply below_alloc | apply pw_below_drewN | apply below_drew1) | exact HB.out))) : w.heap.size ≤ gb116)); clear HB; have HB := n0_; have BK116 := n1_; have GW116 := n2_; have GE116 := n3_; clear n0_ n1_ n2_ n3_; clear hb hbox hg; have hcz16_0 : w15.cell? ⟨gb116, 0, none⟩ = some (.int .i64 a0_0) := (blk_cell BK116.out 0).trans rfl; have hcz16_1 : w15.cell? ⟨gb116, 1, none⟩ = some (.int .i64 a0_1) := (blk_cell BK116.out 1).trans rfl; have hcz16_2 : w15.cell? ⟨gb116, 2, none⟩ = some (.string a0_2) := (blk_cell BK116.out 2).trans rfl; have hcz16_3 : w15.cell? ⟨gb116, 3, none⟩ = some (.bool a0_3) := (blk_cell BK116.out 3).trans rfl; have hcz16_4 : w15.cell? ⟨gb116, 4, none⟩ = some (.string a0_4) := (blk_cell BK116.out 4).trans rfl; have hfz16_0 := blk_frozen BK116.out 0; have hfz16_1 := blk_frozen BK116.out 1; have hfz16_2 := blk_frozen BK116.out 2; have hfz16_3 := blk_frozen BK116.out 3; have hfz16_4 := blk_frozen BK116.out 4))
      go_ret
      exact ⟨by first | rfl | (simp [errW_none, errW_some] <;> rfl) | (simp [*, errW_none, errW_some] <;> rfl), by repeat (first | (with_reducible first | exact HB.out | apply below_alloc | apply pw_below_drewN | apply below_drew1 | refine below_set ?_ GE116.out) | exact HB.out)⟩
  · rw [if_neg c2] at H
    have c2b0 : (a0_0 == 6) = false := beq_eq_false_iff_ne.mpr c2
    have c2b1 : (a0_0 != 6) = true := bne_iff_ne.mpr c2
    have HC17 := Aside0.mk H
    clear H
    go_enter Try.func28, Try.ntmps28
    go_upto_if 32 with (first | ((with_reducible refine gate_dst (N := 1) rfl ?_); (try (refine gate_guard (by rfl) ?_; dsimp only)); refine box_event ?hg (N := 1) ?hd (cs := #[.int .i64 a0_0, .int .i64 a0_1, .string a0_2, .bool a0_3, .string a0_4]) (t := 39) ?hr ?_; (case hd => rfl); (case hg => rfl); (case hr => first | (go_simp; done) | (go_simp; rfl)); intro gb116 hg w18 hbox hb; have n0_ := Aside0.mk (below_step (by repeat (first | (with_reducible first | exact HB.out | apply below_alloc | apply pw_below_drewN | apply below_drew1) | exact HB.out)) hb); have n1_ := Aside0.mk (hbox); have n2_ := Aside0.mk ((by rw [hg]; exact (below_size (by repeat (first | (with_reducible first | exact HB.out | apply below_alloc | apply pw_below_drewN | apply below_drew1) | exact HB.out))) : w.heap.size ≤ gb116)); have n3_ := Aside0.mk ((by rw [hg]; exact (below_size (by repeat (first | (with_reducible first | exact HB.out | apply below_alloc | apply pw_below_drewN | apply below_drew1) | exact HB.out))) : w.heap.size ≤ gb116)); clear HB; have HB := n0_; have BK116 := n1_; have GW116 := n2_; have GE116 := n3_; clear n0_ n1_ n2_ n3_; clear hb hbox hg; have hcz19_0 : w18.cell? ⟨gb116, 0, none⟩ = some (.int .i64 a0_0) := (blk_cell BK116.out 0).trans rfl; have hcz19_1 : w18.cell? ⟨gb116, 1, none⟩ = some (.int .i64 a0_1) := (blk_cell BK116.out 1).trans rfl; have hcz19_2 : w18.cell? ⟨gb116, 2, none⟩ = some (.string a0_2) := (blk_cell BK116.out 2).trans rfl; have hcz19_3 : w18.cell? ⟨gb116, 3, none⟩ = some (.bool a0_3) := (blk_cell BK116.out 3).trans rfl; have hcz19_4 : w18.cell? ⟨gb116, 4, none⟩ = some (.string a0_4) := (blk_cell BK116.out 4).trans rfl; have hfz19_0 := blk_frozen BK116.out 0; have hfz19_1 := blk_frozen BK116.out 1; have hfz19_2 := blk_frozen BK116.out 2; have hfz19_3 := blk_frozen BK116.out 3; have hfz19_4 := blk_frozen BK116.out 4))
    (try simp only [Act.put, List.setIfInBounds_toArray, List.set_cons_zero, List.set_cons_succ])
    go_cut [32] (fun v32 wc => ∃ (kq : Nat) (x32_16 : Bool), v32 = .bool x32_16 ∧ Aside0 (ringworkref25_Valid.j0 kq a0_0 x32_16 a0_0 a0_1 a0_2 a0_3 a0_4 = some r) ∧ Aside0 (kq ≤ k) ∧ Aside0 (wc.heap[gb116]? = some (.cells #[.int .i64 a0_0, .int .i64 a0_1, .string a0_2, .bool a0_3, .string a0_4] 39 (0, 0))) ∧ Aside0 (Below w.heap.size w wc))
    case first =>
      have H := HC17.out
      clear HC17
      by_cases c20 : a0_0 = 2
      · rw [if_pos c20] at H
        have c20b0 : (a0_0 == 2) = true := beq_iff_eq.mpr c20
        have c20b1 : (a0_0 != 2) = false := bne_eq_false_iff_eq.mpr c20
        clear c20
        (first | rw [c20b0] | (simp only [i64_w, i32_w]; rw [c20b0]) | skip)
        have H' := Aside0.mk H
        clear H
        go_wp2
        go_meet
        case rel => exact ⟨_, ((a0_0 == 2)), (by first | rfl | (simp; done) | (simp [*]; done)), H', ⟨by first | omega | exact Nat.le_refl _⟩, ⟨by (with_reducible repeat (first | refine blk_drewN ?_ _ | refine blk_drew ?_ | refine blk_alloc ?_ _)); exact BK116.out⟩, ⟨by repeat (first | (with_reducible first | exact HB.out | apply below_alloc | apply pw_below_drewN | apply below_drew1 | refine below_set ?_ GE116.out) | exact HB.out)⟩⟩
      · rw [if_neg c20] at H
        have c20b0 : (a0_0 == 2) = false := beq_eq_false_iff_ne.mpr c20
        have c20b1 : (a0_0 != 2) = true := bne_iff_ne.mpr c20
        (first | rw [c20b0] | (simp only [i64_w, i32_w]; rw [c20b0]) | skip)
        have H' := Aside0.mk H
        clear H
        go_wp2
        go_meet
        case rel => exact ⟨_, ((a0_0 == 3)), (by first | rfl | (simp; done) | (simp [*]; done)), H', ⟨by first | omega | exact Nat.le_refl _⟩, ⟨by (with_reducible repeat (first | refine blk_drewN ?_ _ | refine blk_drew ?_ | refine blk_alloc ?_ _)); exact BK116.out⟩, ⟨by repeat (first | (with_reducible first | exact HB.out | apply below_alloc | apply pw_below_drewN | apply below_drew1 | refine below_set ?_ GE116.out) | exact HB.out)⟩⟩
    case rest =>
      clear HC17
      try clear c2
      try clear c2b0
      try clear c2b1
      try clear p2
      try clear c3
      try clear c3b0
      try clear c3b1
      try clear c4
      try clear c4b0
      try clear c4b1
      try clear c5
      try clear c8
      try clear c8b0
      try clear c8b1
      try clear c20
      try clear c20b0
      try clear c20b1
      try clear hcz10_0
      try clear hcz10_1
      try clear hcz10_2
      try clear hcz10_3
      try clear hcz10_4
      try clear hcz12_0
      try clear hcz12_1
      try clear hcz12_2
      try clear hcz12_3
      try clear hcz12_4
      try clear hcz14_0
      try clear hcz14_1
      try clear hcz14_2
      try clear hcz14_3
      try clear hcz14_4
      try clear hcz16_0
      try clear hcz16_1
      try clear hcz16_2
      try clear hcz16_3
      try clear hcz16_4
      try clear hcz19_0
      try clear hcz19_1
      try clear hcz19_2
      try clear hcz19_3
      try clear hcz19_4
      try clear hcz7_0
      try clear hcz7_1
      try clear hcz7_2
      try clear hcz7_3
      try clear hcz7_4
      try clear hfz10_0
      try clear hfz10_1
      try clear hfz10_2
      try clear hfz10_3
      try clear hfz10_4
      try clear hfz12_0
      try clear hfz12_1
      try clear hfz12_2
      try clear hfz12_3
      try clear hfz12_4
      try clear hfz14_0
      try clear hfz14_1
      try clear hfz14_2
      try clear hfz14_3
      try clear hfz14_4
      try clear hfz16_0
      try clear hfz16_1
      try clear hfz16_2
      try clear hfz16_3
      try clear hfz16_4
      try clear hfz19_0
      try clear hfz19_1
      try clear hfz19_2
      try clear hfz19_3
      try clear hfz19_4
      try clear hfz7_0
      try clear hfz7_1
      try clear hfz7_2
      try clear hfz7_3
      try clear hfz7_4
      obtain ⟨kq, x32_16, rfl, HA, HJ16, BK116, HB⟩ := hcut
      cases kq with
      | zero => exact absurd HA.out (by simp [ringworkref25_Valid.j0])
      | succ kj16 =>
        have H := HA.out
        clear HA
        simp only [ringworkref25_Valid.j0] at H
        by_cases c21 : x32_16 = true
        · subst c21
          have H1 : (if a0_1 ≥ 1 then (if a0_1 ≤ 1000 then ((ringworkref25_image.f a0_2 a0_3 a0_4).bind fun t117 => (some t117)) else (some false)) else (some false)) = some r := by rw [if_pos rfl] at H; exact H
          clear H
          have H := H1
          clear H1
          by_cases c22 : a0_1 ≥ 1
          · rw [if_pos c22] at H
            have c22b0 : decide (1 ≤ a0_1) = true := decide_eq_true c22
            clear c22
            by_cases c23 : a0_1 ≤ 1000
            · rw [if_pos c23] at H
              have c23b0 : decide (a0_1 ≤ 1000) = true := decide_eq_true c23
              clear c23
              replace H := Option.bind_eq_some_iff.mp H
              obtain ⟨t117, A240, H⟩ := H
              replace H : (some t117) = some r := H
              have A24 := Aside0.mk A240
              clear A240
              obtain rfl := Option.some.inj H
              have hcz25_0 : wc.cell? ⟨gb116, 0, none⟩ = some (.int .i64 a0_0) := (blk_cell BK116.out 0).trans rfl
              have hcz25_1 : wc.cell? ⟨gb116, 1, none⟩ = some (.int .i64 a0_1) := (blk_cell BK116.out 1).trans rfl
              have hcz25_2 : wc.cell? ⟨gb116, 2, none⟩ = some (.string a0_2) := (blk_cell BK116.out 2).trans rfl
              have hcz25_3 : wc.cell? ⟨gb116, 3, none⟩ = some (.bool a0_3) := (blk_cell BK116.out 3).trans rfl
              have hcz25_4 : wc.cell? ⟨gb116, 4, none⟩ = some (.string a0_4) := (blk_cell BK116.out 4).trans rfl
              have hfz25_0 := blk_frozen BK116.out 0
              have hfz25_1 := blk_frozen BK116.out 1
              have hfz25_2 := blk_frozen BK116.out 2
              have hfz25_3 := blk_frozen BK116.out 3
              have hfz25_4 := blk_frozen BK116.out 4
              go_wp2_with (first | (go_at_call 59; (with_reducible refine (ringworkref25_image.calls a0_2 a0_3 a0_4 t117 _ A24.out).mono ?_); rintro e w26 ⟨rfl, hb⟩; have n0_ := Aside0.mk (blk_below (g := gb116) (o := .cells #[.int .i64 a0_0, .int .i64 a0_1, .string a0_2, .bool a0_3, .string a0_4] 39 (0, 0)) (by (with_reducible repeat (first | refine blk_drewN ?_ _ | refine blk_drew ?_ | refine blk_alloc ?_ _)); exact BK116.out) hb); have n1_ := Aside0.mk (below_step (by repeat (first | (with_reducible first | exact HB.out | apply below_alloc | apply pw_below_drewN | apply below_drew1 | refine below_set ?_ GE116.out) | exact HB.out)) hb); clear BK116; clear HB; have BK116 := n0_; have HB := n1_; clear n0_ n1_; (try clear hb); (try clear hb2); (try clear hk); (try clear hi)))
              go_ret
              exact ⟨by first | rfl | (simp [errW_none, errW_some] <;> rfl) | (simp [*, errW_none, errW_some] <;> rfl), by repeat (first | (with_reducible first | exact HB.out | apply below_alloc | apply pw_below_drewN | apply below_drew1 | refine below_set ?_ GE116.out) | exact HB.out)⟩
            · rw [if_neg c23] at H
              have c23b0 : decide (a0_1 ≤ 1000) = false := decide_eq_false c23
              clear c23
              obtain rfl := Option.some.inj H
              have hcz27_0 : wc.cell? ⟨gb116, 0, none⟩ = some (.int .i64 a0_0) := (blk_cell BK116.out 0).trans rfl
              have hcz27_1 : wc.cell? ⟨gb116, 1, none⟩ = some (.int .i64 a0_1) := (blk_cell BK116.out 1).trans rfl
              have hcz27_2 : wc.cell? ⟨gb116, 2, none⟩ = some (.string a0_2) := (blk_cell BK116.out 2).trans rfl
              have hcz27_3 : wc.cell? ⟨gb116, 3, none⟩ = some (.bool a0_3) := (blk_cell BK116.out 3).trans rfl
              have hcz27_4 : wc.cell? ⟨gb116, 4, none⟩ = some (.string a0_4) := (blk_cell BK116.out 4).trans rfl
              have hfz27_0 := blk_frozen BK116.out 0
              have hfz27_1 := blk_frozen BK116.out 1
              have hfz27_2 := blk_frozen BK116.out 2
              have hfz27_3 := blk_frozen BK116.out 3
              have hfz27_4 := blk_frozen BK116.out 4
              go_wp2
              go_ret
              exact ⟨by first | rfl | (simp [errW_none, errW_some] <;> rfl) | (simp [*, errW_none, errW_some] <;> rfl), by repeat (first | (with_reducible first | exact HB.out | apply below_alloc | apply pw_below_drewN | apply below_drew1 | refine below_set ?_ GE116.out) | exact HB.out)⟩
          · rw [if_neg c22] at H
            have c22b0 : decide (1 ≤ a0_1) = false := decide_eq_false c22
            clear c22
            obtain rfl := Option.some.inj H
            have hcz28_0 : wc.cell? ⟨gb116, 0, none⟩ = some (.int .i64 a0_0) := (blk_cell BK116.out 0).trans rfl
            have hcz28_1 : wc.cell? ⟨gb116, 1, none⟩ = some (.int .i64 a0_1) := (blk_cell BK116.out 1).trans rfl
            have hcz28_2 : wc.cell? ⟨gb116, 2, none⟩ = some (.string a0_2) := (blk_cell BK116.out 2).trans rfl
            have hcz28_3 : wc.cell? ⟨gb116, 3, none⟩ = some (.bool a0_3) := (blk_cell BK116.out 3).trans rfl
            have hcz28_4 : wc.cell? ⟨gb116, 4, none⟩ = some (.string a0_4) := (blk_cell BK116.out 4).trans rfl
            have hfz28_0 := blk_frozen BK116.out 0
            have hfz28_1 := blk_frozen BK116.out 1
            have hfz28_2 := blk_frozen BK116.out 2
            have hfz28_3 := blk_frozen BK116.out 3
            have hfz28_4 := blk_frozen BK116.out 4
            go_wp2
            go_ret
            exact ⟨by first | rfl | (simp [errW_none, errW_some] <;> rfl) | (simp [*, errW_none, errW_some] <;> rfl), by repeat (first | (with_reducible first | exact HB.out | apply below_alloc | apply pw_below_drewN | apply below_drew1 | refine below_set ?_ GE116.out) | exact HB.out)⟩
        · replace c21 := Bool.eq_false_iff.mpr c21
          subst c21
          have H1 : (if a0_0 = 1 then (if a0_1 ≥ 1 then (if a0_1 ≤ 1000 then (if a0_2.toList = ([] : List UInt8) then (if a0_3 = true then (some false) else (some (a0_4.toList == ([] : List UInt8)))) else (some false)) else (some false)) else (some false)) else (if a0_0 = 4 then (if a0_1 ≥ 1 then (if a0_1 ≤ 1000 then (if a0_2.toList = ([] : List UInt8) then (if a0_3 = true then (some false) else (some (a0_4.toList == ([] : List UInt8)))) else (some false)) else (some false)) else (some false)) else (if a0_0 = 5 then (if a0_1 ≥ 1 then (if a0_1 ≤ 1000 then (if a0_2.toList = ([] : List UInt8) then (if a0_3 = true then (some false) else (some (a0_4.toList == ([] : List UInt8)))) else (some false)) else (some false)) else (some false)) else (if a0_0 = 7 then (if a0_1 ≥ 1 then (if a0_1 ≤ 1000 then (if a0_2.toList = ([] : List UInt8) then (if a0_3 = true then (some false) else (some (a0_4.toList == ([] : List UInt8)))) else (some false)) else (some false)) else (some false)) else (some false))))) = some r := by rw [if_neg (show ¬ (false = true) by decide)] at H; exact H
          clear H
          have H := H1
          clear H1
          by_cases c29 : a0_0 = 1
          · rw [if_pos c29] at H
            have c29b0 : (a0_0 == 1) = true := beq_iff_eq.mpr c29
            have c29b1 : (a0_0 != 1) = false := bne_eq_false_iff_eq.mpr c29
            clear c29
            by_cases c30 : a0_1 ≥ 1
            · rw [if_pos c30] at H
              have c30b0 : decide (1 ≤ a0_1) = true := decide_eq_true c30
              clear c30
              by_cases c31 : a0_1 ≤ 1000
              · rw [if_pos c31] at H
                have c31b0 : decide (a0_1 ≤ 1000) = true := decide_eq_true c31
                clear c31
                by_cases c32 : a0_2.toList = ([] : List UInt8)
                · rw [if_pos c32] at H
                  have c32b0 : (a0_2.toList == ([] : List UInt8)) = true := beq_iff_eq.mpr c32
                  have c32b1 : (a0_2.toList != ([] : List UInt8)) = false := bne_eq_false_iff_eq.mpr c32
                  clear c32
                  by_cases c33 : a0_3 = true
                  · subst c33
                    have H1 : (some false) = some r := by rw [if_pos rfl] at H; exact H
                    clear H
                    have H := H1
                    clear H1
                    obtain rfl := Option.some.inj H
                    have hcz34_0 : wc.cell? ⟨gb116, 0, none⟩ = some (.int .i64 a0_0) := (blk_cell BK116.out 0).trans rfl
                    have hcz34_1 : wc.cell? ⟨gb116, 1, none⟩ = some (.int .i64 a0_1) := (blk_cell BK116.out 1).trans rfl
                    have hcz34_2 : wc.cell? ⟨gb116, 2, none⟩ = some (.string a0_2) := (blk_cell BK116.out 2).trans rfl
                    have hcz34_3 : wc.cell? ⟨gb116, 3, none⟩ = some (.bool true) := (blk_cell BK116.out 3).trans rfl
                    have hcz34_4 : wc.cell? ⟨gb116, 4, none⟩ = some (.string a0_4) := (blk_cell BK116.out 4).trans rfl
                    have hfz34_0 := blk_frozen BK116.out 0
                    have hfz34_1 := blk_frozen BK116.out 1
                    have hfz34_2 := blk_frozen BK116.out 2
                    have hfz34_3 := blk_frozen BK116.out 3
                    have hfz34_4 := blk_frozen BK116.out 4
                    go_wp2
                    go_ret
                    exact ⟨by first | rfl | (simp [errW_none, errW_some] <;> rfl) | (simp [*, errW_none, errW_some] <;> rfl), by repeat (first | (with_reducible first | exact HB.out | apply below_alloc | apply pw_below_drewN | apply below_drew1 | refine below_set ?_ GE116.out) | exact HB.out)⟩
                  · replace c33 := Bool.eq_false_iff.mpr c33
                    subst c33
                    have H1 : (some (a0_4.toList == ([] : List UInt8))) = some r := by rw [if_neg (show ¬ (false = true) by decide)] at H; exact H
                    clear H
                    have H := H1
                    clear H1
                    obtain rfl := Option.some.inj H
                    have hcz35_0 : wc.cell? ⟨gb116, 0, none⟩ = some (.int .i64 a0_0) := (blk_cell BK116.out 0).trans rfl
                    have hcz35_1 : wc.cell? ⟨gb116, 1, none⟩ = some (.int .i64 a0_1) := (blk_cell BK116.out 1).trans rfl
                    have hcz35_2 : wc.cell? ⟨gb116, 2, none⟩ = some (.string a0_2) := (blk_cell BK116.out 2).trans rfl
                    have hcz35_3 : wc.cell? ⟨gb116, 3, none⟩ = some (.bool false) := (blk_cell BK116.out 3).trans rfl
                    have hcz35_4 : wc.cell? ⟨gb116, 4, none⟩ = some (.string a0_4) := (blk_cell BK116.out 4).trans rfl
                    have hfz35_0 := blk_frozen BK116.out 0
                    have hfz35_1 := blk_frozen BK116.out 1
                    have hfz35_2 := blk_frozen BK116.out 2
                    have hfz35_3 := blk_frozen BK116.out 3
                    have hfz35_4 := blk_frozen BK116.out 4
                    go_wp2
                    go_ret
                    exact ⟨by first | rfl | (simp [errW_none, errW_some] <;> rfl) | (simp [*, errW_none, errW_some] <;> rfl), by repeat (first | (with_reducible first | exact HB.out | apply below_alloc | apply pw_below_drewN | apply below_drew1 | refine below_set ?_ GE116.out) | exact HB.out)⟩
                · rw [if_neg c32] at H
                  have c32b0 : (a0_2.toList == ([] : List UInt8)) = false := beq_eq_false_iff_ne.mpr c32
                  have c32b1 : (a0_2.toList != ([] : List UInt8)) = true := bne_iff_ne.mpr c32
                  obtain rfl := Option.some.inj H
                  have hcz36_0 : wc.cell? ⟨gb116, 0, none⟩ = some (.int .i64 a0_0) := (blk_cell BK116.out 0).trans rfl
                  have hcz36_1 : wc.cell? ⟨gb116, 1, none⟩ = some (.int .i64 a0_1) := (blk_cell BK116.out 1).trans rfl
                  have hcz36_2 : wc.cell? ⟨gb116, 2, none⟩ = some (.string a0_2) := (blk_cell BK116.out 2).trans rfl
                  have hcz36_3 : wc.cell? ⟨gb116, 3, none⟩ = some (.bool a0_3) := (blk_cell BK116.out 3).trans rfl
                  have hcz36_4 : wc.cell? ⟨gb116, 4, none⟩ = some (.string a0_4) := (blk_cell BK116.out 4).trans rfl
                  have hfz36_0 := blk_frozen BK116.out 0
                  have hfz36_1 := blk_frozen BK116.out 1
                  have hfz36_2 := blk_frozen BK116.out 2
                  have hfz36_3 := blk_frozen BK116.out 3
                  have hfz36_4 := blk_frozen BK116.out 4
                  go_wp2
                  go_ret
                  exact ⟨by first | rfl | (simp [errW_none, errW_some] <;> rfl) | (simp [*, errW_none, errW_some] <;> rfl), by repeat (first | (with_reducible first | exact HB.out | apply below_alloc | apply pw_below_drewN | apply below_drew1 | refine below_set ?_ GE116.out) | exact HB.out)⟩
              · rw [if_neg c31] at H
                have c31b0 : decide (a0_1 ≤ 1000) = false := decide_eq_false c31
                clear c31
                obtain rfl := Option.some.inj H
                have hcz37_0 : wc.cell? ⟨gb116, 0, none⟩ = some (.int .i64 a0_0) := (blk_cell BK116.out 0).trans rfl
                have hcz37_1 : wc.cell? ⟨gb116, 1, none⟩ = some (.int .i64 a0_1) := (blk_cell BK116.out 1).trans rfl
                have hcz37_2 : wc.cell? ⟨gb116, 2, none⟩ = some (.string a0_2) := (blk_cell BK116.out 2).trans rfl
                have hcz37_3 : wc.cell? ⟨gb116, 3, none⟩ = some (.bool a0_3) := (blk_cell BK116.out 3).trans rfl
                have hcz37_4 : wc.cell? ⟨gb116, 4, none⟩ = some (.string a0_4) := (blk_cell BK116.out 4).trans rfl
                have hfz37_0 := blk_frozen BK116.out 0
                have hfz37_1 := blk_frozen BK116.out 1
                have hfz37_2 := blk_frozen BK116.out 2
                have hfz37_3 := blk_frozen BK116.out 3
                have hfz37_4 := blk_frozen BK116.out 4
                go_wp2
                go_ret
                exact ⟨by first | rfl | (simp [errW_none, errW_some] <;> rfl) | (simp [*, errW_none, errW_some] <;> rfl), by repeat (first | (with_reducible first | exact HB.out | apply below_alloc | apply pw_below_drewN | apply below_drew1 | refine below_set ?_ GE116.out) | exact HB.out)⟩
            · rw [if_neg c30] at H
              have c30b0 : decide (1 ≤ a0_1) = false := decide_eq_false c30
              clear c30
              obtain rfl := Option.some.inj H
              have hcz38_0 : wc.cell? ⟨gb116, 0, none⟩ = some (.int .i64 a0_0) := (blk_cell BK116.out 0).trans rfl
              have hcz38_1 : wc.cell? ⟨gb116, 1, none⟩ = some (.int .i64 a0_1) := (blk_cell BK116.out 1).trans rfl
              have hcz38_2 : wc.cell? ⟨gb116, 2, none⟩ = some (.string a0_2) := (blk_cell BK116.out 2).trans rfl
              have hcz38_3 : wc.cell? ⟨gb116, 3, none⟩ = some (.bool a0_3) := (blk_cell BK116.out 3).trans rfl
              have hcz38_4 : wc.cell? ⟨gb116, 4, none⟩ = some (.string a0_4) := (blk_cell BK116.out 4).trans rfl
              have hfz38_0 := blk_frozen BK116.out 0
              have hfz38_1 := blk_frozen BK116.out 1
              have hfz38_2 := blk_frozen BK116.out 2
              have hfz38_3 := blk_frozen BK116.out 3
              have hfz38_4 := blk_frozen BK116.out 4
              go_wp2
              go_ret
              exact ⟨by first | rfl | (simp [errW_none, errW_some] <;> rfl) | (simp [*, errW_none, errW_some] <;> rfl), by repeat (first | (with_reducible first | exact HB.out | apply below_alloc | apply pw_below_drewN | apply below_drew1 | refine below_set ?_ GE116.out) | exact HB.out)⟩
          · rw [if_neg c29] at H
            have c29b0 : (a0_0 == 1) = false := beq_eq_false_iff_ne.mpr c29
            have c29b1 : (a0_0 != 1) = true := bne_iff_ne.mpr c29
            by_cases c39 : a0_0 = 4
            · rw [if_pos c39] at H
              have c39b0 : (a0_0 == 4) = true := beq_iff_eq.mpr c39
              have c39b1 : (a0_0 != 4) = false := bne_eq_false_iff_eq.mpr c39
              clear c39
              by_cases c40 : a0_1 ≥ 1
              · rw [if_pos c40] at H
                have c40b0 : decide (1 ≤ a0_1) = true := decide_eq_true c40
                clear c40
                by_cases c41 : a0_1 ≤ 1000
                · rw [if_pos c41] at H
                  have c41b0 : decide (a0_1 ≤ 1000) = true := decide_eq_true c41
                  clear c41
                  by_cases c42 : a0_2.toList = ([] : List UInt8)
                  · rw [if_pos c42] at H
                    have c42b0 : (a0_2.toList == ([] : List UInt8)) = true := beq_iff_eq.mpr c42
                    have c42b1 : (a0_2.toList != ([] : List UInt8)) = false := bne_eq_false_iff_eq.mpr c42
                    clear c42
                    by_cases c43 : a0_3 = true
                    · subst c43
                      have H1 : (some false) = some r := by rw [if_pos rfl] at H; exact H
                      clear H
                      have H := H1
                      clear H1
                      obtain rfl := Option.some.inj H
                      have hcz44_0 : wc.cell? ⟨gb116, 0, none⟩ = some (.int .i64 a0_0) := (blk_cell BK116.out 0).trans rfl
                      have hcz44_1 : wc.cell? ⟨gb116, 1, none⟩ = some (.int .i64 a0_1) := (blk_cell BK116.out 1).trans rfl
                      have hcz44_2 : wc.cell? ⟨gb116, 2, none⟩ = some (.string a0_2) := (blk_cell BK116.out 2).trans rfl
                      have hcz44_3 : wc.cell? ⟨gb116, 3, none⟩ = some (.bool true) := (blk_cell BK116.out 3).trans rfl
                      have hcz44_4 : wc.cell? ⟨gb116, 4, none⟩ = some (.string a0_4) := (blk_cell BK116.out 4).trans rfl
                      have hfz44_0 := blk_frozen BK116.out 0
                      have hfz44_1 := blk_frozen BK116.out 1
                      have hfz44_2 := blk_frozen BK116.out 2
                      have hfz44_3 := blk_frozen BK116.out 3
                      have hfz44_4 := blk_frozen BK116.out 4
                      go_wp2
                      go_ret
                      exact ⟨by first | rfl | (simp [errW_none, errW_some] <;> rfl) | (simp [*, errW_none, errW_some] <;> rfl), by repeat (first | (with_reducible first | exact HB.out | apply below_alloc | apply pw_below_drewN | apply below_drew1 | refine below_set ?_ GE116.out) | exact HB.out)⟩
                    · replace c43 := Bool.eq_false_iff.mpr c43
                      subst c43
                      have H1 : (some (a0_4.toList == ([] : List UInt8))) = some r := by rw [if_neg (show ¬ (false = true) by decide)] at H; exact H
                      clear H
                      have H := H1
                      clear H1
                      obtain rfl := Option.some.inj H
                      have hcz45_0 : wc.cell? ⟨gb116, 0, none⟩ = some (.int .i64 a0_0) := (blk_cell BK116.out 0).trans rfl
                      have hcz45_1 : wc.cell? ⟨gb116, 1, none⟩ = some (.int .i64 a0_1) := (blk_cell BK116.out 1).trans rfl
                      have hcz45_2 : wc.cell? ⟨gb116, 2, none⟩ = some (.string a0_2) := (blk_cell BK116.out 2).trans rfl
                      have hcz45_3 : wc.cell? ⟨gb116, 3, none⟩ = some (.bool false) := (blk_cell BK116.out 3).trans rfl
                      have hcz45_4 : wc.cell? ⟨gb116, 4, none⟩ = some (.string a0_4) := (blk_cell BK116.out 4).trans rfl
                      have hfz45_0 := blk_frozen BK116.out 0
                      have hfz45_1 := blk_frozen BK116.out 1
                      have hfz45_2 := blk_frozen BK116.out 2
                      have hfz45_3 := blk_frozen BK116.out 3
                      have hfz45_4 := blk_frozen BK116.out 4
                      go_wp2
                      go_ret
                      exact ⟨by first | rfl | (simp [errW_none, errW_some] <;> rfl) | (simp [*, errW_none, errW_some] <;> rfl), by repeat (first | (with_reducible first | exact HB.out | apply below_alloc | apply pw_below_drewN | apply below_drew1 | refine below_set ?_ GE116.out) | exact HB.out)⟩
                  · rw [if_neg c42] at H
                    have c42b0 : (a0_2.toList == ([] : List UInt8)) = false := beq_eq_false_iff_ne.mpr c42
                    have c42b1 : (a0_2.toList != ([] : List UInt8)) = true := bne_iff_ne.mpr c42
                    obtain rfl := Option.some.inj H
                    have hcz46_0 : wc.cell? ⟨gb116, 0, none⟩ = some (.int .i64 a0_0) := (blk_cell BK116.out 0).trans rfl
                    have hcz46_1 : wc.cell? ⟨gb116, 1, none⟩ = some (.int .i64 a0_1) := (blk_cell BK116.out 1).trans rfl
                    have hcz46_2 : wc.cell? ⟨gb116, 2, none⟩ = some (.string a0_2) := (blk_cell BK116.out 2).trans rfl
                    have hcz46_3 : wc.cell? ⟨gb116, 3, none⟩ = some (.bool a0_3) := (blk_cell BK116.out 3).trans rfl
                    have hcz46_4 : wc.cell? ⟨gb116, 4, none⟩ = some (.string a0_4) := (blk_cell BK116.out 4).trans rfl
                    have hfz46_0 := blk_frozen BK116.out 0
                    have hfz46_1 := blk_frozen BK116.out 1
                    have hfz46_2 := blk_frozen BK116.out 2
                    have hfz46_3 := blk_frozen BK116.out 3
                    have hfz46_4 := blk_frozen BK116.out 4
                    go_wp2
                    go_ret
                    exact ⟨by first | rfl | (simp [errW_none, errW_some] <;> rfl) | (simp [*, errW_none, errW_some] <;> rfl), by repeat (first | (with_reducible first | exact HB.out | apply below_alloc | apply pw_below_drewN | apply below_drew1 | refine below_set ?_ GE116.out) | exact HB.out)⟩
                · rw [if_neg c41] at H
                  have c41b0 : decide (a0_1 ≤ 1000) = false := decide_eq_false c41
                  clear c41
                  obtain rfl := Option.some.inj H
                  have hcz47_0 : wc.cell? ⟨gb116, 0, none⟩ = some (.int .i64 a0_0) := (blk_cell BK116.out 0).trans rfl
                  have hcz47_1 : wc.cell? ⟨gb116, 1, none⟩ = some (.int .i64 a0_1) := (blk_cell BK116.out 1).trans rfl
                  have hcz47_2 : wc.cell? ⟨gb116, 2, none⟩ = some (.string a0_2) := (blk_cell BK116.out 2).trans rfl
                  have hcz47_3 : wc.cell? ⟨gb116, 3, none⟩ = some (.bool a0_3) := (blk_cell BK116.out 3).trans rfl
                  have hcz47_4 : wc.cell? ⟨gb116, 4, none⟩ = some (.string a0_4) := (blk_cell BK116.out 4).trans rfl
                  have hfz47_0 := blk_frozen BK116.out 0
                  have hfz47_1 := blk_frozen BK116.out 1
                  have hfz47_2 := blk_frozen BK116.out 2
                  have hfz47_3 := blk_frozen BK116.out 3
                  have hfz47_4 := blk_frozen BK116.out 4
                  go_wp2
                  go_ret
                  exact ⟨by first | rfl | (simp [errW_none, errW_some] <;> rfl) | (simp [*, errW_none, errW_some] <;> rfl), by repeat (first | (with_reducible first | exact HB.out | apply below_alloc | apply pw_below_drewN | apply below_drew1 | refine below_set ?_ GE116.out) | exact HB.out)⟩
              · rw [if_neg c40] at H
                have c40b0 : decide (1 ≤ a0_1) = false := decide_eq_false c40
                clear c40
                obtain rfl := Option.some.inj H
                have hcz48_0 : wc.cell? ⟨gb116, 0, none⟩ = some (.int .i64 a0_0) := (blk_cell BK116.out 0).trans rfl
                have hcz48_1 : wc.cell? ⟨gb116, 1, none⟩ = some (.int .i64 a0_1) := (blk_cell BK116.out 1).trans rfl
                have hcz48_2 : wc.cell? ⟨gb116, 2, none⟩ = some (.string a0_2) := (blk_cell BK116.out 2).trans rfl
                have hcz48_3 : wc.cell? ⟨gb116, 3, none⟩ = some (.bool a0_3) := (blk_cell BK116.out 3).trans rfl
                have hcz48_4 : wc.cell? ⟨gb116, 4, none⟩ = some (.string a0_4) := (blk_cell BK116.out 4).trans rfl
                have hfz48_0 := blk_frozen BK116.out 0
                have hfz48_1 := blk_frozen BK116.out 1
                have hfz48_2 := blk_frozen BK116.out 2
                have hfz48_3 := blk_frozen BK116.out 3
                have hfz48_4 := blk_frozen BK116.out 4
                go_wp2
                go_ret
                exact ⟨by first | rfl | (simp [errW_none, errW_some] <;> rfl) | (simp [*, errW_none, errW_some] <;> rfl), by repeat (first | (with_reducible first | exact HB.out | apply below_alloc | apply pw_below_drewN | apply below_drew1 | refine below_set ?_ GE116.out) | exact HB.out)⟩
            · rw [if_neg c39] at H
              have c39b0 : (a0_0 == 4) = false := beq_eq_false_iff_ne.mpr c39
              have c39b1 : (a0_0 != 4) = true := bne_iff_ne.mpr c39
              by_cases c49 : a0_0 = 5
              · rw [if_pos c49] at H
                have c49b0 : (a0_0 == 5) = true := beq_iff_eq.mpr c49
                have c49b1 : (a0_0 != 5) = false := bne_eq_false_iff_eq.mpr c49
                clear c49
                by_cases c50 : a0_1 ≥ 1
                · rw [if_pos c50] at H
                  have c50b0 : decide (1 ≤ a0_1) = true := decide_eq_true c50
                  clear c50
                  by_cases c51 : a0_1 ≤ 1000
                  · rw [if_pos c51] at H
                    have c51b0 : decide (a0_1 ≤ 1000) = true := decide_eq_true c51
                    clear c51
                    by_cases c52 : a0_2.toList = ([] : List UInt8)
                    · rw [if_pos c52] at H
                      have c52b0 : (a0_2.toList == ([] : List UInt8)) = true := beq_iff_eq.mpr c52
                      have c52b1 : (a0_2.toList != ([] : List UInt8)) = false := bne_eq_false_iff_eq.mpr c52
                      clear c52
                      by_cases c53 : a0_3 = true
                      · subst c53
                        have H1 : (some false) = some r := by rw [if_pos rfl] at H; exact H
                        clear H
                        have H := H1
                        clear H1
                        obtain rfl := Option.some.inj H
                        have hcz54_0 : wc.cell? ⟨gb116, 0, none⟩ = some (.int .i64 a0_0) := (blk_cell BK116.out 0).trans rfl
                        have hcz54_1 : wc.cell? ⟨gb116, 1, none⟩ = some (.int .i64 a0_1) := (blk_cell BK116.out 1).trans rfl
                        have hcz54_2 : wc.cell? ⟨gb116, 2, none⟩ = some (.string a0_2) := (blk_cell BK116.out 2).trans rfl
                        have hcz54_3 : wc.cell? ⟨gb116, 3, none⟩ = some (.bool true) := (blk_cell BK116.out 3).trans rfl
                        have hcz54_4 : wc.cell? ⟨gb116, 4, none⟩ = some (.string a0_4) := (blk_cell BK116.out 4).trans rfl
                        have hfz54_0 := blk_frozen BK116.out 0
                        have hfz54_1 := blk_frozen BK116.out 1
                        have hfz54_2 := blk_frozen BK116.out 2
                        have hfz54_3 := blk_frozen BK116.out 3
                        have hfz54_4 := blk_frozen BK116.out 4
                        go_wp2
                        go_ret
                        exact ⟨by first | rfl | (simp [errW_none, errW_some] <;> rfl) | (simp [*, errW_none, errW_some] <;> rfl), by repeat (first | (with_reducible first | exact HB.out | apply below_alloc | apply pw_below_drewN | apply below_drew1 | refine below_set ?_ GE116.out) | exact HB.out)⟩
                      · replace c53 := Bool.eq_false_iff.mpr c53
                        subst c53
                        have H1 : (some (a0_4.toList == ([] : List UInt8))) = some r := by rw [if_neg (show ¬ (false = true) by decide)] at H; exact H
                        clear H
                        have H := H1
                        clear H1
                        obtain rfl := Option.some.inj H
                        have hcz55_0 : wc.cell? ⟨gb116, 0, none⟩ = some (.int .i64 a0_0) := (blk_cell BK116.out 0).trans rfl
                        have hcz55_1 : wc.cell? ⟨gb116, 1, none⟩ = some (.int .i64 a0_1) := (blk_cell BK116.out 1).trans rfl
                        have hcz55_2 : wc.cell? ⟨gb116, 2, none⟩ = some (.string a0_2) := (blk_cell BK116.out 2).trans rfl
                        have hcz55_3 : wc.cell? ⟨gb116, 3, none⟩ = some (.bool false) := (blk_cell BK116.out 3).trans rfl
                        have hcz55_4 : wc.cell? ⟨gb116, 4, none⟩ = some (.string a0_4) := (blk_cell BK116.out 4).trans rfl
                        have hfz55_0 := blk_frozen BK116.out 0
                        have hfz55_1 := blk_frozen BK116.out 1
                        have hfz55_2 := blk_frozen BK116.out 2
                        have hfz55_3 := blk_frozen BK116.out 3
                        have hfz55_4 := blk_frozen BK116.out 4
                        go_wp2
                        go_ret
                        exact ⟨by first | rfl | (simp [errW_none, errW_some] <;> rfl) | (simp [*, errW_none, errW_some] <;> rfl), by repeat (first | (with_reducible first | exact HB.out | apply below_alloc | apply pw_below_drewN | apply below_drew1 | refine below_set ?_ GE116.out) | exact HB.out)⟩
                    · rw [if_neg c52] at H
                      have c52b0 : (a0_2.toList == ([] : List UInt8)) = false := beq_eq_false_iff_ne.mpr c52
                      have c52b1 : (a0_2.toList != ([] : List UInt8)) = true := bne_iff_ne.mpr c52
                      obtain rfl := Option.some.inj H
                      have hcz56_0 : wc.cell? ⟨gb116, 0, none⟩ = some (.int .i64 a0_0) := (blk_cell BK116.out 0).trans rfl
                      have hcz56_1 : wc.cell? ⟨gb116, 1, none⟩ = some (.int .i64 a0_1) := (blk_cell BK116.out 1).trans rfl
                      have hcz56_2 : wc.cell? ⟨gb116, 2, none⟩ = some (.string a0_2) := (blk_cell BK116.out 2).trans rfl
                      have hcz56_3 : wc.cell? ⟨gb116, 3, none⟩ = some (.bool a0_3) := (blk_cell BK116.out 3).trans rfl
                      have hcz56_4 : wc.cell? ⟨gb116, 4, none⟩ = some (.string a0_4) := (blk_cell BK116.out 4).trans rfl
                      have hfz56_0 := blk_frozen BK116.out 0
                      have hfz56_1 := blk_frozen BK116.out 1
                      have hfz56_2 := blk_frozen BK116.out 2
                      have hfz56_3 := blk_frozen BK116.out 3
                      have hfz56_4 := blk_frozen BK116.out 4
                      go_wp2
                      go_ret
                      exact ⟨by first | rfl | (simp [errW_none, errW_some] <;> rfl) | (simp [*, errW_none, errW_some] <;> rfl), by repeat (first | (with_reducible first | exact HB.out | apply below_alloc | apply pw_below_drewN | apply below_drew1 | refine below_set ?_ GE116.out) | exact HB.out)⟩
                  · rw [if_neg c51] at H
                    have c51b0 : decide (a0_1 ≤ 1000) = false := decide_eq_false c51
                    clear c51
                    obtain rfl := Option.some.inj H
                    have hcz57_0 : wc.cell? ⟨gb116, 0, none⟩ = some (.int .i64 a0_0) := (blk_cell BK116.out 0).trans rfl
                    have hcz57_1 : wc.cell? ⟨gb116, 1, none⟩ = some (.int .i64 a0_1) := (blk_cell BK116.out 1).trans rfl
                    have hcz57_2 : wc.cell? ⟨gb116, 2, none⟩ = some (.string a0_2) := (blk_cell BK116.out 2).trans rfl
                    have hcz57_3 : wc.cell? ⟨gb116, 3, none⟩ = some (.bool a0_3) := (blk_cell BK116.out 3).trans rfl
                    have hcz57_4 : wc.cell? ⟨gb116, 4, none⟩ = some (.string a0_4) := (blk_cell BK116.out 4).trans rfl
                    have hfz57_0 := blk_frozen BK116.out 0
                    have hfz57_1 := blk_frozen BK116.out 1
                    have hfz57_2 := blk_frozen BK116.out 2
                    have hfz57_3 := blk_frozen BK116.out 3
                    have hfz57_4 := blk_frozen BK116.out 4
                    go_wp2
                    go_ret
                    exact ⟨by first | rfl | (simp [errW_none, errW_some] <;> rfl) | (simp [*, errW_none, errW_some] <;> rfl), by repeat (first | (with_reducible first | exact HB.out | apply below_alloc | apply pw_below_drewN | apply below_drew1 | refine below_set ?_ GE116.out) | exact HB.out)⟩
                · rw [if_neg c50] at H
                  have c50b0 : decide (1 ≤ a0_1) = false := decide_eq_false c50
                  clear c50
                  obtain rfl := Option.some.inj H
                  have hcz58_0 : wc.cell? ⟨gb116, 0, none⟩ = some (.int .i64 a0_0) := (blk_cell BK116.out 0).trans rfl
                  have hcz58_1 : wc.cell? ⟨gb116, 1, none⟩ = some (.int .i64 a0_1) := (blk_cell BK116.out 1).trans rfl
                  have hcz58_2 : wc.cell? ⟨gb116, 2, none⟩ = some (.string a0_2) := (blk_cell BK116.out 2).trans rfl
                  have hcz58_3 : wc.cell? ⟨gb116, 3, none⟩ = some (.bool a0_3) := (blk_cell BK116.out 3).trans rfl
                  have hcz58_4 : wc.cell? ⟨gb116, 4, none⟩ = some (.string a0_4) := (blk_cell BK116.out 4).trans rfl
                  have hfz58_0 := blk_frozen BK116.out 0
                  have hfz58_1 := blk_frozen BK116.out 1
                  have hfz58_2 := blk_frozen BK116.out 2
                  have hfz58_3 := blk_frozen BK116.out 3
                  have hfz58_4 := blk_frozen BK116.out 4
                  go_wp2
                  go_ret
                  exact ⟨by first | rfl | (simp [errW_none, errW_some] <;> rfl) | (simp [*, errW_none, errW_some] <;> rfl), by repeat (first | (with_reducible first | exact HB.out | apply below_alloc | apply pw_below_drewN | apply below_drew1 | refine below_set ?_ GE116.out) | exact HB.out)⟩
              · rw [if_neg c49] at H
                have c49b0 : (a0_0 == 5) = false := beq_eq_false_iff_ne.mpr c49
                have c49b1 : (a0_0 != 5) = true := bne_iff_ne.mpr c49
                by_cases c59 : a0_0 = 7
                · rw [if_pos c59] at H
                  have c59b0 : (a0_0 == 7) = true := beq_iff_eq.mpr c59
                  have c59b1 : (a0_0 != 7) = false := bne_eq_false_iff_eq.mpr c59
                  clear c59
                  by_cases c60 : a0_1 ≥ 1
                  · rw [if_pos c60] at H
                    have c60b0 : decide (1 ≤ a0_1) = true := decide_eq_true c60
                    clear c60
                    by_cases c61 : a0_1 ≤ 1000
                    · rw [if_pos c61] at H
                      have c61b0 : decide (a0_1 ≤ 1000) = true := decide_eq_true c61
                      clear c61
                      by_cases c62 : a0_2.toList = ([] : List UInt8)
                      · rw [if_pos c62] at H
                        have c62b0 : (a0_2.toList == ([] : List UInt8)) = true := beq_iff_eq.mpr c62
                        have c62b1 : (a0_2.toList != ([] : List UInt8)) = false := bne_eq_false_iff_eq.mpr c62
                        clear c62
                        by_cases c63 : a0_3 = true
                        · subst c63
                          have H1 : (some false) = some r := by rw [if_pos rfl] at H; exact H
                          clear H
                          have H := H1
                          clear H1
                          obtain rfl := Option.some.inj H
                          have hcz64_0 : wc.cell? ⟨gb116, 0, none⟩ = some (.int .i64 a0_0) := (blk_cell BK116.out 0).trans rfl
                          have hcz64_1 : wc.cell? ⟨gb116, 1, none⟩ = some (.int .i64 a0_1) := (blk_cell BK116.out 1).trans rfl
                          have hcz64_2 : wc.cell? ⟨gb116, 2, none⟩ = some (.string a0_2) := (blk_cell BK116.out 2).trans rfl
                          have hcz64_3 : wc.cell? ⟨gb116, 3, none⟩ = some (.bool true) := (blk_cell BK116.out 3).trans rfl
                          have hcz64_4 : wc.cell? ⟨gb116, 4, none⟩ = some (.string a0_4) := (blk_cell BK116.out 4).trans rfl
                          have hfz64_0 := blk_frozen BK116.out 0
                          have hfz64_1 := blk_frozen BK116.out 1
                          have hfz64_2 := blk_frozen BK116.out 2
                          have hfz64_3 := blk_frozen BK116.out 3
                          have hfz64_4 := blk_frozen BK116.out 4
                          go_wp2
                          go_ret
                          exact ⟨by first | rfl | (simp [errW_none, errW_some] <;> rfl) | (simp [*, errW_none, errW_some] <;> rfl), by repeat (first | (with_reducible first | exact HB.out | apply below_alloc | apply pw_below_drewN | apply below_drew1 | refine below_set ?_ GE116.out) | exact HB.out)⟩
                        · replace c63 := Bool.eq_false_iff.mpr c63
                          subst c63
                          have H1 : (some (a0_4.toList == ([] : List UInt8))) = some r := by rw [if_neg (show ¬ (false = true) by decide)] at H; exact H
                          clear H
                          have H := H1
                          clear H1
                          obtain rfl := Option.some.inj H
                          have hcz65_0 : wc.cell? ⟨gb116, 0, none⟩ = some (.int .i64 a0_0) := (blk_cell BK116.out 0).trans rfl
                          have hcz65_1 : wc.cell? ⟨gb116, 1, none⟩ = some (.int .i64 a0_1) := (blk_cell BK116.out 1).trans rfl
                          have hcz65_2 : wc.cell? ⟨gb116, 2, none⟩ = some (.string a0_2) := (blk_cell BK116.out 2).trans rfl
                          have hcz65_3 : wc.cell? ⟨gb116, 3, none⟩ = some (.bool false) := (blk_cell BK116.out 3).trans rfl
                          have hcz65_4 : wc.cell? ⟨gb116, 4, none⟩ = some (.string a0_4) := (blk_cell BK116.out 4).trans rfl
                          have hfz65_0 := blk_frozen BK116.out 0
                          have hfz65_1 := blk_frozen BK116.out 1
                          have hfz65_2 := blk_frozen BK116.out 2
                          have hfz65_3 := blk_frozen BK116.out 3
                          have hfz65_4 := blk_frozen BK116.out 4
                          go_wp2
                          go_ret
                          exact ⟨by first | rfl | (simp [errW_none, errW_some] <;> rfl) | (simp [*, errW_none, errW_some] <;> rfl), by repeat (first | (with_reducible first | exact HB.out | apply below_alloc | apply pw_below_drewN | apply below_drew1 | refine below_set ?_ GE116.out) | exact HB.out)⟩
                      · rw [if_neg c62] at H
                        have c62b0 : (a0_2.toList == ([] : List UInt8)) = false := beq_eq_false_iff_ne.mpr c62
                        have c62b1 : (a0_2.toList != ([] : List UInt8)) = true := bne_iff_ne.mpr c62
                        obtain rfl := Option.some.inj H
                        have hcz66_0 : wc.cell? ⟨gb116, 0, none⟩ = some (.int .i64 a0_0) := (blk_cell BK116.out 0).trans rfl
                        have hcz66_1 : wc.cell? ⟨gb116, 1, none⟩ = some (.int .i64 a0_1) := (blk_cell BK116.out 1).trans rfl
                        have hcz66_2 : wc.cell? ⟨gb116, 2, none⟩ = some (.string a0_2) := (blk_cell BK116.out 2).trans rfl
                        have hcz66_3 : wc.cell? ⟨gb116, 3, none⟩ = some (.bool a0_3) := (blk_cell BK116.out 3).trans rfl
                        have hcz66_4 : wc.cell? ⟨gb116, 4, none⟩ = some (.string a0_4) := (blk_cell BK116.out 4).trans rfl
                        have hfz66_0 := blk_frozen BK116.out 0
                        have hfz66_1 := blk_frozen BK116.out 1
                        have hfz66_2 := blk_frozen BK116.out 2
                        have hfz66_3 := blk_frozen BK116.out 3
                        have hfz66_4 := blk_frozen BK116.out 4
                        go_wp2
                        go_ret
                        exact ⟨by first | rfl | (simp [errW_none, errW_some] <;> rfl) | (simp [*, errW_none, errW_some] <;> rfl), by repeat (first | (with_reducible first | exact HB.out | apply below_alloc | apply pw_below_drewN | apply below_drew1 | refine below_set ?_ GE116.out) | exact HB.out)⟩
                    · rw [if_neg c61] at H
                      have c61b0 : decide (a0_1 ≤ 1000) = false := decide_eq_false c61
                      clear c61
                      obtain rfl := Option.some.inj H
                      have hcz67_0 : wc.cell? ⟨gb116, 0, none⟩ = some (.int .i64 a0_0) := (blk_cell BK116.out 0).trans rfl
                      have hcz67_1 : wc.cell? ⟨gb116, 1, none⟩ = some (.int .i64 a0_1) := (blk_cell BK116.out 1).trans rfl
                      have hcz67_2 : wc.cell? ⟨gb116, 2, none⟩ = some (.string a0_2) := (blk_cell BK116.out 2).trans rfl
                      have hcz67_3 : wc.cell? ⟨gb116, 3, none⟩ = some (.bool a0_3) := (blk_cell BK116.out 3).trans rfl
                      have hcz67_4 : wc.cell? ⟨gb116, 4, none⟩ = some (.string a0_4) := (blk_cell BK116.out 4).trans rfl
                      have hfz67_0 := blk_frozen BK116.out 0
                      have hfz67_1 := blk_frozen BK116.out 1
                      have hfz67_2 := blk_frozen BK116.out 2
                      have hfz67_3 := blk_frozen BK116.out 3
                      have hfz67_4 := blk_frozen BK116.out 4
                      go_wp2
                      go_ret
                      exact ⟨by first | rfl | (simp [errW_none, errW_some] <;> rfl) | (simp [*, errW_none, errW_some] <;> rfl), by repeat (first | (with_reducible first | exact HB.out | apply below_alloc | apply pw_below_drewN | apply below_drew1 | refine below_set ?_ GE116.out) | exact HB.out)⟩
                  · rw [if_neg c60] at H
                    have c60b0 : decide (1 ≤ a0_1) = false := decide_eq_false c60
                    clear c60
                    obtain rfl := Option.some.inj H
                    have hcz68_0 : wc.cell? ⟨gb116, 0, none⟩ = some (.int .i64 a0_0) := (blk_cell BK116.out 0).trans rfl
                    have hcz68_1 : wc.cell? ⟨gb116, 1, none⟩ = some (.int .i64 a0_1) := (blk_cell BK116.out 1).trans rfl
                    have hcz68_2 : wc.cell? ⟨gb116, 2, none⟩ = some (.string a0_2) := (blk_cell BK116.out 2).trans rfl
                    have hcz68_3 : wc.cell? ⟨gb116, 3, none⟩ = some (.bool a0_3) := (blk_cell BK116.out 3).trans rfl
                    have hcz68_4 : wc.cell? ⟨gb116, 4, none⟩ = some (.string a0_4) := (blk_cell BK116.out 4).trans rfl
                    have hfz68_0 := blk_frozen BK116.out 0
                    have hfz68_1 := blk_frozen BK116.out 1
                    have hfz68_2 := blk_frozen BK116.out 2
                    have hfz68_3 := blk_frozen BK116.out 3
                    have hfz68_4 := blk_frozen BK116.out 4
                    go_wp2
                    go_ret
                    exact ⟨by first | rfl | (simp [errW_none, errW_some] <;> rfl) | (simp [*, errW_none, errW_some] <;> rfl), by repeat (first | (with_reducible first | exact HB.out | apply below_alloc | apply pw_below_drewN | apply below_drew1 | refine below_set ?_ GE116.out) | exact HB.out)⟩
                · rw [if_neg c59] at H
                  have c59b0 : (a0_0 == 7) = false := beq_eq_false_iff_ne.mpr c59
                  have c59b1 : (a0_0 != 7) = true := bne_iff_ne.mpr c59
                  obtain rfl := Option.some.inj H
                  go_wp2
                  go_ret
                  exact ⟨by first | rfl | (simp [errW_none, errW_some] <;> rfl) | (simp [*, errW_none, errW_some] <;> rfl), by repeat (first | (with_reducible first | exact HB.out | apply below_alloc | apply pw_below_drewN | apply below_drew1 | refine below_set ?_ GE116.out) | exact HB.out)⟩

/-! ### ringworkref25_notes: function 56 -/
def ringworkref25_notes.l0 : Nat → List (S39) → Int → Option (Bool)
  | 0, _, _ => none
  | k + 1, x0, x3 => if x3 < (x0.length : Int) then (if 0 ≤ x3 then ((ringworkref25_Valid.f k ((rd_T39 x0 x3).f0) ((rd_T39 x0 x3).f1) ((rd_T39 x0 x3).f2) ((rd_T39 x0 x3).f3) ((rd_T39 x0 x3).f4)).bind fun t119 => (if t119 = true then (ringworkref25_notes.l0 k x0 (wrap64 (x3 + 1))) else (some false))) else (none)) else (some (decide ((x0.length : Int) ≤ 1000)))
def ringworkref25_notes.f (k : Nat) (l0 : List (S39)) : Option (Bool) := ringworkref25_notes.l0 k l0 0
set_option maxHeartbeats 8000000 in
set_option maxRecDepth 100000 in
theorem ringworkref25_notes.calls (k : Nat) (A0 : Option Addr) (c0 : Nat) (l0 : List (S39)) (r : Bool) (w : World) (hr0 : Kd.C k39 w A0 l0.length l0) (hc0 : l0.length ≤ c0) (h : ringworkref25_notes.f k l0 = some r) :
    Calls Try.prog 56 #[.slice A0 l0.length c0] w fun e w' => e = .returned (.bool r) ∧ Below w.heap.size w w' := by
  have hu39 := Try.underlying39
  have HR0 := Aside0.mk hr0
  have HC0 := Aside0.mk hc0
  clear hr0 hc0
  have HB := Aside0.mk (Below.refl w.heap.size w)
  have H : (ringworkref25_notes.l0 k l0 0) = some r := h
  clear h
  have H' := Aside0.mk H
  clear H
  go_enter Try.func56, Try.ntmps56
  go_wp2
  go_loopg [3] k (fun kq v3 w' => ∃ (x3_1 : Int), v3 = .int .i64 x3_1 ∧ Aside0 (ringworkref25_notes.l0 kq l0 x3_1 = some r) ∧ Aside0 (kq ≤ k) ∧ Aside0 (Below w.heap.size w w'))
  case atStart => exact ⟨(0), (by first | rfl | (simp; done) | (simp [*]; done)), H', ⟨Nat.le_refl _⟩, ⟨by repeat (first | (with_reducible first | exact HB.out | apply below_alloc | apply pw_below_drewN | apply below_drew1) | exact HB.out)⟩⟩
  case round =>
    clear H'
    obtain ⟨x3_1, rfl, HA, HK1, HB⟩ := hrel
    cases gk with
    | zero => exact absurd HA.out (by simp [ringworkref25_notes.l0])
    | succ k1 =>
      have H := HA.out
      clear HA
      simp only [ringworkref25_notes.l0] at H
      by_cases c2 : x3_1 < (l0.length : Int)
      · rw [if_pos c2] at H
        have c2b0 : decide (x3_1 < (l0.length : Int)) = true := decide_eq_true c2
        clear c2
        by_cases c3 : 0 ≤ x3_1
        · rw [if_pos c3] at H
          have c3b0 : decide (0 ≤ x3_1) = true := decide_eq_true c3
          clear c3
          replace H := Option.bind_eq_some_iff.mp H
          obtain ⟨t119, A40, H⟩ := H
          replace H : (if t119 = true then (ringworkref25_notes.l0 k1 l0 (wrap64 (x3_1 + 1))) else (some false)) = some r := H
          have A4 := Aside0.mk A40
          clear A40
          by_cases c5 : t119 = true
          · subst c5
            have H1 : (ringworkref25_notes.l0 k1 l0 (wrap64 (x3_1 + 1))) = some r := by rw [if_pos rfl] at H; exact H
            clear H
            have H := H1
            clear H1
            have H' := Aside0.mk H
            clear H
            have p118 : 0 ≤ (x3_1 : Int) := of_decide_eq_true (by first | (with_reducible assumption) | assumption)
            have q118 : x3_1 < (l0.length : Int) := of_decide_eq_true (by first | (with_reducible assumption) | assumption)
            obtain ⟨ad118, e118, hx118_0, hx118_1, hx118_2, hx118_3, hx118_4⟩ := at_T39 HR0.out x3_1 p118 q118
            cases e118
            replace hx118_0 := (HB.out.cell (World.block_lt_of_cell? w _ hx118_0)).trans hx118_0
            replace hx118_1 := (HB.out.cell (World.block_lt_of_cell? w _ hx118_1)).trans hx118_1
            replace hx118_2 := (HB.out.cell (World.block_lt_of_cell? w _ hx118_2)).trans hx118_2
            replace hx118_3 := (HB.out.cell (World.block_lt_of_cell? w _ hx118_3)).trans hx118_3
            replace hx118_4 := (HB.out.cell (World.block_lt_of_cell? w _ hx118_4)).trans hx118_4
            replace p118 := eq_true p118
            replace q118 := eq_true q118
            go_wp2_with (first | ((with_reducible refine gate_callee (f := 28) rfl ?_); refine goesL_ (some 14) rfl rfl Try.func28 (by kernel_rfl) rfl #[.agg #[.int .i64 ((rd_T39 l0 x3_1).f0), .int .i64 ((rd_T39 l0 x3_1).f1), .string ((rd_T39 l0 x3_1).f2), .bool ((rd_T39 l0 x3_1).f3), .string ((rd_T39 l0 x3_1).f4)]] rfl (by (try simp only [List.map_toArray, List.map_cons, List.map_nil]); first | done | rfl | (simp only [List.length_drop, List.length_take]; rfl)) ?_; (with_reducible refine (ringworkref25_Valid.calls k1 ((rd_T39 l0 x3_1).f0) ((rd_T39 l0 x3_1).f1) ((rd_T39 l0 x3_1).f2) ((rd_T39 l0 x3_1).f3) ((rd_T39 l0 x3_1).f4) true _ A4.out).mono ?_); rintro e w6 ⟨rfl, hb⟩; refine ⟨_, rfl, ?_⟩; have n0_ := Aside0.mk (below_step (by repeat (first | (with_reducible first | exact HB.out | apply below_alloc | apply pw_below_drewN | apply below_drew1) | exact HB.out)) hb); clear HB; have HB := n0_; clear n0_; (try clear hb); (try clear hb2); (try clear hk); (try clear hi)))
            go_roundg k1
            case measure => have := HK1.out; omega
            case rel => exact ⟨(wrap64 (x3_1 + 1)), (by first | rfl | (simp; done) | (simp [*]; done)), H', ⟨by have := HK1.out; omega⟩, ⟨by repeat (first | (with_reducible first | exact HB.out | apply below_alloc | apply pw_below_drewN | apply below_drew1) | exact HB.out)⟩⟩
          · replace c5 := Bool.eq_false_iff.mpr c5
            subst c5
            have H1 : (some false) = some r := by rw [if_neg (show ¬ (false = true) by decide)] at H; exact H
            clear H
            have H := H1
            clear H1
            obtain rfl := Option.some.inj H
            have p118 : 0 ≤ (x3_1 : Int) := of_decide_eq_true (by first | (with_reducible assumption) | assumption)
            have q118 : x3_1 < (l0.length : Int) := of_decide_eq_true (by first | (with_reducible assumption) | assumption)
            obtain ⟨ad118, e118, hx118_0, hx118_1, hx118_2, hx118_3, hx118_4⟩ := at_T39 HR0.out x3_1 p118 q118
            cases e118
            replace hx118_0 := (HB.out.cell (World.block_lt_of_cell? w _ hx118_0)).trans hx118_0
            replace hx118_1 := (HB.out.cell (World.block_lt_of_cell? w _ hx118_1)).trans hx118_1
            replace hx118_2 := (HB.out.cell (World.block_lt_of_cell? w _ hx118_2)).trans hx118_2
            replace hx118_3 := (HB.out.cell (World.block_lt_of_cell? w _ hx118_3)).trans hx118_3
            replace hx118_4 := (HB.out.cell (World.block_lt_of_cell? w _ hx118_4)).trans hx118_4
            replace p118 := eq_true p118
            replace q118 := eq_true q118
            go_wp2_with (first | ((with_reducible refine gate_callee (f := 28) rfl ?_); refine goesL_ (some 14) rfl rfl Try.func28 (by kernel_rfl) rfl #[.agg #[.int .i64 ((rd_T39 l0 x3_1).f0), .int .i64 ((rd_T39 l0 x3_1).f1), .string ((rd_T39 l0 x3_1).f2), .bool ((rd_T39 l0 x3_1).f3), .string ((rd_T39 l0 x3_1).f4)]] rfl (by (try simp only [List.map_toArray, List.map_cons, List.map_nil]); first | done | rfl | (simp only [List.length_drop, List.length_take]; rfl)) ?_; (with_reducible refine (ringworkref25_Valid.calls k1 ((rd_T39 l0 x3_1).f0) ((rd_T39 l0 x3_1).f1) ((rd_T39 l0 x3_1).f2) ((rd_T39 l0 x3_1).f3) ((rd_T39 l0 x3_1).f4) false _ A4.out).mono ?_); rintro e w7 ⟨rfl, hb⟩; refine ⟨_, rfl, ?_⟩; have n0_ := Aside0.mk (below_step (by repeat (first | (with_reducible first | exact HB.out | apply below_alloc | apply pw_below_drewN | apply below_drew1) | exact HB.out)) hb); clear HB; have HB := n0_; clear n0_; (try clear hb); (try clear hb2); (try clear hk); (try clear hi)))
            go_ret
            exact ⟨by first | rfl | (simp [errW_none, errW_some] <;> rfl) | (simp [*, errW_none, errW_some] <;> rfl), by repeat (first | (with_reducible first | exact HB.out | apply below_alloc | apply pw_below_drewN | apply below_drew1) | exact HB.out)⟩
        · rw [if_neg c3] at H
          exact absurd H (by simp)
      · rw [if_neg c2] at H
        have c2b0 : decide (x3_1 < (l0.length : Int)) = false := decide_eq_false c2
        clear c2
        obtain rfl := Option.some.inj H
        go_wp2
        go_ret
        exact ⟨by first | rfl | (simp [errW_none, errW_some] <;> rfl) | (simp [*, errW_none, errW_some] <;> rfl), by repeat (first | (with_reducible first | exact HB.out | apply below_alloc | apply pw_below_drewN | apply below_drew1) | exact HB.out)⟩

end Go.Proofs.Yteblpjnkinghoaa.J
/- Contracts of journal.Valid and journal.valid (with the closure and the library functions between them), for every note and every slice of notes. -/
namespace Go.Proofs.Yteblpjnkinghoaa.J
open Go.BigFrame Go.RowKit Go.Proofs.YteblpjnkinghoaaW.PrintWords Go.Proofs.YteblpjnkinghoaaW.PrintLast Go.Proofs.YteblpjnkinghoaaW.PrintMore
def kindsV : Value := .agg #[.nilFunc, .func (.func 75) #[] #[], .func (.func 76) #[] #[], .func (.func 76) #[] #[], .func (.func 75) #[] #[], .func (.func 75) #[] #[], .func (.func 77) #[] #[], .func (.func 75) #[] #[]]
theorem kinds_calls (w : World) : Calls Try.prog 58 #[] w fun e w' => e = .returned kindsV ∧ Below w.heap.size w w' := by
  go_enter Try.func58, Try.ntmps58
  go_wp2
  exact bodyPost_ret (v := kindsV) (by simp [results, Try.results58, go_sem, kindsV]) rfl ⟨rfl, (Below.refl _ _).alloc (Nat.le_refl _) _⟩
theorem kinds_at1 (w : World) : (Instr.index 87 kindsV (.int .i64 1)).run Try.prog w = .ok (.func (.func 75) #[] #[]) w := by kernel_rfl
theorem kinds_at2 (w : World) : (Instr.index 87 kindsV (.int .i64 2)).run Try.prog w = .ok (.func (.func 76) #[] #[]) w := by kernel_rfl
theorem kinds_at3 (w : World) : (Instr.index 87 kindsV (.int .i64 3)).run Try.prog w = .ok (.func (.func 76) #[] #[]) w := by kernel_rfl
theorem kinds_at4 (w : World) : (Instr.index 87 kindsV (.int .i64 4)).run Try.prog w = .ok (.func (.func 75) #[] #[]) w := by kernel_rfl
theorem kinds_at5 (w : World) : (Instr.index 87 kindsV (.int .i64 5)).run Try.prog w = .ok (.func (.func 75) #[] #[]) w := by kernel_rfl
theorem kinds_at6 (w : World) : (Instr.index 87 kindsV (.int .i64 6)).run Try.prog w = .ok (.func (.func 77) #[] #[]) w := by kernel_rfl
theorem kinds_at7 (w : World) : (Instr.index 87 kindsV (.int .i64 7)).run Try.prog w = .ok (.func (.func 75) #[] #[]) w := by kernel_rfl

/-- The note's own cells, in every world behind. -/
theorem note_cells {w1 : World} {b : Nat} {v0 v1 v2 v3 v4 : Value} {t : TypeId} (hk : w1.heap[b]? = some (.cells #[v0, v1, v2, v3, v4] t)) :
    (∀ p : Past w1, p.W.cell? ⟨b, 0, none⟩ = some v0) ∧ (∀ p : Past w1, p.W.cell? ⟨b, 1, none⟩ = some v1) ∧ (∀ p : Past w1, p.W.cell? ⟨b, 2, none⟩ = some v2) ∧ (∀ p : Past w1, p.W.cell? ⟨b, 3, none⟩ = some v3) ∧ (∀ p : Past w1, p.W.cell? ⟨b, 4, none⟩ = some v4) :=
  ⟨Past.cell ((blk_cell hk 0).trans rfl), Past.cell ((blk_cell hk 1).trans rfl), Past.cell ((blk_cell hk 2).trans rfl), Past.cell ((blk_cell hk 3).trans rfl), Past.cell ((blk_cell hk 4).trans rfl)⟩

theorem valid_75 (a0 a1 : Int) (a2 : ByteArray) (a3 : Bool) (a4 : ByteArray) (r : Bool) (w : World) (h1 : decide (1 ≤ a0) = true) (h7 : decide (a0 ≤ 7) = true) (hix : ∀ w : World, (Instr.index 87 kindsV (.int .i64 a0)).run Try.prog w = .ok (.func (.func 75) #[] #[]) w)
    (h : ∀ w : World, Calls Try.prog 75 #[.agg #[.int .i64 a0, .int .i64 a1, .string a2, .bool a3, .string a4]] w fun e w' => e = .returned (.bool r) ∧ Below w.heap.size w w') :
    Calls Try.prog 27 #[.agg #[.int .i64 a0, .int .i64 a1, .string a2, .bool a3, .string a4]] w fun e w' => e = .returned (.bool r) ∧ Below w.heap.size w w' := by
  have H := Aside0.mk h
  clear h
  go_enter Try.func27, Try.ntmps27
  go_wp2
  have hb := (Below.refl w.heap.size w).alloc (Nat.le_refl _) (.cells #[.int .i64 a0, .int .i64 a1, .string a2, .bool a3, .string a4] 39)
  have hk : (w.alloc (.cells #[.int .i64 a0, .int .i64 a1, .string a2, .bool a3, .string a4] 39)).heap[w.heap.size]? = some (.cells #[.int .i64 a0, .int .i64 a1, .string a2, .bool a3, .string a4] 39) := heap_alloc_new w _
  generalize (w.alloc (.cells #[.int .i64 a0, .int .i64 a1, .string a2, .bool a3, .string a4] 39)) = w1 at hb hk ⊢
  obtain ⟨c0, c1, c2, c3, c4⟩ := note_cells hk
  clear hk
  refine wp_region_past (by kernel_rfl) (by kernel_rfl) ?_
  repeat (go_big_quiet_step (first | (go_at_call 58; exact Calls.past_of (kinds_calls _)) | (go_at_call 75; exact Calls.past_of (H.out _))))
  refine wpQuiet_nil ?_
  rintro _ ⟨p, rfl⟩
  go_wp2
  go_ret
  exact ⟨rfl, below_step hb p.h⟩
theorem valid_76 (a0 a1 : Int) (a2 : ByteArray) (a3 : Bool) (a4 : ByteArray) (r : Bool) (w : World) (h1 : decide (1 ≤ a0) = true) (h7 : decide (a0 ≤ 7) = true) (hix : ∀ w : World, (Instr.index 87 kindsV (.int .i64 a0)).run Try.prog w = .ok (.func (.func 76) #[] #[]) w)
    (h : ∀ w : World, Calls Try.prog 76 #[.agg #[.int .i64 a0, .int .i64 a1, .string a2, .bool a3, .string a4]] w fun e w' => e = .returned (.bool r) ∧ Below w.heap.size w w') :
    Calls Try.prog 27 #[.agg #[.int .i64 a0, .int .i64 a1, .string a2, .bool a3, .string a4]] w fun e w' => e = .returned (.bool r) ∧ Below w.heap.size w w' := by
  have H := Aside0.mk h
  clear h
  go_enter Try.func27, Try.ntmps27
  go_wp2
  have hb := (Below.refl w.heap.size w).alloc (Nat.le_refl _) (.cells #[.int .i64 a0, .int .i64 a1, .string a2, .bool a3, .string a4] 39)
  have hk : (w.alloc (.cells #[.int .i64 a0, .int .i64 a1, .string a2, .bool a3, .string a4] 39)).heap[w.heap.size]? = some (.cells #[.int .i64 a0, .int .i64 a1, .string a2, .bool a3, .string a4] 39) := heap_alloc_new w _
  generalize (w.alloc (.cells #[.int .i64 a0, .int .i64 a1, .string a2, .bool a3, .string a4] 39)) = w1 at hb hk ⊢
  obtain ⟨c0, c1, c2, c3, c4⟩ := note_cells hk
  clear hk
  refine wp_region_past (by kernel_rfl) (by kernel_rfl) ?_
  repeat (go_big_quiet_step (first | (go_at_call 58; exact Calls.past_of (kinds_calls _)) | (go_at_call 76; exact Calls.past_of (H.out _))))
  refine wpQuiet_nil ?_
  rintro _ ⟨p, rfl⟩
  go_wp2
  go_ret
  exact ⟨rfl, below_step hb p.h⟩
theorem valid_77 (a0 a1 : Int) (a2 : ByteArray) (a3 : Bool) (a4 : ByteArray) (r : Bool) (w : World) (h1 : decide (1 ≤ a0) = true) (h7 : decide (a0 ≤ 7) = true) (hix : ∀ w : World, (Instr.index 87 kindsV (.int .i64 a0)).run Try.prog w = .ok (.func (.func 77) #[] #[]) w)
    (h : ∀ w : World, Calls Try.prog 77 #[.agg #[.int .i64 a0, .int .i64 a1, .string a2, .bool a3, .string a4]] w fun e w' => e = .returned (.bool r) ∧ Below w.heap.size w w') :
    Calls Try.prog 27 #[.agg #[.int .i64 a0, .int .i64 a1, .string a2, .bool a3, .string a4]] w fun e w' => e = .returned (.bool r) ∧ Below w.heap.size w w' := by
  have H := Aside0.mk h
  clear h
  go_enter Try.func27, Try.ntmps27
  go_wp2
  have hb := (Below.refl w.heap.size w).alloc (Nat.le_refl _) (.cells #[.int .i64 a0, .int .i64 a1, .string a2, .bool a3, .string a4] 39)
  have hk : (w.alloc (.cells #[.int .i64 a0, .int .i64 a1, .string a2, .bool a3, .string a4] 39)).heap[w.heap.size]? = some (.cells #[.int .i64 a0, .int .i64 a1, .string a2, .bool a3, .string a4] 39) := heap_alloc_new w _
  generalize (w.alloc (.cells #[.int .i64 a0, .int .i64 a1, .string a2, .bool a3, .string a4] 39)) = w1 at hb hk ⊢
  obtain ⟨c0, c1, c2, c3, c4⟩ := note_cells hk
  clear hk
  refine wp_region_past (by kernel_rfl) (by kernel_rfl) ?_
  repeat (go_big_quiet_step (first | (go_at_call 58; exact Calls.past_of (kinds_calls _)) | (go_at_call 77; exact Calls.past_of (H.out _))))
  refine wpQuiet_nil ?_
  rintro _ ⟨p, rfl⟩
  go_wp2
  go_ret
  exact ⟨rfl, below_step hb p.h⟩
theorem valid_low (a0 a1 : Int) (a2 : ByteArray) (a3 : Bool) (a4 : ByteArray) (w : World) (h1 : decide (1 ≤ a0) = false) :
    Calls Try.prog 27 #[.agg #[.int .i64 a0, .int .i64 a1, .string a2, .bool a3, .string a4]] w fun e w' => e = .returned (.bool false) ∧ Below w.heap.size w w' := by
  go_enter Try.func27, Try.ntmps27
  go_wp2
  have hb := (Below.refl w.heap.size w).alloc (Nat.le_refl _) (.cells #[.int .i64 a0, .int .i64 a1, .string a2, .bool a3, .string a4] 39)
  have hk : (w.alloc (.cells #[.int .i64 a0, .int .i64 a1, .string a2, .bool a3, .string a4] 39)).heap[w.heap.size]? = some (.cells #[.int .i64 a0, .int .i64 a1, .string a2, .bool a3, .string a4] 39) := heap_alloc_new w _
  generalize (w.alloc (.cells #[.int .i64 a0, .int .i64 a1, .string a2, .bool a3, .string a4] 39)) = w1 at hb hk ⊢
  obtain ⟨c0, c1, c2, c3, c4⟩ := note_cells hk
  clear hk
  refine wp_region_past (by kernel_rfl) (by kernel_rfl) ?_
  repeat (go_big_quiet_step (fail))
  refine wpQuiet_nil ?_
  rintro _ ⟨p, rfl⟩
  go_wp2
  go_ret
  exact ⟨rfl, below_step hb p.h⟩
theorem valid_high (a0 a1 : Int) (a2 : ByteArray) (a3 : Bool) (a4 : ByteArray) (w : World) (h1 : decide (1 ≤ a0) = true) (h7 : decide (a0 ≤ 7) = false) :
    Calls Try.prog 27 #[.agg #[.int .i64 a0, .int .i64 a1, .string a2, .bool a3, .string a4]] w fun e w' => e = .returned (.bool false) ∧ Below w.heap.size w w' := by
  go_enter Try.func27, Try.ntmps27
  go_wp2
  have hb := (Below.refl w.heap.size w).alloc (Nat.le_refl _) (.cells #[.int .i64 a0, .int .i64 a1, .string a2, .bool a3, .string a4] 39)
  have hk : (w.alloc (.cells #[.int .i64 a0, .int .i64 a1, .string a2, .bool a3, .string a4] 39)).heap[w.heap.size]? = some (.cells #[.int .i64 a0, .int .i64 a1, .string a2, .bool a3, .string a4] 39) := heap_alloc_new w _
  generalize (w.alloc (.cells #[.int .i64 a0, .int .i64 a1, .string a2, .bool a3, .string a4] 39)) = w1 at hb hk ⊢
  obtain ⟨c0, c1, c2, c3, c4⟩ := note_cells hk
  clear hk
  refine wp_region_past (by kernel_rfl) (by kernel_rfl) ?_
  repeat (go_big_quiet_step (fail))
  refine wpQuiet_nil ?_
  rintro _ ⟨p, rfl⟩
  go_wp2
  go_ret
  exact ⟨rfl, below_step hb p.h⟩

/-- What Valid answers. -/
def journal_Valid.f (a0 a1 : Int) (a2 : ByteArray) (a3 : Bool) (a4 : ByteArray) : Option Bool :=
  if a0 < 1 then some false else if 7 < a0 then some false
  else if a0 = 2 ∨ a0 = 3 then journal_imaged.f a0 a1 a2 a3 a4
  else if a0 = 6 then journal_named.f a0 a1 a2 a3 a4
  else journal_plain.f a0 a1 a2 a3 a4
theorem journal_Valid.calls (a0_0 : Int) (a0_1 : Int) (a0_2 : ByteArray) (a0_3 : Bool) (a0_4 : ByteArray) (r : Bool) (w : World) (h : journal_Valid.f a0_0 a0_1 a0_2 a0_3 a0_4 = some r) :
    Calls Try.prog 27 #[.agg #[.int .i64 a0_0, .int .i64 a0_1, .string a0_2, .bool a0_3, .string a0_4]] w fun e w' => e = .returned (.bool r) ∧ Below w.heap.size w w' := by
  unfold journal_Valid.f at h
  by_cases h1 : a0_0 < 1
  · rw [if_pos h1] at h
    obtain rfl := Option.some.inj h
    exact valid_low _ _ _ _ _ w (decide_eq_false (by omega))
  rw [if_neg h1] at h
  have d1 : decide (1 ≤ a0_0) = true := decide_eq_true (by omega)
  by_cases h7 : 7 < a0_0
  · rw [if_pos h7] at h
    obtain rfl := Option.some.inj h
    exact valid_high _ _ _ _ _ w d1 (decide_eq_false (by omega))
  rw [if_neg h7] at h
  have d7 : decide (a0_0 ≤ 7) = true := decide_eq_true (by omega)
  by_cases h23 : a0_0 = 2 ∨ a0_0 = 3
  · rw [if_pos h23] at h
    refine valid_76 _ _ _ _ _ r w d1 d7 (fun w => ?_) (fun w => journal_imaged.calls _ _ _ _ _ r w h)
    rcases h23 with rfl | rfl
    · exact kinds_at2 w
    · exact kinds_at3 w
  rw [if_neg h23] at h
  by_cases h6 : a0_0 = 6
  · rw [if_pos h6] at h
    subst h6
    exact valid_77 _ _ _ _ _ r w d1 d7 kinds_at6 (fun w => journal_named.calls _ _ _ _ _ r w h)
  · rw [if_neg h6] at h
    refine valid_75 _ _ _ _ _ r w d1 d7 (fun w => ?_) (fun w => journal_plain.calls _ _ _ _ _ r w h)
    have : a0_0 = 1 ∨ a0_0 = 4 ∨ a0_0 = 5 ∨ a0_0 = 7 := by omega
    rcases this with rfl | rfl | rfl | rfl
    · exact kinds_at1 w
    · exact kinds_at4 w
    · exact kinds_at5 w
    · exact kinds_at7 w
/-- It answers. -/
theorem journal_Valid.some (a0 a1 : Int) (a2 : ByteArray) (a3 : Bool) (a4 : ByteArray) : ∃ r, journal_Valid.f a0 a1 a2 a3 a4 = some r := by
  unfold journal_Valid.f journal_imaged.f journal_named.f journal_plain.f journal_unit.f
  repeat' (first | exact ⟨_, rfl⟩ | split | (simp only [Option.bind_some]))
def vld (n : S39) : Bool := (journal_Valid.f n.f0 n.f1 n.f2 n.f3 n.f4).getD false
theorem vld_calls (n : S39) (w : World) : Calls Try.prog 27 #[.agg #[.int .i64 n.f0, .int .i64 n.f1, .string n.f2, .bool n.f3, .string n.f4]] w fun e w' => e = .returned (.bool (vld n)) ∧ Below w.heap.size w w' := by
  obtain ⟨r, h⟩ := journal_Valid.some n.f0 n.f1 n.f2 n.f3 n.f4
  have : vld n = r := by unfold vld; rw [h]; rfl
  rw [this]
  exact journal_Valid.calls _ _ _ _ _ r w h

/-! ### The closure, and the library's functions over it -/
theorem not_valid_calls (n : S39) (w : World) : Calls Try.prog 79 #[.agg #[.int .i64 n.f0, .int .i64 n.f1, .string n.f2, .bool n.f3, .string n.f4]] w fun e w' => e = .returned (.bool (!vld n)) ∧ Below w.heap.size w w' := by
  have hnot : ∀ (x : Bool) (w : World), (Op.unary .not (.bool x)).run Try.prog w = .ok (.bool (!x)) w := fun _ _ => rfl
  go_enter Try.func79, Try.ntmps79
  go_wp2_with fail
  refine (vld_calls n _).mono ?_
  rintro e w1 ⟨rfl, hb⟩
  go_wp2
  go_ret
  exact ⟨rfl, below_step ((Below.refl _ _).alloc (Nat.le_refl _) _) hb⟩
/-- The first note of which p holds, from k on. -/
def idx (p : S39 → Bool) : List S39 → Int → Int
  | [], _ => -1
  | n :: l, k => if p n then k else idx p l (k + 1)
theorem idx_any (p : S39 → Bool) : ∀ (l : List S39) (k : Int), 0 ≤ k → decide (0 ≤ idx p l k) = l.any p
  | [], _, _ => rfl
  | n :: l, k, h => by
    unfold idx
    rw [List.any_cons]
    cases hp : p n
    · simpa using idx_any p l (k + 1) (by omega)
    · simp [h]
theorem drop_rd {l0 : List S39} {k : Nat} (h : k < l0.length) : l0.drop k = rd_T39 l0 (k : Int) :: l0.drop (k + 1) := by
  have : rd_T39 l0 (k : Int) = l0[k] := by unfold rd_T39; rw [Int.toNat_natCast, List.getD_eq_getElem?_getD, List.getElem?_eq_getElem h]; rfl
  rw [this]
  exact List.drop_eq_getElem_cons h
theorem index_calls (A0 : Option Addr) (c0 : Nat) (l0 : List S39) (w : World) (hr0 : Kd.C k39 w A0 l0.length l0) :
    Calls Try.prog 88 #[.slice A0 l0.length c0, .func (.func 79) #[] #[]] w fun e w' => e = .returned (.int .i64 (idx (fun n => !vld n) l0 0)) ∧ Below w.heap.size w w' := by
  have HR0 := Aside0.mk hr0
  have hlm : l0.length ≤ 9223372036854775807 := Kd.C_max hr0
  clear hr0
  go_enter Try.func88, Try.ntmps88
  go_wp2
  go_loopg [8] (l0.length + 1) (fun kq v8 w' => ∃ k : Nat, k ≤ l0.length ∧ v8 = .int .i64 k ∧ Aside0 (kq + k = l0.length + 1) ∧ Aside0 (idx (fun n => !vld n) l0 0 = idx (fun n => !vld n) (l0.drop k) k) ∧ Aside0 (Below w.heap.size w w'))
  case atStart => exact ⟨0, Nat.zero_le _, rfl, ⟨by omega⟩, ⟨by simp⟩, ⟨Below.refl _ _⟩⟩
  case round =>
    obtain ⟨k, hk, rfl, HQ, HX, HB⟩ := hrel
    by_cases hlt : k < l0.length
    · obtain ⟨ad, rfl, h0, h1, h2, h3, h4⟩ := at_T39 (Kd.C_below HR0.out HB.out) (k : Int) (by omega) (by omega)
      rw [Int.toNat_natCast] at h0 h1 h2 h3 h4
      have hd := drop_rd hlt
      generalize rd_T39 l0 (k : Int) = n at h0 h1 h2 h3 h4 hd
      have HX' := Aside0.mk (HX.out.trans (congrArg (fun l => idx (fun n => !vld n) l k) hd))
      clear hd HX
      have HC := Aside0.mk (fun w => not_valid_calls n w)
      cases hv : vld n
      · rw [hv] at HC
        have HY := Aside0.mk (HX'.out.trans (show idx (fun n => !vld n) (n :: l0.drop (k + 1)) k = k by unfold idx; rw [hv]; rfl))
        clear hv HX'
        go_wp2_with (go_at_call 79; refine (HC.out _).mono ?_; rintro e w1 ⟨rfl, hb⟩)
        go_ret
        exact ⟨by rw [HY.out]; rfl, below_step HB.out hb⟩
      · rw [hv] at HC
        have HY := Aside0.mk (HX'.out.trans (show idx (fun n => !vld n) (n :: l0.drop (k + 1)) k = idx (fun n => !vld n) (l0.drop (k + 1)) (k + 1) by rw [idx]; rw [hv]; rfl))
        clear hv HX'
        go_wp2_with (go_at_call 79; refine (HC.out _).mono ?_; rintro e w1 ⟨rfl, hb⟩)
        go_roundg (gk - 1)
        case measure => have := HQ.out; omega
        case rel => exact ⟨k + 1, by omega, by go_num, ⟨by have := HQ.out; omega⟩, ⟨by rw [HY.out]; rfl⟩, ⟨below_step HB.out hb⟩⟩
    · have hke : k = l0.length := by omega
      subst hke
      have HY := Aside0.mk (HX.out.trans (show idx (fun n => !vld n) (l0.drop l0.length) l0.length = -1 by rw [List.drop_length]; rfl))
      clear HX
      go_wp2
      go_ret
      exact ⟨by rw [HY.out]; rfl, HB.out⟩
theorem contains_calls (A0 : Option Addr) (c0 : Nat) (l0 : List S39) (w : World) (hr0 : Kd.C k39 w A0 l0.length l0) :
    Calls Try.prog 78 #[.slice A0 l0.length c0, .func (.func 79) #[] #[]] w fun e w' => e = .returned (.bool (l0.any fun n => !vld n)) ∧ Below w.heap.size w w' := by
  have HR0 := Aside0.mk hr0
  clear hr0
  have HI := Aside0.mk (idx_any (fun n => !vld n) l0 0 (by omega))
  go_enter Try.func78, Try.ntmps78
  go_wp2_with (go_at_call 88; refine (index_calls _ _ _ _ HR0.out).mono ?_; rintro e w1 ⟨rfl, hb⟩)
  go_ret
  exact ⟨by rw [← HI.out]; rfl, hb⟩
/-- What valid answers. -/
def journal_valid.f (l0 : List (S39)) : Option (Bool) := some (decide (l0.length ≤ 1000) && l0.all vld)
theorem journal_valid.calls (A0 : Option Addr) (c0 : Nat) (l0 : List (S39)) (r : Bool) (w : World) (hr0 : Kd.C k39 w A0 l0.length l0) (hc0 : l0.length ≤ c0) (h : journal_valid.f l0 = some r) :
    Calls Try.prog 60 #[.slice A0 l0.length c0] w fun e w' => e = .returned (.bool r) ∧ Below w.heap.size w w' := by
  have HR0 := Aside0.mk hr0
  obtain rfl := Option.some.inj h
  clear hr0 hc0 h
  have hnot : ∀ (x : Bool) (w : World), (Op.unary .not (.bool x)).run Try.prog w = .ok (.bool (!x)) w := fun _ _ => rfl
  by_cases hl : l0.length ≤ 1000
  · have d : decide ((l0.length : Int) ≤ 1000) = true := decide_eq_true (by omega)
    have HE := Aside0.mk (show (decide (l0.length ≤ 1000) && l0.all vld) = !(l0.any fun n => !vld n) by rw [decide_eq_true hl, List.all_eq_not_any_not]; rfl)
    clear hl
    go_enter Try.func60, Try.ntmps60
    go_wp2_with (go_at_call 78; refine (contains_calls _ _ _ _ HR0.out).mono ?_; rintro e w1 ⟨rfl, hb⟩)
    go_ret
    exact ⟨by rw [HE.out]; rfl, hb⟩
  · have d : decide ((l0.length : Int) ≤ 1000) = false := decide_eq_false (by omega)
    have HE := Aside0.mk (show (decide (l0.length ≤ 1000) && l0.all vld) = false by rw [decide_eq_false hl]; rfl)
    clear hl
    go_enter Try.func60, Try.ntmps60
    go_wp2
    go_ret
    exact ⟨by rw [HE.out]; rfl, Below.refl _ _⟩
end Go.Proofs.Yteblpjnkinghoaa.J
/- The reference's Valid and notes are the program's (rows of RefWrong). -/
namespace Go.Proofs.Yteblpjnkinghoaa.J
open Go.RowKit Go.Proofs.YteblpjnkinghoaaW.PrintWords
theorem wrap_nx {k n : Nat} (h : k < n) (hn : n ≤ 9223372036854775807) : wrap64 ((k : Int) + 1) = ((k + 1 : Nat) : Int) := by unfold wrap64; omega
theorem ref_Valid (n : S39) : Ev (fun k => ringworkref25_Valid.f k n.f0 n.f1 n.f2 n.f3 n.f4) (vld n) := by
  have hs : ∀ s : ByteArray, (¬ (s.size : Int) ≥ 1) ↔ s.toList = [] := fun s => by
    rw [toList_nil_iff]; omega
  have hnil : ∀ s : ByteArray, (s.toList = []) = (s.size = 0) := fun s => propext (toList_nil_iff s)
  have hnb : ∀ s : ByteArray, (s.toList == ([] : List UInt8)) = decide (s.size = 0) := fun s => by
    rw [Bool.eq_iff_iff]; simp [hnil]
  obtain ⟨f0, f1, f2, f3, f4⟩ := n
  unfold vld journal_Valid.f
  simp only
  unfold ringworkref25_Valid.f
  have plain : ∀ b : Bool, b = false → (f0 = 1 ∨ f0 = 4 ∨ f0 = 5 ∨ f0 = 7) → Ev (fun k => ringworkref25_Valid.j0 k f0 b f0 f1 f2 f3 f4) ((journal_plain.f f0 f1 f2 f3 f4).getD false) := fun b hb hf => by
    subst hb
    refine Ev.step (body := fun _ => some ((journal_plain.f f0 f1 f2 f3 f4).getD false)) (fun k => ?_) (Ev.val _)
    rw [ringworkref25_Valid.j0, if_neg (by decide)]
    unfold journal_plain.f journal_unit.f
    rcases hf with rfl | rfl | rfl | rfl <;> by_cases a1 : 1 ≤ f1 <;> by_cases a2 : f1 ≤ 1000 <;> by_cases a3 : f2.toList = [] <;> cases f3 <;> simp [a1, a2, a3]
  have imaged : Ev (fun k => ringworkref25_Valid.j0 k f0 true f0 f1 f2 f3 f4) ((journal_imaged.f f0 f1 f2 f3 f4).getD false) := by
    refine Ev.step (body := fun _ => some ((journal_imaged.f f0 f1 f2 f3 f4).getD false)) (fun k => ?_) (Ev.val _)
    rw [ringworkref25_Valid.j0, if_pos rfl, show ringworkref25_image.f f2 f3 f4 = some (img ⟨f2, f3, f4⟩) from rimg ⟨f2, f3, f4⟩]
    unfold img journal_image.f journal_imaged.f journal_unit.f
    simp only
    by_cases a1 : 1 ≤ f1 <;> by_cases a2 : f1 ≤ 1000 <;> by_cases a3 : f2.toList = [] <;> by_cases a4 : (f2.size : Int) ≤ 40 <;> by_cases a5 : (f4.size : Int) ≤ 4000 <;> cases f3 <;> simp [a1, a2, a3, a4, a5]
  by_cases h6 : f0 = 6
  · subst h6
    refine Ev.of fun k => ?_
    rw [if_pos rfl, if_neg (show ¬ (6 : Int) < 1 by omega), if_neg (show ¬ (7 : Int) < 6 by omega), if_neg (show ¬ ((6 : Int) = 2 ∨ (6 : Int) = 3) by omega), if_pos rfl]
    unfold journal_named.f
    by_cases a1 : f1 = 0
    · rw [if_pos a1, if_pos a1]
      by_cases a2 : f2.toList = []
      · rw [if_pos a2, if_pos a2]
        cases f3
        · rw [if_neg (show ¬ (false = true) by decide), if_neg (show ¬ (false = true) by decide)]
          by_cases a3 : f4.toList = []
          · rw [if_neg ((hs f4).2 a3), if_pos a3]; rfl
          · rw [if_pos (Classical.not_not.1 (fun h => a3 ((hs f4).1 h))), if_neg a3]; rfl
        · rfl
      · rw [if_neg a2, if_neg a2]; rfl
    · rw [if_neg a1, if_neg a1]; rfl
  · simp only [if_neg h6]
    by_cases h2 : f0 = 2
    · subst h2
      simpa using imaged
    · simp only [if_neg h2]
      by_cases h3 : f0 = 3
      · subst h3
        simpa using imaged
      · by_cases hr : f0 = 1 ∨ f0 = 4 ∨ f0 = 5 ∨ f0 = 7
        · rw [if_neg (by omega), if_neg (by omega), if_neg (by omega)]
          exact plain _ (beq_eq_false_iff_ne.2 h3) hr
        · rw [show (if f0 < 1 then some false else if 7 < f0 then some false else if f0 = 2 ∨ f0 = 3 then journal_imaged.f f0 f1 f2 f3 f4 else journal_plain.f f0 f1 f2 f3 f4).getD false = false by
            by_cases hz : f0 < 1
            · rw [if_pos hz]; rfl
            · rw [if_neg hz, if_pos (by omega)]; rfl]
          refine Ev.step (body := fun _ => some false) (fun k => ?_) (Ev.val _)
          rw [ringworkref25_Valid.j0, if_neg (by simpa using h3), if_neg (by omega), if_neg (by omega), if_neg (by omega), if_neg (by omega)]
theorem ref_notes_from (l : List S39) (hl : l.length ≤ 9223372036854775807) : ∀ (d i : Nat), d = l.length - i → i ≤ l.length → Ev (fun k => ringworkref25_notes.l0 k l (i : Int)) ((l.drop i).all vld && decide (l.length ≤ 1000))
  | 0, i, hd, hi => by
    have : i = l.length := by omega
    subst this
    rw [List.drop_length]
    exact Ev.step (fun k => by rw [ringworkref25_notes.l0, if_neg (by omega)]) (Ev.of fun k => by simp; omega)
  | d + 1, i, hd, hi => by
    have hlt : i < l.length := by omega
    refine Ev.step (fun k => by rw [ringworkref25_notes.l0, if_pos (by omega), if_pos (by omega)]) ?_
    rw [drop_rd hlt, List.all_cons]
    refine Ev.bind (ref_Valid _) ?_
    cases vld (rd_T39 l (i : Int))
    · exact Ev.val _
    · simp only [if_true, Bool.true_and]
      rw [wrap_nx hlt hl]
      exact ref_notes_from l hl d (i + 1) (by omega) (by omega)
theorem ref_notes (l : List S39) (hl : l.length ≤ 9223372036854775807) : Ev (fun k => ringworkref25_notes.f k l) (decide (l.length ≤ 1000) && l.all vld) := by
  have := ref_notes_from l hl l.length 0 (by omega) (by omega)
  rw [List.drop_zero, Bool.and_comm] at this
  exact this
end Go.Proofs.Yteblpjnkinghoaa.J
/- The reader's walks: must, bytes, number. -/
set_option linter.unusedVariables false
set_option linter.unusedSimpArgs false
namespace Go.Proofs.Yteblpjnkinghoaa.J
open Go.RowKit Go.Proofs.YteblpjnkinghoaaW.PrintWords Go.Proofs.YteblpjnkinghoaaW.PrintLast Go.Proofs.YteblpjnkinghoaaW.PrintMore
/-- Worlds alike but for some blocks and for new ones. -/
structure But (S : Nat → Prop) (w w' : World) : Prop where
  os : w'.os = w.os
  tape : w'.tape = w.tape
  output : w'.output = w.output
  size : w.heap.size ≤ w'.heap.size
  block : ∀ k, k < w.heap.size → ¬ S k → w'.heap[k]? = w.heap[k]?
theorem But.refl (S : Nat → Prop) (w : World) : But S w w := ⟨rfl, rfl, rfl, Nat.le_refl _, fun _ _ _ => rfl⟩
theorem But.trans {S : Nat → Prop} {a b c : World} (h : But S a b) (k : But S b c) : But S a c :=
  ⟨k.os.trans h.os, k.tape.trans h.tape, k.output.trans h.output, Nat.le_trans h.size k.size, fun j hj hs => (k.block j (Nat.lt_of_lt_of_le hj h.size) hs).trans (h.block j hj hs)⟩
theorem But.of_below {S : Nat → Prop} {w w' : World} (h : Below w.heap.size w w') : But S w w' := ⟨h.os, h.tape, h.output, h.size, fun k hk _ => h.block k hk⟩
theorem But.drew {S : Nat → Prop} {a w : World} (h : But S a w) : But S a w.drew := ⟨h.os, h.tape, h.output, h.size, h.block⟩
theorem But.set {S : Nat → Prop} {a w : World} (h : But S a w) {p : Addr} (hp : S p.block) (v : Value) : But S a (w.setCell p v) := by
  refine ⟨?_, ?_, ?_, ?_, ?_⟩
  · simpa [World.setCell] using h.os
  · simpa [World.setCell] using h.tape
  · simpa [World.setCell] using h.output
  · simpa [World.setCell] using h.size
  · intro k hk hs
    rw [Below.heap_setCell w p v k (fun e => hs (e ▸ hp))]
    exact h.block k hk hs
theorem But.cell {S : Nat → Prop} {w w' : World} (h : But S w w') {p : Addr} (hp : p.block < w.heap.size) (hs : ¬ S p.block) : w'.cell? p = w.cell? p := World.cell?_of_block (w := w) (h.block p.block hp hs)
theorem But.frozen {S : Nat → Prop} {w w' : World} (h : But S w w') {p : Addr} (hp : p.block < w.heap.size) (hs : ¬ S p.block) : w'.frozen? p = w.frozen? p := World.frozen?_of_block (w := w) (h.block p.block hp hs)
theorem But.below {S : Nat → Prop} {B : Nat} {w w' : World} (h : But S w w') (hB : B ≤ w.heap.size) (hS : ∀ k, S k → B ≤ k) : Below B w w' :=
  ⟨h.os, h.tape, h.output, h.size, fun k hk => h.block k (Nat.lt_of_lt_of_le hk hB) (fun hs => by have := hS k hs; omega)⟩
theorem But.mono {S T : Nat → Prop} {w w' : World} (h : But S w w') (hST : ∀ k, k < w.heap.size → S k → T k) : But T w w' :=
  ⟨h.os, h.tape, h.output, h.size, fun k hk hs => h.block k hk (fun h' => hs (hST k hk h'))⟩

/-- The reader in block R: bytes and place. -/
structure Rd (R : Nat) (s : ByteArray) (i : Int) (w : World) : Prop where
  str : w.cell? ⟨R, 0, none⟩ = some (.string s)
  pos : w.cell? ⟨R, 1, none⟩ = some (.int .i64 i)
  fz : w.frozen? ⟨R, 1, none⟩ = false
theorem cell_lt {w : World} {p : Addr} {v : Value} (h : w.cell? p = some v) : p.block < w.heap.size := by
  refine Nat.lt_of_not_le fun hn => ?_
  simp [World.cell?, Array.getElem?_eq_none hn] at h
theorem Rd.lt {R : Nat} {s : ByteArray} {i : Int} {w : World} (h : Rd R s i w) : R < w.heap.size := cell_lt h.str
theorem Rd.past {R : Nat} {s : ByteArray} {i : Int} {w w' : World} (h : Rd R s i w) (hb : Below w.heap.size w w') : Rd R s i w' :=
  ⟨(hb.cell (p := ⟨R, 0, none⟩) h.lt).trans h.str, (hb.cell (p := ⟨R, 1, none⟩) h.lt).trans h.pos, (hb.frozen (p := ⟨R, 1, none⟩) h.lt).trans h.fz⟩

/-- What a panic of one's own ends a call with. -/
abbrev Dead (t : TypeId) : Ending := .panicked [{ v := .iface t (.agg #[]), recovered := false }]

theorem must_ok (w : World) : Calls Try.prog 91 #[.bool true] w fun e w' => e = .returned (.tuple #[]) ∧ w' = w := by
  go_enter Try.func91, Try.ntmps91
  go_wp2
  go_end0
  exact ⟨rfl, rfl⟩
theorem must_no (w : World) : Calls Try.prog 91 #[.bool false] w fun e w' => e = Dead 120 ∧ w' = w := by
  go_enter Try.func91, Try.ntmps91
  go_wp2
  exact ⟨rfl, rfl, rfl⟩
theorem Rd.set {R : Nat} {s : ByteArray} {i : Int} {w : World} (h : Rd R s i w) (j : Int) : Rd R s j (w.setCell ⟨R, 1, none⟩ (.int .i64 j)) := by
  refine ⟨?_, ?_, ?_⟩
  · exact (World.cell?_setCell_other _ _ _ _ (by simp)).trans h.str
  · exact World.cell?_setCell_same _ _ _ h.pos
  · rw [World.frozen?_setCell]
    exact h.fz
theorem bytes_ok (R : Nat) (s : ByteArray) (i n : Int) (w : World) (h : Rd R s i w) (hi : 0 ≤ i) (hn : 0 ≤ n) (hs : i + n ≤ (s.size : Int)) (hb : (s.size : Int) ≤ 1000000) :
    Calls Try.prog 93 #[.pointer (some ⟨R, 0, none⟩), .int .i64 n] w fun e w' => e = .returned (.string (s.extract i.toNat (i + n).toNat)) ∧ Rd R s (i + n) w' ∧ But (· = R) w w' := by
  have hstr := h.str
  have hpos := h.pos
  have hq1 := fun p : Past w => Past.cell hstr p
  have hq2 := fun p : Past w => Past.cell hpos p
  have hw : wrap64 (i + n) = i + n := by unfold wrap64; omega
  have hd : decide ((s.size : Int) < i + n) = false := decide_eq_false (by omega)
  go_enter Try.func93, Try.ntmps93
  go_wp2
  refine wp_region_past (by kernel_rfl) (by kernel_rfl) ?_
  repeat (go_big_quiet_step (fail))
  refine wpQuiet_nil ?_
  rintro _ ⟨p, rfl⟩
  have hb1 := p.h
  have h1 := h.past hb1
  generalize p.W = w1 at hb1 h1 ⊢
  clear hstr hpos hq1 hq2
  have hstr := h1.str
  have hpos := h1.pos
  have hfz := h1.fz
  go_wp2
  have h2 := h1.set (i + n)
  have hb2 : But (· = R) w (w1.setCell ⟨R, 1, none⟩ (.int .i64 (i + n))) := (But.of_below hb1).set (S := (· = R)) (p := ⟨R, 1, none⟩) rfl _
  generalize w1.setCell ⟨R, 1, none⟩ (.int .i64 (i + n)) = w2 at h2 hb2 ⊢
  clear hstr hpos hfz
  have hq1 := fun p : Past w2 => Past.cell h2.str p
  have hq2 := fun p : Past w2 => Past.cell h2.pos p
  have e1 : i + n - n = i := by omega
  have hw2 : wrap64 i = i := by unfold wrap64; omega
  refine wp_region_past (by kernel_rfl) (by kernel_rfl) ?_
  have hsl : ∀ p : Past w2, (Instr.slice 9 (.string s) (some (.int .i64 i)) (some (.int .i64 (i + n))) none).run Try.prog p.W = .ok (.string (s.extract i.toNat (i + n).toNat)) p.W := fun p => by
    rw [run_slice_string_if _ _ _ _ _ _ _ Try.underlying9, if_pos ⟨by omega, hs⟩, if_pos ⟨hi, by omega⟩]
  repeat (go_big_quiet_step (fail))
  refine wpQuiet_nil ?_
  rintro _ ⟨p, rfl⟩
  have hb3 := p.h
  have h3 := h2.past hb3
  generalize p.W = w3 at hb3 h3 ⊢
  go_wp2
  go_ret
  exact ⟨rfl, h3, hb2.trans (But.of_below hb3)⟩
theorem bytes_torn (R : Nat) (s : ByteArray) (i n : Int) (w : World) (h : Rd R s i w) (hi : 0 ≤ i) (hn : 0 ≤ n) (hs : (s.size : Int) < i + n) (hb : i ≤ 1000000) (hc : n ≤ 1000000) :
    Calls Try.prog 93 #[.pointer (some ⟨R, 0, none⟩), .int .i64 n] w fun e w' => e = Dead 119 ∧ Rd R s i w' ∧ But (· = R) w w' := by
  have hstr := h.str
  have hpos := h.pos
  have hq1 := fun p : Past w => Past.cell hstr p
  have hq2 := fun p : Past w => Past.cell hpos p
  have hw : wrap64 (i + n) = i + n := by unfold wrap64; omega
  have hd : decide ((s.size : Int) < i + n) = true := decide_eq_true hs
  go_enter Try.func93, Try.ntmps93
  go_wp2
  refine wp_region_past (by kernel_rfl) (by kernel_rfl) ?_
  repeat (go_big_quiet_step (fail))
  refine wpQuiet_nil ?_
  rintro _ ⟨p, rfl⟩
  have hb1 := p.h
  have h1 := h.past hb1
  generalize p.W = w1 at hb1 h1 ⊢
  go_wp2
  exact ⟨rfl, rfl, h1, But.of_below hb1⟩
theorem number_torn (R : Nat) (s : ByteArray) (i : Int) (w : World) (h : Rd R s i w) (hi : 0 ≤ i) (hs : (s.size : Int) ≤ i) (hb : i ≤ 1000000) :
    Calls Try.prog 92 #[.pointer (some ⟨R, 0, none⟩), .int .i64 1] w fun e w' => e = Dead 119 ∧ Rd R s i w' ∧ But (· = R) w w' := by
  go_enter Try.func92, Try.ntmps92
  go_wp2_with (go_at_call 93; refine (bytes_torn R s i 1 _ h hi (by omega) (by omega) hb (by omega)).mono ?_; rintro e w2 ⟨rfl, h2, hb2⟩)
  exact ⟨rfl, rfl, h2, hb2⟩
theorem one_byte (s : ByteArray) (i : Int) (hi : 0 ≤ i) (hs : i < (s.size : Int)) : (s.extract i.toNat (i + 1).toNat).size = 1 := by
  rw [ByteArray.size_extract]; omega
/-- A byte of a string, and the same among its data. -/
theorem bt_data (s : ByteArray) (k : Nat) (hk : k < s.size) : ((s.data.toList.getD k 0).toNat : Int) = bt s (k : Int) := by
  rw [← bt_at s (k : Int) (by simpa using hk)]
  have hk' : k < s.data.size := hk
  simp only [List.getD_eq_getElem?_getD, Array.getElem?_toList, Array.getElem?_eq_getElem hk', Option.getD_some, Int.toNat_natCast]
  rfl
theorem bt_extract (s : ByteArray) (a b k : Nat) (hk : a + k < b) (hb : b ≤ s.size) : bt (s.extract a b) (k : Int) = bt s ((a + k : Nat) : Int) := by
  have h1 : k < (s.extract a b).size := by rw [ByteArray.size_extract]; omega
  rw [← bt_at _ (k : Int) (by simpa using h1), ← bt_at s ((a + k : Nat) : Int) (by simp; omega)]
  simp only [ByteArray.getElem_extract, Int.toNat_natCast]
theorem wraps_i64 (n : Int) (h₀ : 0 ≤ n) (h₁ : n < 2 ^ 31) : IntKind.i64.wrap n = n := by rw [IntKind.wrap_i64]; omega
theorem i64_or8 {x y : Int} (hx₀ : 0 ≤ x) (hx : x % 256 = 0) (hx₁ : x < 2147483648) (h₀ : 0 ≤ y) (h₁ : y < 256) : Go.bits .or .i64 x y = x + y :=
  bits_join .i64 31 (by decide) wraps_i64 8 x y hx₀ hx hx₁ h₀ h₁ (by omega)
set_option maxRecDepth 100000 in
theorem number_ok (R : Nat) (s : ByteArray) (i : Int) (w : World) (h : Rd R s i w) (hi : 0 ≤ i) (hs : i < (s.size : Int)) (hb : (s.size : Int) ≤ 1000000) :
    Calls Try.prog 92 #[.pointer (some ⟨R, 0, none⟩), .int .i64 1] w fun e w' => e = .returned (.int .i64 (bt s i)) ∧ Rd R s (i + 1) w' ∧ But (· = R) w w' := by
  have hcv := fun (W : World) (t : ByteArray) => Lib.run_convert_string_bytes (P := Try.prog) W 9 53 5 t Try.underlying9 Try.underlying53 Try.underlying5
  have hsz := one_byte s i hi hs
  have hcell : ∀ W : World, (Lib.bytesWorld W 5 (s.extract i.toNat (i + 1).toNat)).cell? ⟨W.heap.size, 0, none⟩ = some (.int .u8 (bt s i)) := by
    intro W
    rw [Lib.bytesWorld_cell W 5 _ 0 (by omega), bt_data _ 0 (by omega), bt_extract s i.toNat (i + 1).toNat 0 (by omega) (by omega)]
    congr 3; omega
  have hrg := bt_range s i
  have hor : Go.bits .or .i64 0 (bt s i) = bt s i := by rw [i64_or8 (by omega) (by omega) (by omega) hrg.1 (by omega)]; omega
  go_enter Try.func92, Try.ntmps92
  go_wp2_with (go_at_call 93; refine (bytes_ok R s i 1 _ h hi (by omega) (by omega) hb).mono ?_; rintro e w2 ⟨rfl, h2, hb2⟩; generalize s.extract i.toNat (i + 1).toNat = t at hsz hcell ⊢; have hcell := hcell w2; have hold := fun a ha => Lib.bytesWorld_old w2 5 t a ha)
  have h3 : Below w2.heap.size w2 (Lib.bytesWorld w2 5 t) := ⟨rfl, rfl, rfl, by rw [Lib.bytesWorld_size]; omega, fun k hk => Lib.bytesWorld_at_old w2 5 t k hk⟩
  generalize Lib.bytesWorld w2 5 t = w3 at hcell h3 ⊢
  refine wp_loop_rounds 2 ?_
  rw [rounds_succ]
  go_wp2
  rw [rounds_succ]
  go_wp2
  go_ret
  have h4 : Below w2.heap.size w2 w3 := h3
  exact ⟨rfl, h2.past h3, hb2.trans (But.of_below h3)⟩
end Go.Proofs.Yteblpjnkinghoaa.J
/- The program's eight and Sum. -/
set_option linter.unusedVariables false
set_option linter.unusedSimpArgs false
namespace Go.Proofs.Yteblpjnkinghoaa.J
open Go.RowKit Go.Proofs.YteblpjnkinghoaaW.PrintWords Go.Proofs.YteblpjnkinghoaaW.PrintLast Go.Proofs.YteblpjnkinghoaaW.PrintMore
def eightL (n : Int) : List Int := [n / 72057594037927936 % 256, n / 281474976710656 % 256, n / 1099511627776 % 256, n / 4294967296 % 256, n / 16777216 % 256, n / 65536 % 256, n / 256 % 256, n % 256]
def eightS (n : Int) : ByteArray := strOfNums (eightL n)
set_option maxRecDepth 100000 in
theorem eight_calls (n : Int) (w : World) : Calls Try.prog 62 #[.int .u64 n] w fun e w' => e = .returned (.string (eightS n)) ∧ Below w.heap.size w w' := by
  have hcv : (convert 53 9 (.slice (some ⟨w.heap.size, 0, none⟩) 8 8)).run Try.prog (w.alloc (.cells #[.int .u8 (n / 72057594037927936 % 256), .int .u8 (n / 281474976710656 % 256), .int .u8 (n / 1099511627776 % 256), .int .u8 (n / 4294967296 % 256), .int .u8 (n / 16777216 % 256), .int .u8 (n / 65536 % 256), .int .u8 (n / 256 % 256), .int .u8 (n % 256)] 110)) = .ok (.string (eightS n)) (w.alloc (.cells #[.int .u8 (n / 72057594037927936 % 256), .int .u8 (n / 281474976710656 % 256), .int .u8 (n / 1099511627776 % 256), .int .u8 (n / 4294967296 % 256), .int .u8 (n / 16777216 % 256), .int .u8 (n / 65536 % 256), .int .u8 (n / 256 % 256), .int .u8 (n % 256)] 110)) := by
    refine run_convert_bytes_arg _ 53 5 Try.underlying53 Try.underlying5 w.heap.size 0 8 8 (eightL n) rfl (fun i hi => ?_) 9 Try.underlying9
    rw [World.cell?, heap_alloc_new]
    match i, hi with
    | 0, _ => rfl
    | 1, _ => rfl
    | 2, _ => rfl
    | 3, _ => rfl
    | 4, _ => rfl
    | 5, _ => rfl
    | 6, _ => rfl
    | 7, _ => rfl
  go_enter Try.func62, Try.ntmps62
  go_wp2
  refine wp_loop_rounds 9 ?_
  rw [rounds_succ]
  go_wp2
  rw [rounds_succ]
  go_wp2
  rw [rounds_succ]
  go_wp2
  rw [rounds_succ]
  go_wp2
  rw [rounds_succ]
  go_wp2
  rw [rounds_succ]
  go_wp2
  rw [rounds_succ]
  go_wp2
  rw [rounds_succ]
  go_wp2
  rw [rounds_succ]
  go_wp2
  go_ret
  exact ⟨rfl, (Below.refl _ _).alloc (Nat.le_refl _) _⟩
def sumStep (h b : Int) : Int := IntKind.u64.wrap (Go.bits .xor .u64 h (IntKind.u64.wrap b) * 1099511628211)
/-- The sum over the last k bytes. -/
def sumGo (t : ByteArray) : Nat → Int → Int
  | 0, h => h
  | k + 1, h => sumGo t k (sumStep h (bt t ((t.size : Int) - (k + 1 : Nat))))
def sumF (last : Int) (s : ByteArray) : Int := sumGo (eightS last ++ s) (eightS last ++ s).size 14695981039346656037
theorem eightS_size (n : Int) : (eightS n).size = 8 := by rw [eightS, strOfNums_size]; rfl
set_option maxRecDepth 100000 in
theorem Sum_calls (last : Int) (s : ByteArray) (hs : s.size ≤ 1000000) (w : World) : Calls Try.prog 30 #[.int .u64 last, .string s] w fun e w' => e = .returned (.int .u64 (sumF last s)) ∧ Below w.heap.size w w' := by
  have hcv := fun (W : World) (t : ByteArray) => Lib.run_convert_string_bytes (P := Try.prog) W 9 53 5 t Try.underlying9 Try.underlying53 Try.underlying5
  obtain ⟨r, hr⟩ : ∃ r, sumF last s = r := ⟨_, rfl⟩
  rw [hr]
  unfold sumF at hr
  have hsz : (eightS last ++ s).size ≤ 1000008 := by rw [ByteArray.size_append, eightS_size]; omega
  have hcell : ∀ (W : World) (j : Nat), j < (eightS last ++ s).size → (Lib.bytesWorld W 5 (eightS last ++ s)).cell? ⟨W.heap.size, j, none⟩ = some (.int .u8 (bt (eightS last ++ s) j)) := by
    intro W j hj
    rw [Lib.bytesWorld_cell W 5 _ j hj, bt_data _ j hj]
  have hno : (9223372036854775807 < (eightS last).size + s.size) = False := eq_false (by rw [eightS_size]; omega)
  have happ : (eightS last ++ s).size = (eightS last).size + s.size := ByteArray.size_append
  go_enter Try.func30, Try.ntmps30
  go_wp2_with (go_at_call 62; refine (eight_calls last _).mono ?_; rintro e w2 ⟨rfl, hb2⟩)
  have h3 : Below w.heap.size w (Lib.bytesWorld w2 5 (eightS last ++ s)) := below_step hb2 ⟨rfl, rfl, rfl, by rw [Lib.bytesWorld_size]; omega, fun k hk => Lib.bytesWorld_at_old w2 5 _ k hk⟩
  have hcell := hcell w2
  clear hcv hno hb2
  generalize w2.heap.size = g, Lib.bytesWorld w2 5 (eightS last ++ s) = w3 at hcell h3 ⊢
  generalize grownCap w2 ((eightS last).size + s.size) 0 5 = cp
  clear w2
  have hN : (eightS last).size + s.size = (eightS last ++ s).size := happ.symm
  have hNi : ((eightS last).size : Int) + (s.size : Int) = ((eightS last ++ s).size : Int) := by rw [happ]; push_cast; rfl
  rw [hN, hNi]
  clear hN hNi happ
  generalize eightS last ++ s = t at hr hsz hcell ⊢
  go_loopg [5, 14] (t.size + 1) (fun kq v5 v14 w' => ∃ (h : Int) (j : Nat), v5 = .int .u64 h ∧ v14 = .int .i64 (j : Int) ∧ j ≤ t.size ∧ kq = t.size - j + 1 ∧ sumGo t (t.size - j) h = r ∧ w' = w3)
  case atStart => exact ⟨14695981039346656037, 0, rfl, rfl, Nat.zero_le _, rfl, hr, rfl⟩
  case round =>
    obtain ⟨h, j, rfl, rfl, hj, rfl, hg, rfl⟩ := hrel
    by_cases hlt : j < t.size
    · have hd : decide ((j : Int) < (t.size : Int)) = true := decide_eq_true (by omega)
      have hc := hcell j hlt
      have hb0 : ((j : Int) < 0) = False := eq_false (by omega)
      have hb1 : ((t.size : Int) ≤ (j : Int)) = False := eq_false (by omega)
      have hbr := bt_range t j
      have hst : t.size - j = (t.size - (j + 1)) + 1 := by omega
      rw [hst, sumGo, show ((t.size : Int) - ((t.size - (j + 1) + 1 : Nat) : Int)) = (j : Int) by omega] at hg
      have hu : IntKind.u64.wrap (bt t j) = bt t j := by simp [IntKind.wrap, IntKind.bits, IntKind.signed]; omega
      unfold sumStep at hg
      rw [hu] at hg
      go_wp2
      go_roundg (t.size - (j + 1) + 1)
      case measure => omega
      case rel => exact ⟨_, j + 1, rfl, by push_cast; rfl, by omega, rfl, hg, rfl⟩
    · have hd : decide ((j : Int) < (t.size : Int)) = false := decide_eq_false (by omega)
      go_wp2
      go_ret
      rw [show t.size - j = 0 by omega, sumGo] at hg
      exact ⟨by rw [hg]; rfl, h3⟩
end Go.Proofs.Yteblpjnkinghoaa.J
/- The reference's eight and Sum are the program's. (The walk of eight: the kit's printer's, its name turned.) -/
namespace Go.Proofs.Yteblpjnkinghoaa.J
open Go.RowKit Go.Proofs.YteblpjnkinghoaaW.PrintWords Go.Proofs.YteblpjnkinghoaaW.PrintLast Go.Proofs.YteblpjnkinghoaaW.PrintMore
attribute [local go_sem] max2_int min2_int max_two min_two max_three min_three max_four min_four   -- for this text's walks alone
set_option linter.unusedVariables false
set_option linter.unusedSimpArgs false
/-! ### rEight: function 63 -/
def rEight.l0 : Nat → Int → List Int → Int → Option (ByteArray)
  | 0, _, _, _ => none
  | k + 1, x0, x3, x4 => if x4 ≥ 0 then (if 0 ≤ (IntKind.u64.wrap (x4)) then (if x3.length < 140737488355328 then (rEight.l0 k x0 (x3 ++ [(shr .u64 x0 (IntKind.u64.wrap (x4))) % 256]) (wrap64 (x4 - 8))) else (none)) else (none)) else (some (strOfNums x3))
def rEight.f (k : Nat) (a0 : Int) : Option (ByteArray) := rEight.l0 k a0 ([] : List Int) 56
set_option maxHeartbeats 8000000 in
set_option maxRecDepth 100000 in
theorem rEight.calls (k : Nat) (a0 : Int) (r : ByteArray) (w : World) (h : rEight.f k a0 = some r) :
    Calls Try.prog 63 #[.int .u64 a0] w fun e w' => e = .returned (.string r) ∧ Below w.heap.size w w' := by
  have HB := Aside0.mk (Below.refl w.heap.size w)
  have H : (rEight.l0 k a0 ([] : List Int) 56) = some r := h
  clear h
  have H' := Aside0.mk H
  clear H
  go_enter Try.func63, Try.ntmps63
  go_wp2
  go_loopg [3, 4] k (fun kq v3 v4 w' => ∃ (x3_1 : List Int) (x4_1 : Int), v4 = .int .i64 x4_1 ∧ Aside0 (rEight.l0 kq a0 x3_1 x4_1 = some r) ∧ Aside0 (kq ≤ k) ∧ Aside0 (Kd.R (Kd.int .u8) 5 w' w.heap.size (fun _ => True) v3 x3_1) ∧ Aside0 (Below w.heap.size w w'))
  case atStart => exact ⟨(([] : List Int)), (56), (by first | rfl | (simp; done) | (simp [*]; done)), H', ⟨Nat.le_refl _⟩, ⟨by first | exact Kd.R_nil _ _ _ _ _ | exact Kd.N_nil _ _ _ _ _ | exact Kd.V_nil _ _ _ _ _ | exact Kd.Q_nil _ _ _ _ _ | exact Kd.S_nil _ _ _ _ _⟩, ⟨by repeat (first | (with_reducible first | exact HB.out | apply below_alloc | apply pw_below_drewN | apply below_drew1) | exact HB.out)⟩⟩
  case round =>
    clear H'
    obtain ⟨x3_1, x4_1, rfl, HA, HK1, HO_3, HB⟩ := hrel
    cases gk with
    | zero => exact absurd HA.out (by simp [rEight.l0])
    | succ k1 =>
      have H := HA.out
      clear HA
      simp only [rEight.l0] at H
      by_cases c2 : x4_1 ≥ 0
      · rw [if_pos c2] at H
        have c2b0 : decide (0 ≤ x4_1) = true := decide_eq_true c2
        clear c2
        obtain ⟨ji3, hji3⟩ : ∃ j_ : Int, (IntKind.u64.wrap (x4_1)) = j_ := ⟨_, rfl⟩
        replace H : (if 0 ≤ (ji3) then (if x3_1.length < 140737488355328 then (rEight.l0 k1 a0 (x3_1 ++ [(shr .u64 a0 (ji3)) % 256]) (wrap64 (x4_1 - 8))) else (none)) else (none)) = some r := by first | (rw [hji3] at H; exact H) | (simp only [hji3] at H ⊢; exact H)
        by_cases c4 : 0 ≤ (ji3)
        · rw [if_pos c4] at H
          have c4b0 := eq_true c4
          have c4b1 : decide (0 ≤ (ji3)) = true := decide_eq_true c4
          clear c4
          obtain ⟨ji5, hji5⟩ : ∃ j_ : Int, (shr .u64 a0 (ji3)) = j_ := ⟨_, rfl⟩
          replace H : (if x3_1.length < 140737488355328 then (rEight.l0 k1 a0 (x3_1 ++ [(ji5) % 256]) (wrap64 (x4_1 - 8))) else (none)) = some r := by first | (rw [hji5] at H; exact H) | (simp only [hji5] at H ⊢; exact H)
          have hji5_ : (a0 / 2 ^ min (ji3).toNat 64) = ji5 := hji5
          have hji5z : (ji3) ≤ 64 → (a0 / 2 ^ (ji3).toNat) = ji5 := shr_small hji5
          by_cases c6 : x3_1.length < 140737488355328
          · rw [if_pos c6] at H
            have LMc6 := Aside0.mk c6
            clear c6
            obtain ⟨y118, hy118⟩ : ∃ y_ : List Int, y_ = (x3_1 ++ [(ji5) % 256]) := ⟨_, rfl⟩
            replace H : (rEight.l0 k1 a0 y118 (wrap64 (x4_1 - 8))) = some r := by first | (rw [hy118]; with_reducible exact H) | (have H2_ := (Option.bind_some _ _).symm.trans H; rw [hy118]; with_reducible exact H2_) | (have H2_ := (Option.bind_some _ _).symm.trans H; with_reducible exact H2_) | with_reducible exact H | (rw [hy118]; exact H) | exact H
            have Ny118 := Aside0.mk hy118
            clear hy118
            have H' := Aside0.mk H
            clear H
            go_wp2_with (first | ((with_reducible refine gate_builtin (b := .append) (xs := #[.tmp 9, .tmp 15]) rfl ?_); at_builtin; refine Kd.R_append (Kd.int .u8) (w0 := w) w.heap.size rfl (.tmp 9) (.tmp 15) 53 5 (.int .u8 0) 1 rfl Try.underlying53 info5 rfl (by decide) (by omega) u3 x3_1 ((ji5) % 256) [.int .u8 ((ji5) % 256)] (fun _ => True) (fun _ => False) rfl rfl ?aP (fun _ hk => hk.elim) ?aF ?aO ?aB ?aS ?aL ?_; (case aP => exact rfl); (case aB => exact (by repeat (first | (with_reducible first | exact HB.out | apply below_alloc | apply pw_below_drewN | apply below_drew1) | exact HB.out))); (case aF => exact (fun _ _ => trivial)); (case aO => exact (by (with_reducible repeat (first | apply Kd.R_alloc | apply Kd.R_drewN | apply Kd.R_drew)); exact HO_3.out)); (case aS => exact (below_size (by repeat (first | (with_reducible first | exact HB.out | apply below_alloc | apply pw_below_drewN | apply below_drew1) | exact HB.out)))); (case aL => have := LMc6.out; omega); intro v119 w7 ho hb hg hat; rw [← Ny118.out] at ho; have n0_ := Aside0.mk (hb); have n1_ := Aside0.mk (ho); clear HB; clear HO_3; have HB := n0_; have HO120 := n1_; clear n0_ n1_; clear ho hb hg hat))
            go_roundg k1
            case measure => have := HK1.out; omega
            case rel => exact ⟨(y118), (wrap64 (x4_1 - 8)), (by first | rfl | (simp; done) | (simp [*]; done)), H', ⟨by have := HK1.out; omega⟩, ⟨by (with_reducible repeat (first | apply Kd.R_alloc | apply Kd.R_drewN | apply Kd.R_drew)); exact HO120.out⟩, ⟨by repeat (first | (with_reducible first | exact HB.out | apply below_alloc | apply pw_below_drewN | apply below_drew1) | exact HB.out)⟩⟩
          · rw [if_neg c6] at H
            exact absurd H (by simp)
        · rw [if_neg c4] at H
          exact absurd H (by simp)
      · rw [if_neg c2] at H
        have c2b0 : decide (0 ≤ x4_1) = false := decide_eq_false c2
        clear c2
        obtain rfl := Option.some.inj H
        have hcv8 := own_string (P := Try.prog) Try.underlying53 Try.underlying5 Try.underlying9 (Kd.own_of_R HO_3.out)
        go_wp2
        go_ret
        exact ⟨by first | rfl | (simp [errW_none, errW_some] <;> rfl) | (simp [*, errW_none, errW_some] <;> rfl), by repeat (first | (with_reducible first | exact HB.out | apply below_alloc | apply pw_below_drewN | apply below_drew1) | exact HB.out)⟩


theorem ix (s : ByteArray) (i : Int) (h0 : 0 ≤ i) (h1 : i < (s.size : Int)) (W : World) : (Instr.index 9 (.string s) (.int .i64 i)).run Try.prog W = .ok (.int .u8 (bt s i)) W := by
  rw [run_index_string W 9 s .i64 i Try.underlying9, dif_pos ⟨h0, h1⟩, ← bt_at s i (by omega)]
theorem eight_step (k : Nat) (n : Int) (xs : List Int) (x y z : Int) (h0 : 0 ≤ x) (hx : x < 100) (hl : xs.length < 1000) (hy : y = x - 8) (hz : shr .u64 n x = z) : rEight.l0 (k + 1) n xs x = rEight.l0 k n (xs ++ [z % 256]) y := by
  have hw : IntKind.u64.wrap x = x := by simp [IntKind.wrap, IntKind.bits, IntKind.signed]; omega
  rw [rEight.l0, if_pos h0, hw, if_pos h0, if_pos (by omega), hz, show wrap64 (x - 8) = y by unfold wrap64; omega]
theorem eight_f (k : Nat) (n : Int) : rEight.f (k + 9) n = some (eightS n) := by
  unfold rEight.f
  rw [show k + 9 = k + 8 + 1 from rfl, eight_step (k + 8) n _ 56 48 (n / 72057594037927936) (by decide) (by decide) (by decide) (by decide) (by rfl),
    show k + 8 = k + 7 + 1 from rfl, eight_step (k + 7) n _ 48 40 (n / 281474976710656) (by decide) (by decide) (by simp) (by decide) (by rfl),
    show k + 7 = k + 6 + 1 from rfl, eight_step (k + 6) n _ 40 32 (n / 1099511627776) (by decide) (by decide) (by simp) (by decide) (by rfl),
    show k + 6 = k + 5 + 1 from rfl, eight_step (k + 5) n _ 32 24 (n / 4294967296) (by decide) (by decide) (by simp) (by decide) (by rfl),
    show k + 5 = k + 4 + 1 from rfl, eight_step (k + 4) n _ 24 16 (n / 16777216) (by decide) (by decide) (by simp) (by decide) (by rfl),
    show k + 4 = k + 3 + 1 from rfl, eight_step (k + 3) n _ 16 8 (n / 65536) (by decide) (by decide) (by simp) (by decide) (by rfl),
    show k + 3 = k + 2 + 1 from rfl, eight_step (k + 2) n _ 8 0 (n / 256) (by decide) (by decide) (by simp) (by decide) (by rfl),
    show k + 2 = k + 1 + 1 from rfl, eight_step (k + 1) n _ 0 (-8) n (by decide) (by decide) (by simp) (by decide) (by simp [shr]), rEight.l0, if_neg (by decide)]
  rfl
def ringworkref25_eight.f (a0 : Int) : Option ByteArray := some (eightS a0)
theorem ringworkref25_eight.calls (a0 : Int) (r : ByteArray) (w : World) (h : ringworkref25_eight.f a0 = some r) :
    Calls Try.prog 63 #[.int .u64 a0] w fun e w' => e = .returned (.string r) ∧ Below w.heap.size w w' := by
  obtain rfl := Option.some.inj h
  exact rEight.calls 9 a0 _ w (eight_f 0 a0)
theorem rSum_calls (last : Int) (s : ByteArray) (hs : s.size ≤ 1000000) (w : World) : Calls Try.prog 31 #[.int .u64 last, .string s] w fun e w' => e = .returned (.int .u64 (sumF last s)) ∧ Below w.heap.size w w' := by
  obtain ⟨r, hr⟩ : ∃ r, sumF last s = r := ⟨_, rfl⟩
  rw [hr]
  unfold sumF at hr
  have hsz : (eightS last ++ s).size ≤ 1000008 := by rw [ByteArray.size_append, eightS_size]; omega
  have hno : (9223372036854775807 < (eightS last).size + s.size) = False := eq_false (by rw [eightS_size]; omega)
  go_enter Try.func31, Try.ntmps31
  go_wp2_with (go_at_call 63; refine (ringworkref25_eight.calls last _ _ rfl).mono ?_; rintro e w2 ⟨rfl, hb2⟩)
  clear hno
  generalize eightS last ++ s = t at hr hsz ⊢
  go_loopg [5, 7] (t.size + 1) (fun kq v5 v7 w' => ∃ (h : Int) (j : Nat), v5 = .int .u64 h ∧ v7 = .int .i64 (j : Int) ∧ j ≤ t.size ∧ kq = t.size - j + 1 ∧ sumGo t (t.size - j) h = r ∧ w' = w2)
  case atStart => exact ⟨14695981039346656037, 0, rfl, rfl, Nat.zero_le _, rfl, hr, rfl⟩
  case round =>
    obtain ⟨h, j, rfl, rfl, hj, rfl, hg, rfl⟩ := hrel
    by_cases hlt : j < t.size
    · have hd : decide ((j : Int) < (t.size : Int)) = true := decide_eq_true (by omega)
      have hx := ix t j (by omega) (by omega)
      have hbr := bt_range t j
      have hst : t.size - j = (t.size - (j + 1)) + 1 := by omega
      rw [hst, sumGo, show ((t.size : Int) - ((t.size - (j + 1) + 1 : Nat) : Int)) = (j : Int) by omega] at hg
      have hu : IntKind.u64.wrap (bt t j) = bt t j := by simp [IntKind.wrap, IntKind.bits, IntKind.signed]; omega
      unfold sumStep at hg
      rw [hu] at hg
      go_wp2
      go_roundg (t.size - (j + 1) + 1)
      case measure => omega
      case rel => exact ⟨_, j + 1, rfl, by push_cast; rfl, by omega, rfl, hg, rfl⟩
    · have hd : decide ((j : Int) < (t.size : Int)) = false := decide_eq_false (by omega)
      go_wp2
      go_ret
      rw [show t.size - j = 0 by omega, sumGo] at hg
      exact ⟨by rw [hg]; rfl, hb2⟩
def ringworkref25_Sum.f (a0 : Int) (a1 : ByteArray) : Option Int := if a1.size ≤ 1000000 then some (sumF a0 a1) else none
theorem ringworkref25_Sum.calls (a0 : Int) (a1 : ByteArray) (r : Int) (w : World) (h : ringworkref25_Sum.f a0 a1 = some r) :
    Calls Try.prog 31 #[.int .u64 a0, .string a1] w fun e w' => e = .returned (.int .u64 r) ∧ Below w.heap.size w w' := by
  unfold ringworkref25_Sum.f at h
  split at h
  · rename_i hs
    obtain rfl := Option.some.inj h
    exact rSum_calls a0 a1 hs w
  · cases h
end Go.Proofs.Yteblpjnkinghoaa.J
/- Maps that a call makes and writes, as functions of their keys (whole numbers or strings): what a block that is a map holds, what a look-up, a store and a delete do to it. Over any program. -/
namespace Go.Proofs.YteblpjnkinghoaaW.Mw
open Go.RowKit Go.Proofs.YteblpjnkinghoaaW.PrintWords
/-- A kind of keys: how a key stands as a value. -/
structure Keys (P : Program) (t : TypeId) (κ : Type) [DecidableEq κ] where
  kind : TypeDesc
  enc : κ → Value
  here : P.underlying t = some kind
  now : ∀ a b, Instr.sameNow kind (enc a) (enc b) = some (decide (a = b))
  chk : ∀ e k w, (Instr.checkKey e 10000 t (enc k)).run P w = .ok () w
  bits : ∀ k, Instr.sameBits 10000 (enc k) (enc k) = true
theorem beq_bytes (a b : ByteArray) : (a == b) = decide (a = b) := by
  cases a with | mk a => cases b with | mk b =>
  show ByteArray.beq ⟨a⟩ ⟨b⟩ = _
  rw [Bool.eq_iff_iff]
  simp [ByteArray.beq]
theorem chk_int {P : Program} {t : TypeId} (h : P.underlying t = some (.int .i64)) (e : Bool) (k : Int) (w : World) (n : Nat) : (Instr.checkKey e (n + 1) t (.int .i64 k)).run P w = .ok () w := by
  unfold Instr.checkKey
  simp [run_underlying h]
theorem chk_str {P : Program} {t : TypeId} (h : P.underlying t = some .string) (e : Bool) (k : ByteArray) (w : World) (n : Nat) : (Instr.checkKey e (n + 1) t (.string k)).run P w = .ok () w := by
  unfold Instr.checkKey
  simp [run_underlying h]
def intKeys (P : Program) (t : TypeId) (h : P.underlying t = some (.int .i64)) : Keys P t Int where
  kind := .int .i64
  enc := .int .i64
  here := h
  now a b := by simp only [Instr.sameNow, if_true]; congr 1
  chk e k w := chk_int h e k w 9999
  bits k := by simp [Instr.sameBits]
def strKeys (P : Program) (t : TypeId) (h : P.underlying t = some .string) : Keys P t ByteArray where
  kind := .string
  enc := .string
  here := h
  now a b := by simp only [Instr.sameNow]; rw [beq_bytes]
  chk e k w := chk_str h e k w 9999
  bits k := by simp [Instr.sameBits, beq_bytes]
theorem key_inj {κ : Type} {l : List (κ × Value × Nat)} (hn : (l.map (·.1)).Nodup) {x y : κ × Value × Nat} (hx : x ∈ l) (hy : y ∈ l) (e : x.1 = y.1) : x = y := by
  induction l with
  | nil => cases hx
  | cons z l ih =>
    have hn' := List.nodup_cons.1 hn
    rcases List.mem_cons.1 hx with hx | hx <;> rcases List.mem_cons.1 hy with hy | hy
    · rw [hx, hy]
    · rw [hx] at e; exact absurd (List.mem_map.2 ⟨y, hy, e.symm⟩ : z.1 ∈ l.map (·.1)) hn'.1
    · rw [hy] at e; exact absurd (List.mem_map.2 ⟨x, hx, e⟩ : z.1 ∈ l.map (·.1)) hn'.1
    · exact ih hn'.2 hx hy
theorem stamp_inj {κ : Type} {l : List (κ × Value × Nat)} (hn : (l.map (·.2.2)).Nodup) {x y : κ × Value × Nat} (hx : x ∈ l) (hy : y ∈ l) (e : x.2.2 = y.2.2) : x = y := by
  induction l with
  | nil => cases hx
  | cons z l ih =>
    have hn' := List.nodup_cons.1 hn
    rcases List.mem_cons.1 hx with hx | hx <;> rcases List.mem_cons.1 hy with hy | hy
    · rw [hx, hy]
    · rw [hx] at e; exact absurd (List.mem_map.2 ⟨y, hy, e.symm⟩ : z.2.2 ∈ l.map (·.2.2)) hn'.1
    · rw [hy] at e; exact absurd (List.mem_map.2 ⟨x, hx, e⟩ : z.2.2 ∈ l.map (·.2.2)) hn'.1
    · exact ih hn'.2 hx hy
section
variable {P : Program} {t : TypeId} {κ : Type} [DecidableEq κ] (K : Keys P t κ)
abbrev Ent (κ : Type) := κ × Value × Nat
def ent (K : Keys P t κ) (x : Ent κ) : MapEntry := { key := K.enc x.1, val := x.2.1, born := x.2.2 }
def fnd (k : κ) : List (Ent κ) → Nat → Option (Nat × Value)
  | [], _ => none
  | x :: l, i => if x.1 = k then some (i, x.2.1) else fnd k l (i + 1)
def val (k : κ) (l : List (Ent κ)) : Option Value := (fnd k l 0).map (·.2)
theorem fnd_shift (k : κ) : ∀ (l : List (Ent κ)) (i : Nat), fnd k l i = (fnd k l 0).map fun p => (p.1 + i, p.2)
  | [], _ => rfl
  | x :: l, i => by
    unfold fnd
    split
    · simp
    · rw [fnd_shift k l (i + 1), fnd_shift k l (0 + 1)]
      cases fnd k l 0 <;> simp
      omega
theorem findNow_fnd (k : κ) : ∀ (l : List (Ent κ)) (i : Nat), Instr.findNow K.kind (K.enc k) (l.map (ent K)) i = some (fnd k l i)
  | [], _ => rfl
  | x :: l, i => by
    simp only [List.map_cons, Instr.findNow, fnd]
    rw [show (ent K x).key = K.enc x.1 from rfl, K.now]
    by_cases h : k = x.1
    · rw [decide_eq_true h, if_pos h.symm]; rfl
    · rw [decide_eq_false h, if_neg (Ne.symm h)]; exact findNow_fnd k l (i + 1)
theorem findKey_run (k : κ) (l : List (Ent κ)) (w : World) : (Instr.findKey t (K.enc k) (l.map (ent K))).run P w = .ok (fnd k l 0) w := by
  simp only [Instr.findKey]
  simp [run_underlying K.here, findNow_fnd K]
/-- What a block that is a map holds: to each key its element. -/
def Holds (w : World) (b : Nat) (F : κ → Option Value) : Prop := ∃ (l : List (Ent κ)) (c : Nat), w.heap[b]? = some (.map (l.map (ent K)).toArray c) ∧ (l.map (·.1)).Nodup ∧ (l.map (·.2.2)).Nodup ∧ (∀ x ∈ l, x.2.2 < c) ∧ ∀ k, val k l = F k
variable {K}
theorem Holds.lt {w : World} {b : Nat} {F : κ → Option Value} (h : Holds K w b F) : b < w.heap.size := by
  obtain ⟨l, c, hb, _⟩ := h
  exact (Array.getElem?_eq_some_iff.1 hb).1
theorem Holds.move {w w' : World} {b : Nat} {F : κ → Option Value} (h : Holds K w b F) (hm : w'.heap[b]? = w.heap[b]?) : Holds K w' b F := by
  obtain ⟨l, c, hb, r⟩ := h
  exact ⟨l, c, hm.trans hb, r⟩
theorem Holds.below {w w' : World} {b : Nat} {F : κ → Option Value} (h : Holds K w b F) (hb : Below w.heap.size w w') : Holds K w' b F := h.move (hb.block b h.lt)
theorem Holds.alloc {w : World} {b : Nat} {F : κ → Option Value} (h : Holds K w b F) (o : Obj) : Holds K (w.alloc o) b F := h.below ((Below.refl _ _).alloc (Nat.le_refl _) o)
theorem Holds.drewN {w : World} {b : Nat} {F : κ → Option Value} (h : Holds K w b F) (n : Nat) : Holds K (w.drewN n) b F := h
theorem Holds.drew {w : World} {b : Nat} {F : κ → Option Value} (h : Holds K w b F) : Holds K w.drew b F := h
theorem Holds.grown {w w' : World} {b : Nat} {F : κ → Option Value} {row : Option Nat} (h : Holds K w b F) (hg : w.grownBy w' row) (hne : some b ≠ row) : Holds K w' b F := h.move (hg.block b h.lt hne)
theorem Holds.set {w : World} {b : Nat} {F : κ → Option Value} {p : Addr} (h : Holds K w b F) (hne : b ≠ p.block) (u : Value) : Holds K (w.setCell p u) b F := h.move (Below.heap_setCell w p u b hne)
variable (K)
theorem Holds.made (w : World) : Holds K (w.alloc (.map #[] 0)) w.heap.size (fun _ => none) :=
  ⟨[], 0, by simpa using heap_alloc_new w (.map #[] 0), List.nodup_nil, List.nodup_nil, by simp, fun _ => rfl⟩
variable {K}
theorem Holds.congr {w : World} {b : Nat} {F G : κ → Option Value} (h : Holds K w b F) (e : ∀ k, F k = G k) : Holds K w b G := by
  obtain ⟨l, c, hb, hn, hs, hc, hv⟩ := h
  exact ⟨l, c, hb, hn, hs, hc, fun k => (hv k).trans (e k)⟩
/-- 'm[k]', 'v, ok := m[k]'. -/
theorem Holds.look {w : World} {b : Nat} {F : κ → Option Value} (h : Holds K w b F) {mt e : TypeId} (hm : P.underlying mt = some (.map t e)) {z : Value} (hz : ∀ w, (zeroValue e).run P w = .ok z w) (k : κ) :
    (Instr.lookup mt (.map (some b)) (K.enc k) false).run P w = .ok ((F k).getD z) w ∧
    (Instr.lookup mt (.map (some b)) (K.enc k) true).run P w = .ok (.tuple #[(F k).getD z, .bool (F k).isSome]) w := by
  obtain ⟨l, c, hb, hn, _, _, hv⟩ := h
  have hF := hv k
  unfold val at hF
  constructor
  all_goals
    simp only [Instr.lookup]
    cases hf : fnd k l 0 with
    | none =>
      rw [hf] at hF
      rw [← hF]
      simp [run_underlying hm, getObj, hb, Sem.run, K.chk, findKey_run K, hf, hz]
    | some p =>
      rw [hf] at hF
      rw [← hF]
      simp [run_underlying hm, getObj, hb, Sem.run, K.chk, findKey_run K, hf]
theorem fnd_none {k : κ} : ∀ {l : List (Ent κ)} {i : Nat}, fnd k l i = none → k ∉ l.map (·.1)
  | [], _, _ => by simp
  | x :: l, i, h => by
    unfold fnd at h
    split at h
    · cases h
    · rename_i hne
      simp only [List.map_cons, List.mem_cons, not_or]
      exact ⟨fun e => hne e.symm, fnd_none h⟩
theorem fnd_of_not_mem {k : κ} : ∀ {l : List (Ent κ)} {i : Nat}, k ∉ l.map (·.1) → fnd k l i = none
  | [], _, _ => rfl
  | x :: l, i, h => by
    simp only [List.map_cons, List.mem_cons, not_or] at h
    unfold fnd
    rw [if_neg (fun e => h.1 e.symm)]
    exact fnd_of_not_mem h.2
theorem fnd_some {k : κ} : ∀ {l : List (Ent κ)} {p : Nat × Value}, fnd k l 0 = some p → ∃ a x b, l = a ++ x :: b ∧ x.1 = k ∧ p = (a.length, x.2.1) ∧ k ∉ a.map (·.1)
  | [], _, h => by cases h
  | x :: l, p, h => by
    unfold fnd at h
    split at h
    · rename_i e
      cases h
      exact ⟨[], x, l, rfl, e, rfl, by simp⟩
    · rename_i hne
      rw [fnd_shift] at h
      obtain ⟨q, hq, rfl⟩ := Option.map_eq_some_iff.1 h
      obtain ⟨a, y, b, rfl, hy, rfl, hn⟩ := fnd_some hq
      refine ⟨x :: a, y, b, rfl, hy, rfl, ?_⟩
      simp only [List.map_cons, List.mem_cons, not_or]
      exact ⟨fun e => hne e.symm, hn⟩
theorem val_append {k : κ} {a b : List (Ent κ)} : val k (a ++ b) = (val k a).or (val k b) := by
  induction a with
  | nil => simp [val, fnd]
  | cons x a ih =>
    unfold val at *
    simp only [List.cons_append, fnd]
    by_cases h : x.1 = k
    · rw [if_pos h, if_pos h]; rfl
    · rw [if_neg h, if_neg h, fnd_shift, fnd_shift k a]
      cases h1 : fnd k (a ++ b) 0 <;> cases h2 : fnd k a 0 <;> rw [h1, h2] at ih <;> simp_all
theorem val_cons {k : κ} {x : Ent κ} {l : List (Ent κ)} : val k (x :: l) = if x.1 = k then some x.2.1 else val k l := by
  unfold val
  simp only [fnd]
  by_cases h : x.1 = k
  · rw [if_pos h, if_pos h]; rfl
  · rw [if_neg h, if_neg h, fnd_shift]; cases fnd k l 0 <;> rfl
theorem val_not_mem {k : κ} {l : List (Ent κ)} (h : k ∉ l.map (·.1)) : val k l = none := by unfold val; rw [fnd_of_not_mem h]; rfl
theorem modify_mid {α : Type} (f : α → α) (x : α) (d : List α) : ∀ a : List α, (a ++ x :: d).modify a.length f = a ++ f x :: d
  | [] => rfl
  | y :: a => by simpa using modify_mid f x d a
theorem at_ent {l a d : List (Ent κ)} {x : Ent κ} (hl : l = a ++ x :: d) : (l.map (ent K))[a.length]? = some (ent K x) := by subst hl; simp
/-- 'm[k] = v': some world in which the block holds so; nothing else has turned. -/
theorem Holds.put {w : World} {b : Nat} {F : κ → Option Value} (h : Holds K w b F) {mt e : TypeId} (hm : P.underlying mt = some (.map t e)) (k : κ) (v : Value) :
    ∃ w', (Instr.mapUpdate mt (.map (some b)) (K.enc k) v).run P w = .ok () w' ∧ Holds K w' b (fun q => if q = k then some v else F q) ∧ w.grownBy w' (some b) := by
  obtain ⟨l, c, hb, hn, hs, hc, hv⟩ := h
  have hgr : ∀ o, w.grownBy { w with heap := w.heap.setIfInBounds b o } (some b) := fun o => ⟨rfl, rfl, rfl, by simp, fun i hi hne => by
    rw [Array.getElem?_setIfInBounds_ne (fun e => hne (by rw [e]))]⟩
  have hlt := (Array.getElem?_eq_some_iff.1 hb).1
  cases hf : fnd k l 0 with
  | none =>
    have hk := fnd_none hf
    refine ⟨_, by
      simp only [Instr.mapUpdate]
      simp [run_underlying hm, getObj, setObj, hb, Sem.run, K.chk, findKey_run K, hf]
      rfl, ⟨l ++ [(k, v, c)], c + 1, by simp [hlt, ent], ?_, ?_, ?_, fun q => ?_⟩, hgr _⟩
    · rw [List.map_append, List.nodup_append]
      exact ⟨hn, by simp, fun a ha b hb e => by simp at hb; subst hb; subst e; exact hk ha⟩
    · rw [List.map_append, List.nodup_append]
      exact ⟨hs, by simp, fun a ha b hb e => by
        simp at hb; subst hb; subst e
        obtain ⟨x, hx, he⟩ := List.mem_map.1 ha
        have := hc x hx
        omega⟩
    · intro x hx
      rcases List.mem_append.1 hx with hx | hx
      · have := hc x hx; omega
      · simp at hx; subst hx; show c < c + 1; omega
    · show _ = if q = k then some v else F q
      rw [val_append, val_cons]
      by_cases hq : q = k
      · subst hq
        rw [val_not_mem hk]
        simp
      · rw [if_neg (fun e => hq e.symm), if_neg hq, ← hv]
        simp [val, fnd]
  | some p =>
    obtain ⟨a, x, d, hl, hx, rfl, ha⟩ := fnd_some hf
    have hat := at_ent (K := K) hl
    have hkey : (ent K x).key = K.enc k := by rw [← hx]; rfl
    refine ⟨_, by
      simp only [Instr.mapUpdate]
      simp [run_underlying hm, getObj, setObj, hb, Sem.run, K.chk, findKey_run K, hf, Instr.keyThatStays, -List.getElem?_map, hat, hkey, K.bits]
      rfl, ⟨a ++ (x.1, v, x.2.2) :: d, c, ?_, ?_, ?_, ?_, fun q => ?_⟩, hgr _⟩
    · simp only [Array.getElem?_setIfInBounds_self, hlt, if_true]
      congr 2
      subst hl
      have e : a.length = (a.map (ent K)).length := by simp
      simp only [List.map_append, List.map_cons, List.modify_toArray]
      rw [e, modify_mid]
      simp [ent, hx]
    · subst hl
      simpa [List.map_append] using hn
    · subst hl
      simpa [List.map_append] using hs
    · subst hl
      intro y hy
      rcases List.mem_append.1 hy with hy | hy
      · exact hc y (List.mem_append_left _ hy)
      · rcases List.mem_cons.1 hy with rfl | hy
        · exact hc x (by simp)
        · exact hc y (by simp [hy])
    · show _ = if q = k then some v else F q
      rw [← hv, hl, val_append, val_append, val_cons, val_cons]
      by_cases hq : q = k
      · subst hq
        rw [if_pos hx, val_not_mem ha]
        simp
      · rw [if_neg hq, if_neg (fun e => hq (e.symm.trans hx)), if_neg (fun e => hq (e.symm.trans hx))]
/-- 'delete(m, k)'. -/
theorem Holds.drop {w : World} {b : Nat} {F : κ → Option Value} (h : Holds K w b F) {mt e ft kt2 : TypeId} (hm : P.underlying mt = some (.map t e)) (k : κ) :
    ∃ w', (Builtin.delete_ #[mt, kt2] ft #[.map (some b), K.enc k]).run P w = .ok (.tuple #[]) w' ∧ Holds K w' b (fun q => if q = k then none else F q) ∧ w.grownBy w' (some b) := by
  obtain ⟨l, c, hb, hn, hs, hc, hv⟩ := h
  have hgr : ∀ o, w.grownBy { w with heap := w.heap.setIfInBounds b o } (some b) := fun o => ⟨rfl, rfl, rfl, by simp, fun i hi hne => by
    rw [Array.getElem?_setIfInBounds_ne (fun e => hne (by rw [e]))]⟩
  have hlt := (Array.getElem?_eq_some_iff.1 hb).1
  cases hf : fnd k l 0 with
  | none =>
    have hk := fnd_none hf
    refine ⟨_, by
      simp only [Builtin.delete_]
      simp [run_underlying hm, getObj, setObj, hb, Sem.run, K.chk, findKey_run K, hf]
      rfl, ⟨l, c, by simp [hlt], hn, hs, hc, fun q => ?_⟩, hgr _⟩
    show _ = if q = k then none else F q
    by_cases hq : q = k
    · subst hq; rw [if_pos rfl, val_not_mem hk]
    · rw [if_neg hq, hv]
  | some p =>
    obtain ⟨a, x, d, hl, hx, rfl, ha⟩ := fnd_some hf
    refine ⟨_, by
      simp only [Builtin.delete_]
      simp [run_underlying hm, getObj, setObj, hb, Sem.run, K.chk, findKey_run K, hf]
      rfl, ⟨a ++ d, c, ?_, ?_, ?_, ?_, fun q => ?_⟩, hgr _⟩
    · simp only [Array.getElem?_setIfInBounds_self, hlt, if_true]
      congr 2
      subst hl
      simp [List.eraseIdx_append_of_length_le]
    · subst hl
      rw [List.map_append, List.map_cons, List.nodup_append] at hn
      rw [List.map_append, List.nodup_append]
      exact ⟨hn.1, (List.nodup_cons.1 hn.2.1).2, fun y hy z hz => hn.2.2 y hy z (List.mem_cons_of_mem _ hz)⟩
    · subst hl
      rw [List.map_append, List.map_cons, List.nodup_append] at hs
      rw [List.map_append, List.nodup_append]
      exact ⟨hs.1, (List.nodup_cons.1 hs.2.1).2, fun y hy z hz => hs.2.2 y hy z (List.mem_cons_of_mem _ hz)⟩
    · subst hl
      intro y hy
      rcases List.mem_append.1 hy with hy | hy
      · exact hc y (by simp [hy])
      · exact hc y (by simp [hy])
    · have hd : k ∉ d.map (·.1) := by
        subst hl
        rw [List.map_append, List.map_cons, List.nodup_append] at hn
        exact fun h => (List.nodup_cons.1 hn.2.1).1 (hx ▸ h)
      show _ = if q = k then none else F q
      by_cases hq : q = k
      · subst hq
        rw [if_pos rfl, val_append, val_not_mem ha, val_not_mem hd]; rfl
      · rw [if_neg hq, ← hv, hl, val_append, val_append, val_cons, if_neg (fun e => hq (e.symm.trans hx))]
/-! ### 'for k := range m' over a map that the loop does not write -/
variable (K)
/-- Block r is an iterator over the map in block b: which keys are still to come, and how many. -/
def Ranging (w : World) (r b : Nat) (F : κ → Option Value) (left : κ → Bool) (n : Nat) : Prop :=
  r ≠ b ∧ ∃ (l : List (Ent κ)) (c : Nat) (seen : Array Nat), w.heap[b]? = some (.map (l.map (ent K)).toArray c) ∧ (l.map (·.1)).Nodup ∧ (l.map (·.2.2)).Nodup ∧ (∀ x ∈ l, x.2.2 < c) ∧ (∀ k, val k l = F k) ∧
    w.heap[r]? = some (.mapIter (some b) c seen c) ∧ (leftOf (l.map (ent K)).toArray seen).size = n ∧ (∀ x ∈ l, left x.1 = !seen.contains x.2.2) ∧ (∀ k, left k = true → k ∈ l.map (·.1))
theorem val_mem {l : List (Ent κ)} (hn : (l.map (·.1)).Nodup) {x : Ent κ} (hx : x ∈ l) : val x.1 l = some x.2.1 := by
  induction l with
  | nil => cases hx
  | cons y l ih =>
    rw [val_cons]
    have hn' := List.nodup_cons.1 hn
    rcases List.mem_cons.1 hx with rfl | hx
    · rw [if_pos rfl]
    · rw [if_neg (fun e => hn'.1 (List.mem_map.2 ⟨x, hx, e.symm⟩))]
      exact ih hn'.2 hx
theorem val_some_mem {l : List (Ent κ)} {k : κ} (h : (val k l).isSome = true) : k ∈ l.map (·.1) := by
  by_cases hk : k ∈ l.map (·.1)
  · exact hk
  · rw [val_not_mem hk] at h; cases h
theorem ent_born (l : List (Ent κ)) : ((l.map (ent K)).map (·.born)) = l.map (·.2.2) := by rw [List.map_map]; rfl
variable {K}
theorem Ranging.holds {w : World} {r b n : Nat} {F : κ → Option Value} {left : κ → Bool} (h : Ranging K w r b F left n) : Holds K w b F := by
  obtain ⟨_, l, c, _, hb, hn, hs, hc, hv, _⟩ := h
  exact ⟨l, c, hb, hn, hs, hc, hv⟩
theorem Ranging.move {w w' : World} {r b n : Nat} {F : κ → Option Value} {left : κ → Bool} (h : Ranging K w r b F left n) (hb' : w'.heap[b]? = w.heap[b]?) (hr' : w'.heap[r]? = w.heap[r]?) : Ranging K w' r b F left n := by
  obtain ⟨hne, l, c, seen, hb, hn, hs, hc, hv, hr, rest⟩ := h
  exact ⟨hne, l, c, seen, hb'.trans hb, hn, hs, hc, hv, hr'.trans hr, rest⟩
theorem Ranging.lt {w : World} {r b n : Nat} {F : κ → Option Value} {left : κ → Bool} (h : Ranging K w r b F left n) : r < w.heap.size := by
  obtain ⟨_, l, c, seen, hb, hn, hs, hc, hv, hr, rest⟩ := h
  exact (Array.getElem?_eq_some_iff.1 hr).1
theorem Ranging.grown {w w' : World} {r b n : Nat} {F : κ → Option Value} {left : κ → Bool} {row : Option Nat} (h : Ranging K w r b F left n) (hg : w.grownBy w' row) (hb : some b ≠ row) (hr : some r ≠ row) : Ranging K w' r b F left n :=
  h.move (hg.block b h.holds.lt hb) (hg.block r h.lt hr)
theorem Holds.range {w : World} {b : Nat} {F : κ → Option Value} (h : Holds K w b F) {mt e : TypeId} (hm : P.underlying mt = some (.map t e)) :
    ∃ n, (Instr.range mt (.map (some b))).run P w = .ok (.pointer (some ⟨w.heap.size, 0, none⟩)) (w.alloc (.mapIter (some b) (((w.heap[b]?).map fun o => match o with | .map _ c => c | _ => 0).getD 0) #[] (((w.heap[b]?).map fun o => match o with | .map _ c => c | _ => 0).getD 0))) ∧
      Ranging K (w.alloc (.mapIter (some b) (((w.heap[b]?).map fun o => match o with | .map _ c => c | _ => 0).getD 0) #[] (((w.heap[b]?).map fun o => match o with | .map _ c => c | _ => 0).getD 0))) w.heap.size b F (fun k => (F k).isSome) n := by
  have hlt := h.lt
  obtain ⟨l, c, hb, hn, hs, hc, hv⟩ := h
  rw [hb]
  refine ⟨_, run_range_map w mt t e b _ c hm hb, by omega, l, c, #[], ?_, hn, hs, hc, hv, heap_alloc_new _ _, rfl, fun x hx => ?_, fun k hk => ?_⟩
  · rw [heap_alloc_old _ _ hlt, hb]
  · show (F x.1).isSome = _; rw [← hv, val_mem hn hx]; simp
  · change (F k).isSome = true at hk; rw [← hv] at hk; exact val_some_mem hk
theorem Ranging.next {w : World} {r b n : Nat} {F : κ → Option Value} {left : κ → Bool} (h : Ranging K w r b F left n) (ty : TypeId) :
    ((∀ k, left k = false) ∧ (Instr.next (.pointer (some ⟨r, 0, none⟩)) false ty).run P w = .ok (.tuple #[.bool false]) w) ∨
    ∃ (k : κ) (v : Value) (m : Nat) (w' : World), n = m + 1 ∧ left k = true ∧ F k = some v ∧ (Instr.next (.pointer (some ⟨r, 0, none⟩)) false ty).run P w = .ok (.tuple #[.bool true, K.enc k, v]) w' ∧
      (Instr.entry (.pointer (some ⟨r, 0, none⟩))).run P w' = .ok (.tuple #[K.enc k, v]) w' ∧ Ranging K w' r b F (fun q => left q && !decide (q = k)) m ∧ w.grownBy w' (some r) := by
  have hrlt := h.lt
  obtain ⟨hne, l, c, seen, hb, hn, hs, hc, hv, hr, hsz, hl, hk⟩ := h
  have hold : ∀ x ∈ (l.map (ent K)).toArray.toList, x.born < c := fun x hx => by
    obtain ⟨y, hy, rfl⟩ := List.mem_map.1 (show x ∈ l.map (ent K) from hx)
    exact hc y hy
  rcases run_next_at (P := P) w ty r b c c seen _ c hr hb hold (Nat.le_refl _) with ⟨h0, hrun⟩ | ⟨e, he, w1, hw1, hrun⟩
  · refine .inl ⟨fun k => ?_, hrun⟩
    cases hkk : left k with
    | false => rfl
    | true =>
      obtain ⟨x, hx, rfl⟩ := List.mem_map.1 (hk k hkk)
      have := all_seen _ _ h0 (ent K x) (show ent K x ∈ l.map (ent K) from List.mem_map.2 ⟨x, hx, rfl⟩)
      rw [hl x hx] at hkk
      rw [show seen.contains x.2.2 = true from this] at hkk
      cases hkk
  · right
    obtain ⟨hm, hns⟩ := mem_left he
    obtain ⟨x, hx, rfl⟩ := List.mem_map.1 (show e ∈ l.map (ent K) from hm)
    have hns' : seen.contains x.2.2 = false := hns
    have hlt := left_shrinks _ _ _ he
    have hsh : (leftOf (l.map (ent K)).toArray (seen.push x.2.2)).size + 1 = (leftOf (l.map (ent K)).toArray seen).size := by
      have hu : ∀ (q : List (Ent κ)), (q.map (·.2.2)).Nodup → x ∈ q → ((q.map (ent K)).filter fun e => !(seen.push x.2.2).contains e.born).length + 1 = ((q.map (ent K)).filter fun e => !seen.contains e.born).length := by
        intro q
        induction q with
        | nil => intro _ h; cases h
        | cons y q ih =>
          intro hnd hxq
          have hnd' := List.nodup_cons.1 hnd
          rcases List.mem_cons.1 hxq with rfl | hxq
          · have hrest : ((q.map (ent K)).filter fun e => !(seen.push x.2.2).contains e.born) = (q.map (ent K)).filter fun e => !seen.contains e.born := by
              apply List.filter_congr
              intro e he
              obtain ⟨z, hz, rfl⟩ := List.mem_map.1 he
              rw [contains_push]
              have : ((ent K z).born == x.2.2) = false := beq_eq_false_iff_ne.2 (fun e => hnd'.1 (List.mem_map.2 ⟨z, hz, e⟩))
              rw [this, Bool.or_false]
            rw [List.map_cons, List.filter_cons, List.filter_cons, hrest, contains_push]
            rw [show ((ent K x).born == x.2.2) = true from beq_self_eq_true _, show seen.contains (ent K x).born = false from hns']
            simp
          · have hne : ((ent K y).born == x.2.2) = false := beq_eq_false_iff_ne.2 (fun e => hnd'.1 (List.mem_map.2 ⟨x, hxq, e.symm⟩))
            have := ih hnd'.2 hxq
            rw [List.map_cons, List.filter_cons, List.filter_cons, contains_push, hne, Bool.or_false]
            split
            · simp only [List.length_cons]; omega
            · exact this
      have := hu l hs hx
      simpa [leftOf] using this
    have hb1 : w1.heap[b]? = w.heap[b]? := by rcases hw1 with rfl | rfl <;> rfl
    have hr1 : r < w1.heap.size := by rcases hw1 with rfl | rfl <;> exact hrlt
    have hbs : ∀ o, (ChangeMaps.setBlock w1 r o).heap[b]? = w.heap[b]? := fun o => by
      rw [← hb1]; exact Array.getElem?_setIfInBounds_ne hne
    have hrs : ∀ o, (ChangeMaps.setBlock w1 r o).heap[r]? = some o := fun o => by
      show (w1.heap.setIfInBounds r o)[r]? = _
      rw [Array.getElem?_setIfInBounds_self, if_pos hr1]
    refine ⟨x.1, x.2.1, (leftOf (l.map (ent K)).toArray (seen.push x.2.2)).size, _, by rw [hsh, hsz], by rw [hl x hx, hns']; rfl, by rw [← hv, val_mem hn hx], hrun, ?_, ?_, ?_⟩
    · exact run_entry_at _ r b c seen _ c (ent K x) (hrs _) ((hbs _).trans hb) (show ent K x ∈ l.map (ent K) from List.mem_map.2 ⟨x, hx, rfl⟩) (show ((l.map (ent K)).map (·.born)).Nodup by rw [ent_born]; exact hs)
    · refine ⟨hne, l, c, seen.push x.2.2, (hbs _).trans hb, hn, hs, hc, hv, hrs _, rfl, fun y hy => ?_, fun k hkk => hk k (by simp at hkk; exact hkk.1)⟩
      show (left y.1 && !decide (y.1 = x.1)) = _
      rw [contains_push, hl y hy, Bool.not_or]
      congr 1
      congr 1
      rw [Bool.eq_iff_iff]
      simp only [decide_eq_true_eq, beq_iff_eq]
      exact ⟨fun e => by rw [key_inj hn hy hx e], fun e => by rw [stamp_inj hs hy hx e]⟩
    · rcases hw1 with rfl | rfl
      · exact ⟨rfl, rfl, rfl, by simp [ChangeMaps.setBlock], fun i hi hne => Array.getElem?_setIfInBounds_ne (fun e => hne (by rw [e]))⟩
      · exact ⟨rfl, rfl, rfl, by show w.heap.size ≤ (w.heap.setIfInBounds _ _).size; simp, fun i hi hne => Array.getElem?_setIfInBounds_ne (fun e => hne (by rw [e]))⟩
/-- The store of a statement of several stores ('m[k], .. = v, ..'): first the entry, then its element. -/
theorem Holds.entry {w : World} {b : Nat} {F : κ → Option Value} (h : Holds K w b F) {mt e : TypeId} (hm : P.underlying mt = some (.map t e)) {z : Value} (hz : ∀ w, (zeroValue e).run P w = .ok z w) (k : κ) :
    ∃ (st : Nat) (w1 : World), (Instr.mapEntry mt (.map (some b)) (K.enc k)).run P w = .ok (.tuple #[(F k).getD z, goInt st]) w1 ∧ w.grownBy w1 (some b) ∧
      ∀ v, ∃ w3, (Instr.entryStore mt (.map (some b)) (goInt st) v).run P w1 = .ok () w3 ∧ Holds K w3 b (fun q => if q = k then some v else F q) ∧ w.grownBy w3 (some b) := by
  obtain ⟨l, c, hb, hn, hs, hc, hv⟩ := h
  have hlt := (Array.getElem?_eq_some_iff.1 hb).1
  have hgr : ∀ o, w.grownBy { w with heap := w.heap.setIfInBounds b o } (some b) := fun o => ⟨rfl, rfl, rfl, by simp, fun i hi hne => by
    rw [Array.getElem?_setIfInBounds_ne (fun e => hne (by rw [e]))]⟩
  have hF := hv k
  unfold val at hF
  cases hf : fnd k l 0 with
  | none =>
    rw [hf] at hF
    have hk := fnd_none hf
    refine ⟨c, { w with heap := w.heap.setIfInBounds b (.map ((l ++ [(k, z, c)]).map (ent K)).toArray (c + 1)) }, by
      simp only [Instr.mapEntry]
      simp [run_underlying hm, getObj, setObj, hb, Sem.run, K.chk, findKey_run K, hf, hz, ← hF, ent], hgr _, fun v => ?_⟩
    have hnd : ((l ++ [(k, z, c)]).map (·.2.2)).Nodup := by
      rw [List.map_append, List.nodup_append]
      exact ⟨hs, by simp, fun a ha b hb e => by
        simp at hb; subst hb; subst e
        obtain ⟨x, hx, he⟩ := List.mem_map.1 ha
        have := hc x hx
        omega⟩
    have hix : ((l ++ [(k, z, c)]).map (ent K)).toArray.findIdx? (fun e => ((e.born : Nat) : Int) == ((c : Nat) : Int)) = some l.length := by
      rw [WideElems.findIdx_arr]
      exact WideElems.findIdx_born (l := (l ++ [(k, z, c)]).map (ent K)) (j := l.length) (e0 := ent K (k, z, c)) (by rw [ent_born]; exact hnd) (by simp)
    have hmd : ((l ++ [(k, z, c)]).map (ent K)).toArray.modify l.length (fun e => { e with val := v }) = ((l ++ [(k, v, c)]).map (ent K)).toArray := by
      rw [List.modify_toArray, List.map_append, List.map_append]
      have e : l.length = (l.map (ent K)).length := by simp
      rw [e]
      congr 1
      exact WideElems.modify_last _ _ _
    have hw1 : (w.heap.setIfInBounds b (.map ((l ++ [(k, z, c)]).map (ent K)).toArray (c + 1)))[b]? = some (.map ((l ++ [(k, z, c)]).map (ent K)).toArray (c + 1)) := by
      rw [Array.getElem?_setIfInBounds_self, if_pos hlt]
    generalize hL : ((l ++ [(k, z, c)]).map (ent K)).toArray = L at hix hmd hw1
    refine ⟨{ w with heap := w.heap.setIfInBounds b (.map ((l ++ [(k, v, c)]).map (ent K)).toArray (c + 1)) }, by
      simp only [Instr.entryStore]
      simp [getObj, setObj, hw1, Sem.run, asInt, asIntOf, goInt, hix, hmd], ⟨l ++ [(k, v, c)], c + 1, ?_, ?_, ?_, ?_, fun q => ?_⟩, hgr _⟩
    · show (w.heap.setIfInBounds b _)[b]? = _
      rw [Array.getElem?_setIfInBounds_self, if_pos hlt]
    · rw [List.map_append, List.nodup_append]
      exact ⟨hn, by simp, fun a ha b hb e => by simp at hb; subst hb; subst e; exact hk ha⟩
    · simpa using hnd
    · intro x hx
      rcases List.mem_append.1 hx with hx | hx
      · have := hc x hx; omega
      · simp at hx; subst hx; show c < c + 1; omega
    · show _ = if q = k then some v else F q
      rw [val_append, val_cons]
      by_cases hq : q = k
      · subst hq
        rw [val_not_mem hk]
        simp
      · rw [if_neg (fun e => hq e.symm), if_neg hq, ← hv]
        simp [val, fnd]
  | some p =>
    rw [hf] at hF
    obtain ⟨a, x, d, hl, hx, rfl, ha⟩ := fnd_some hf
    have hat := at_ent (K := K) hl
    have hkey : (ent K x).key = K.enc k := by rw [← hx]; rfl
    have hsame : (l.map (ent K)).modify a.length (fun e => { e with key := K.enc k }) = l.map (ent K) := by
      subst hl
      have e : a.length = (a.map (ent K)).length := by simp
      rw [List.map_append, List.map_cons, e, modify_mid, ← hkey]
    refine ⟨x.2.2, { w with heap := w.heap.setIfInBounds b (.map (l.map (ent K)).toArray c) }, by
      simp only [Instr.mapEntry]
      simp [run_underlying hm, getObj, setObj, hb, Sem.run, K.chk, findKey_run K, hf, Instr.keyThatStays, -List.getElem?_map, hat, hkey, K.bits, ← hF]
      exact ⟨rfl, by rw [hsame]⟩, hgr _, fun v => ?_⟩
    have hix : (l.map (ent K)).toArray.findIdx? (fun e => ((e.born : Nat) : Int) == ((x.2.2 : Nat) : Int)) = some a.length := by
      rw [WideElems.findIdx_arr]
      exact WideElems.findIdx_born (l := l.map (ent K)) (j := a.length) (e0 := ent K x) (by rw [ent_born]; exact hs) hat
    have hmd : (l.map (ent K)).toArray.modify a.length (fun e => { e with val := v }) = ((a ++ (x.1, v, x.2.2) :: d).map (ent K)).toArray := by
      rw [List.modify_toArray]
      congr 1
      subst hl
      have e : a.length = (a.map (ent K)).length := by simp
      rw [List.map_append, List.map_cons, e, modify_mid, List.map_append, List.map_cons]
      rfl
    have hw1 : (w.heap.setIfInBounds b (.map (l.map (ent K)).toArray c))[b]? = some (.map (l.map (ent K)).toArray c) := by
      rw [Array.getElem?_setIfInBounds_self, if_pos hlt]
    generalize hL : (l.map (ent K)).toArray = L at hix hmd hw1
    refine ⟨{ w with heap := w.heap.setIfInBounds b (.map ((a ++ (x.1, v, x.2.2) :: d).map (ent K)).toArray c) }, by
      simp only [Instr.entryStore]
      simp [getObj, setObj, hw1, Sem.run, asInt, asIntOf, goInt, hix, hmd], ⟨a ++ (x.1, v, x.2.2) :: d, c, ?_, ?_, ?_, ?_, fun q => ?_⟩, hgr _⟩
    · show (w.heap.setIfInBounds b _)[b]? = _
      rw [Array.getElem?_setIfInBounds_self, if_pos hlt]
    · subst hl
      simpa [List.map_append] using hn
    · subst hl
      simpa [List.map_append] using hs
    · subst hl
      intro y hy
      rcases List.mem_append.1 hy with hy | hy
      · exact hc y (List.mem_append_left _ hy)
      · rcases List.mem_cons.1 hy with rfl | hy
        · exact hc x (by simp)
        · exact hc y (by simp [hy])
    · show _ = if q = k then some v else F q
      rw [← hv, hl, val_append, val_append, val_cons, val_cons]
      by_cases hq : q = k
      · subst hq
        rw [if_pos hx, val_not_mem ha]
        simp
      · rw [if_neg hq, if_neg (fun e => hq (e.symm.trans hx)), if_neg (fun e => hq (e.symm.trans hx))]
/-! ### At the operation, for the walk -/
section
variable {ops : Array Oper} {rest : List Oper} {o : Oper} {a : Act} {Q : Exit → Act → World → Prop} {w : World}
theorem wl_look {b : Nat} {F : κ → Option Value} (hw : Region.wanted o (yielded ops a.tmps) = true) (m x : Operand) (mt : TypeId) (hop : o.op = Op.lookup mt m x false)
    {e : TypeId} (hm : P.underlying mt = some (.map t e)) {z : Value} (hz : ∀ w, (zeroValue e).run P w = .ok z w) (h : Holds K w b F) (k : κ) (hme : a.eval m = .map (some b)) (hxe : a.eval x = K.enc k)
    (hK : wpList P ops Q rest (a.put o.dst ((F k).getD z)) w) : wpList P ops Q (o :: rest) a w := by
  refine wpList_step fun K' hK' => ?_
  rw [if_pos hw]
  unfold Oper.wp
  simp [execOp, hop, hme, hxe, (h.look hm hz k).1, Result.andThen]
  exact hK' _ _ hK
theorem wl_look2 {b : Nat} {F : κ → Option Value} (hw : Region.wanted o (yielded ops a.tmps) = true) (m x : Operand) (mt : TypeId) (hop : o.op = Op.lookup mt m x true)
    {e : TypeId} (hm : P.underlying mt = some (.map t e)) {z : Value} (hz : ∀ w, (zeroValue e).run P w = .ok z w) (h : Holds K w b F) (k : κ) (hme : a.eval m = .map (some b)) (hxe : a.eval x = K.enc k)
    (hK : wpList P ops Q rest (a.put o.dst (.tuple #[(F k).getD z, .bool (F k).isSome])) w) : wpList P ops Q (o :: rest) a w := by
  refine wpList_step fun K' hK' => ?_
  rw [if_pos hw]
  unfold Oper.wp
  simp [execOp, hop, hme, hxe, (h.look hm hz k).2, Result.andThen]
  exact hK' _ _ hK
theorem wl_put {b : Nat} {F : κ → Option Value} (hw : Region.wanted o (yielded ops a.tmps) = true) (m x y : Operand) (mt : TypeId) (hop : o.op = Op.mapUpdate mt m x y)
    {e : TypeId} (hm : P.underlying mt = some (.map t e)) (h : Holds K w b F) (k : κ) (v : Value) (hme : a.eval m = .map (some b)) (hxe : a.eval x = K.enc k) (hve : a.eval y = v)
    (hK : ∀ w', Holds K w' b (fun q => if q = k then some v else F q) → w.grownBy w' (some b) → wpList P ops Q rest (a.put o.dst undef) w') : wpList P ops Q (o :: rest) a w := by
  refine wpList_step fun K' hK' => ?_
  rw [if_pos hw]
  obtain ⟨w', hr, h1, h2⟩ := h.put hm k v
  unfold Oper.wp
  simp [execOp, hop, hme, hxe, hve, hr, Result.andThen]
  exact hK' _ _ (hK w' h1 h2)
theorem wl_drop {b : Nat} {F : κ → Option Value} (hw : Region.wanted o (yielded ops a.tmps) = true) (m x : Operand) (mt kt2 : TypeId) (hop : o.op = .call { callee := .builtin .delete, args := #[m, x], argTypes := #[mt, kt2] })
    {e : TypeId} (hm : P.underlying mt = some (.map t e)) (h : Holds K w b F) (k : κ) (hme : a.eval m = .map (some b)) (hxe : a.eval x = K.enc k)
    (hK : ∀ w', Holds K w' b (fun q => if q = k then none else F q) → w.grownBy w' (some b) → wpList P ops Q rest (a.put o.dst (.tuple #[])) w') : wpList P ops Q (o :: rest) a w := by
  refine wpList_step fun K' hK' => ?_
  rw [if_pos hw]
  obtain ⟨w', hr, h1, h2⟩ := h.drop (ft := o.type) (kt2 := kt2) hm k
  unfold Oper.wp execOp
  simp only [hop, resolve, invoke, builtin, Sem.run_bind, Sem.run_pure, Result.andThen_ok, List.map_toArray, List.map_cons, List.map_nil, hme, hxe, hr]
  exact hK' _ _ (hK w' h1 h2)
theorem wl_range {b : Nat} {F : κ → Option Value} (hw : Region.wanted o (yielded ops a.tmps) = true) (m : Operand) (mt : TypeId) (hop : o.op = Op.range mt m)
    {e : TypeId} (hm : P.underlying mt = some (.map t e)) (h : Holds K w b F) (hme : a.eval m = .map (some b))
    (hK : ∀ w' n, Ranging K w' w.heap.size b F (fun k => (F k).isSome) n → (∀ base, base ≤ w.heap.size → Below base w w') → wpList P ops Q rest (a.put o.dst (.pointer (some ⟨w.heap.size, 0, none⟩))) w') : wpList P ops Q (o :: rest) a w := by
  refine wpList_step fun K' hK' => ?_
  rw [if_pos hw]
  obtain ⟨n, hr, hg⟩ := h.range hm
  unfold Oper.wp
  simp [execOp, hop, hme, hr, Result.andThen]
  exact hK' _ _ (hK _ _ hg (fun base hb => (Below.refl base w).alloc hb _))
end
end
end Go.Proofs.YteblpjnkinghoaaW.Mw
/- The contract of the reference's applied, for every two slices of images. -/
namespace Go.Proofs.Yteblpjnkinghoaa.J
open Go.BigFrame Go.RowKit Go.Proofs.YteblpjnkinghoaaW.PrintWords Go.Proofs.YteblpjnkinghoaaW.PrintLast Go.Proofs.YteblpjnkinghoaaW.PrintMore
/-- Whether a key stands before another. -/
def kless (a b : ByteArray) : Bool := Op.bytesLess a.toList b.toList
/-- What stands behind an image's place, without one of its key. -/
def apRest (x : S41) : List S41 → List S41
  | [] => []
  | y :: r => if y.f0 = x.f0 then r else y :: r
/-- One image done to a state. -/
def apStep (cur : List S41) (x : S41) : List S41 :=
  cur.takeWhile (fun y => kless y.f0 x.f0) ++ (if x.f1 = true then [x] else []) ++ apRest x (cur.dropWhile (fun y => kless y.f0 x.f0))
theorem R_lit0 (W : World) (base : Nat) (ok : Nat → Prop) (hb : base ≤ W.heap.size) (hk : ok W.heap.size) : Kd.R k41 41 (W.alloc (.cells #[] 41)) base ok (.slice (some ⟨W.heap.size, 0, none⟩) 0 0) [] :=
  ⟨fun k h => by cases h; exact hk, [], World.ownsRow_lit (base := base) (e := 41) (size := 3) W #[] 0 hb (by decide) rfl, Reps.none _ _⟩
theorem R_C41 {e w base} {ok : Nat → Prop} {A : Option Addr} {n c : Nat} {xs : List S41} (h : Kd.R k41 e w base ok (.slice A n c) xs) : Kd.C k41 w A xs.length xs ∧ n = xs.length ∧ xs.length ≤ c := by
  obtain ⟨A', c', he, hl, hc⟩ := Kd.R_reads h
  injection he with h1 h2 h3
  subst h1; subst h2; subst h3
  exact ⟨hc, rfl, hl⟩
theorem k41_KM {w : World} (w' : World) (base : Nat) (ok : Nat → Prop) (x : S41) (cs : List Value) (h : k41.K w x cs) : k41.M w' base ok x cs := by
  rw [k41_open h]; exact k41_mkM _ _ _ x
theorem tw_take (p : S41 → Bool) (l : List S41) : l.take (l.takeWhile p).length = l.takeWhile p := by
  induction l with
  | nil => rfl
  | cons a l ih =>
    rw [List.takeWhile_cons]
    split
    · simp [ih]
    · rfl
theorem tw_drop (p : S41 → Bool) (l : List S41) : l.drop (l.takeWhile p).length = l.dropWhile p := by
  induction l with
  | nil => rfl
  | cons a l ih =>
    rw [List.takeWhile_cons, List.dropWhile_cons]
    split
    · simp [ih]
    · rfl
theorem tw_at (p : S41 → Bool) : ∀ (l : List S41) (k : Nat), k < (l.takeWhile p).length → p (rd_T41 l (k : Int)) = true
  | [], k, h => by simp at h
  | a :: l, k, h => by
    rw [List.takeWhile_cons] at h
    by_cases hp : p a = true
    · rw [if_pos hp] at h
      cases k with
      | zero => exact hp
      | succ k =>
        have := tw_at p l k (by simpa using h)
        have e : rd_T41 (a :: l) ((k + 1 : Nat) : Int) = rd_T41 l (k : Int) := by unfold rd_T41; rw [Int.toNat_natCast, Int.toNat_natCast]; rfl
        rw [e]; exact this
    · rw [if_neg hp] at h; simp at h
theorem tw_end (p : S41 → Bool) : ∀ (l : List S41), (l.takeWhile p).length < l.length → p (rd_T41 l ((l.takeWhile p).length : Int)) = false
  | [], h => by simp at h
  | a :: l, h => by
    rw [List.takeWhile_cons] at h ⊢
    by_cases hp : p a = true
    · rw [if_pos hp] at h ⊢
      have := tw_end p l (by simpa using h)
      have e : rd_T41 (a :: l) (((a :: l.takeWhile p).length : Nat) : Int) = rd_T41 l ((l.takeWhile p).length : Int) := by unfold rd_T41; rw [Int.toNat_natCast, Int.toNat_natCast]; rfl
      rw [e]; exact this
    · rw [if_neg hp]
      exact Bool.eq_false_iff.2 hp
theorem tw_le (p : S41 → Bool) (l : List S41) : (l.takeWhile p).length ≤ l.length := by
  induction l with
  | nil => simp
  | cons a l ih => rw [List.takeWhile_cons]; split <;> simp; exact ih
theorem apStep_le (cur : List S41) (x : S41) : (apStep cur x).length ≤ cur.length + 1 := by
  unfold apStep
  have h1 := congrArg List.length (List.takeWhile_append_dropWhile (p := fun y => kless y.f0 x.f0) (l := cur))
  rw [List.length_append] at h1
  rw [List.length_append, List.length_append]
  have h2 : (if x.f1 = true then [x] else []).length ≤ 1 := by split <;> simp
  have h3 : (apRest x (cur.dropWhile (fun y => kless y.f0 x.f0))).length ≤ (cur.dropWhile (fun y => kless y.f0 x.f0)).length := by
    cases cur.dropWhile (fun y => kless y.f0 x.f0) with
    | nil => exact Nat.le_refl _
    | cons y r => show (if y.f0 = x.f0 then r else y :: r).length ≤ (y :: r).length; split <;> simp
  omega
end Go.Proofs.Yteblpjnkinghoaa.J
/- Rows of images as the cells of one block: what stores, copies, appends and clears do to them. -/
namespace Go.Proofs.Yteblpjnkinghoaa.J
open Go.BigFrame Go.RowKit Go.Proofs.YteblpjnkinghoaaW.PrintWords Go.Proofs.YteblpjnkinghoaaW.PrintLast Go.Proofs.YteblpjnkinghoaaW.PrintMore
/-- An image's three cells. -/
def cells3 (x : S41) : List Value := [.string x.f0, .bool x.f1, .string x.f2]
def flat (l : List S41) : List Value := l.flatMap cells3
theorem flat_cons (x : S41) (l : List S41) : flat (x :: l) = cells3 x ++ flat l := rfl
theorem flat_append (a b : List S41) : flat (a ++ b) = flat a ++ flat b := by simp [flat]
theorem flat_length (l : List S41) : (flat l).length = l.length * 3 := by
  induction l with
  | nil => rfl
  | cons x l ih => rw [flat_cons, List.length_append, ih]; simp [cells3]; omega
theorem flat_one (l : List S41) : ∀ u ∈ flat l, u.oneCell' = true := by
  intro u hu
  obtain ⟨x, _, hx⟩ := List.mem_flatMap.1 hu
  simp [cells3] at hx
  rcases hx with rfl | rfl | rfl <;> rfl
theorem flat_take (l : List S41) (k : Nat) : (flat l).take (k * 3) = flat (l.take k) := by
  induction l generalizing k with
  | nil => simp [flat]
  | cons x l ih =>
    cases k with
    | zero => simp [flat]
    | succ k =>
      rw [flat_cons, List.take_succ_cons, flat_cons, ← ih k, show (k + 1) * 3 = k * 3 + 1 + 1 + 1 by omega]
      simp [cells3]
theorem flat_drop (l : List S41) (k : Nat) : (flat l).drop (k * 3) = flat (l.drop k) := by
  induction l generalizing k with
  | nil => simp [flat]
  | cons x l ih =>
    cases k with
    | zero => simp
    | succ k =>
      rw [flat_cons, List.drop_succ_cons, ← ih k, show (k + 1) * 3 = k * 3 + 1 + 1 + 1 by omega]
      simp [cells3]
/-- An own row's cells: its images, then what is spare. -/
def Im (w : World) (g cap : Nat) (cs : List Value) : Prop := w.heap[g]? = some (.cells cs.toArray 41) ∧ cs.length = cap * 3 ∧ cap ≤ maxLen
theorem reps_flat {w : World} {base : Nat} {ok : Nat → Prop} : ∀ (xs : List S41) (inner : List Value), Reps (k41.M w base ok) 3 xs inner → inner = flat xs
  | [], inner, h => List.eq_nil_of_length_eq_zero (by simpa using h.1)
  | x :: xs, inner, h => by
    have h0 := h.2 0 x rfl
    have hd := Kd.reps_drop (m := 1) h
    have e := reps_flat xs _ (by simpa using hd)
    rw [flat_cons, ← e]
    have e0 := k41_openM h0
    simp at e0
    unfold cells3
    rw [← e0, List.take_append_drop]
theorem flat_reps {w : World} {base : Nat} {ok : Nat → Prop} : ∀ (xs : List S41), Reps (k41.M w base ok) 3 xs (flat xs) := fun xs =>
  ⟨flat_length xs, fun j p hj => by
    rw [flat_drop, show (3 : Nat) = 1 * 3 from rfl, flat_take]
    have : (xs.drop j).take 1 = [p] := by
      obtain ⟨hlt, rfl⟩ := List.getElem?_eq_some_iff.1 hj
      rw [List.drop_eq_getElem_cons hlt]; rfl
    rw [this]
    exact k41_mkM _ _ _ p⟩
theorem R_im {w : World} {base : Nat} {ok : Nat → Prop} {v : Value} {xs : List S41} (h : Kd.R k41 41 w base ok v xs) :
    (xs = [] ∧ v = .slice none 0 0) ∨ ∃ g cap rest, v = .slice (some ⟨g, 0, none⟩) xs.length cap ∧ ok g ∧ base ≤ g ∧ xs.length ≤ cap ∧ Im w g cap (flat xs ++ rest) := by
  obtain ⟨h0, inner, ho, hr⟩ := h
  have hin := reps_flat xs inner hr
  subst hin
  rcases ho.2 with ⟨rfl, hn⟩ | ⟨g, cap, cur, rfl, hb, hh, hnc, hcm, hcs, ht⟩
  · exact .inl ⟨List.eq_nil_of_length_eq_zero hn, rfl⟩
  · refine .inr ⟨g, cap, cur.toList.drop (xs.length * 3), rfl, h0 g rfl, hb, hnc, ?_, ?_, hcm⟩
    · have ht' : cur.toList.take (xs.length * 3) = flat xs := ht
      rw [← ht', List.take_append_drop]; exact hh
    · have ht' : cur.toList.take (xs.length * 3) = flat xs := ht
      rw [← ht', List.take_append_drop, Array.length_toList]; exact hcs
theorem im_R {w : World} {base : Nat} {ok : Nat → Prop} {xs : List S41} {g cap : Nat} {rest : List Value} (h : Im w g cap (flat xs ++ rest)) (hl : xs.length ≤ cap) (hb : base ≤ g) (hg : ok g) :
    Kd.R k41 41 w base ok (.slice (some ⟨g, 0, none⟩) xs.length cap) xs := by
  refine ⟨fun k hk => by cases hk; exact hg, flat xs, ⟨flat_length xs, .inr ⟨g, cap, (flat xs ++ rest).toArray, rfl, hb, h.1, hl, h.2.2, ?_, ?_⟩⟩, flat_reps xs⟩
  · rw [List.size_toArray]; exact h.2.1
  · show (flat xs ++ rest).take (xs.length * 3) = flat xs
    rw [← flat_length, List.take_left]
namespace Im
variable {w w' : World} {g cap : Nat} {cs : List Value}
theorem lt (h : Im w g cap cs) : g < w.heap.size := (Array.getElem?_eq_some_iff.1 h.1).1
theorem cell (h : Im w g cap cs) (j : Nat) (v : Value) (hj : cs[j]? = some v) : w.cell? ⟨g, j, none⟩ = some v := by
  unfold World.cell?
  simp [h.1, hj]
theorem below (h : Im w g cap cs) (hb : Below w.heap.size w w') : Im w' g cap cs := ⟨(hb.block g h.lt).trans h.1, h.2⟩
theorem move (h : Im w g cap cs) (hb : w'.heap[g]? = w.heap[g]?) : Im w' g cap cs := ⟨hb.trans h.1, h.2⟩
theorem frozen (h : Im w g cap cs) (o : Nat) : w.frozen? ⟨g, o, none⟩ = false := by
  unfold World.frozen?
  simp [h.1]
theorem shape (h : Im w g cap cs) : w.shape? g = some (41, cap * 3) := by
  unfold World.shape?
  simp [h.1, h.2.1]
end Im
/-- What a row holds after a stretch of its cells was written. -/
def spliced (cs : List Value) (o : Nat) (vs : List Value) : List Value := cs.take o ++ vs ++ cs.drop (o + vs.length)
theorem spliced_length (cs : List Value) (o : Nat) (vs : List Value) (h : o + vs.length ≤ cs.length) : (spliced cs o vs).length = cs.length := by
  unfold spliced; simp; omega
theorem Im.put {w : World} {g cap : Nat} {cs : List Value} (h : Im w g cap cs) (o : Nat) (vs : List Value) (hf : o + vs.length ≤ cs.length) : Im (w.setRow g (spliced cs o vs).toArray) g cap (spliced cs o vs) :=
  ⟨setRow_heap w g _ _ 41 (0, 0) h.1, by rw [spliced_length _ _ _ hf]; exact h.2.1, h.2.2⟩
theorem below_row {B g : Nat} {w0 w : World} (hb : Below B w0 w) (hBg : B ≤ g) (cs : Array Value) : Below B w0 (w.setRow g cs) := below_setRow hb hBg cs
theorem info41z : (Try.prog.info? 41).map (·.size) = some 3 := by
  obtain ⟨i0, hi, _, hz, _⟩ := info_parts info41
  rw [hi]; simp; exact hz
/-- copy(d, s). -/
theorem run_copy41 {w : World} {g cap : Nat} {cs : List Value} (h : Im w g cap cs) (ty : TypeId) (o dLen dCap : Nat) (a : Addr) (sLen sCap : Nat) (vs : List Value) (hn : vs.length = Nat.min sLen dLen * 3)
    (hsrc : ∀ j v, vs[j]? = some v → w.cell? (a.add j) = some v) (hfit : o + vs.length ≤ cs.length) (h1 : ∀ v ∈ vs, v.oneCell' = true) :
    (Builtin.copy_ #[22, 22] ty #[.slice (some ⟨g, o, none⟩) dLen dCap, .slice (some a) sLen sCap]).run Try.prog w = .ok (goInt (Nat.min sLen dLen)) (w.setRow g (spliced cs o vs).toArray) := by
  have hl := run_loadCells_list (P := Try.prog) w a vs hsrc
  have hst := run_storeCells_at Try.prog g o 41 vs 0 cs.toArray w h.1 (by simpa using hfit) h1
  have hi := info41z
  cases hq : Try.prog.info? 41 with
  | none => simp [hq] at hi
  | some i =>
    have hz : i.size = 3 := by simpa [hq] using hi
    rw [hn] at hl
    simp only [Builtin.copy_]
    simp [run_underlying Try.underlying22, Builtin.lenOf, Builtin.firstCells, sizeOf, typeInfo, hq, hz, hl, hst, spliced]
theorem info41p : ∃ i, Try.prog.info? 41 = some i ∧ i.size = 3 ∧ i.zero = some (.agg #[(.string ⟨#[]⟩), (.bool false), (.string ⟨#[]⟩)]) ∧ i.bytes = 40 := by
  obtain ⟨i0, hi, h0, hz, hb⟩ := info_parts info41
  exact ⟨i0, hi, hz, h0, hb⟩
theorem zeroCells3_length (n : Nat) : (Builtin.zeroCells (Value.agg #[(.string ⟨#[]⟩), (.bool false), (.string ⟨#[]⟩)]).cells n).size = n * 3 := by
  rw [size_zeroCells]; rfl
/-- append(s, make([]T, n)...) where there is no room. -/
theorem run_append41_zeros {w : World} {g cap : Nat} {cs : List Value} (h : Im w g cap cs) (ty : TypeId) (sLen n : Nat) (hs : sLen ≤ cap) (hg : cap < sLen + n) (h63 : sLen + n ≤ 2000000) :
    (Builtin.append_ #[22, 3] ty #[.slice (some ⟨g, 0, none⟩) sLen cap, .int .i64 n]).run Try.prog w =
      .ok (.slice (some ⟨w.heap.size, 0, none⟩) (sLen + n) (grownCap w (sLen + n) cap 41))
        (w.drew.alloc (.cells ((cs.take (sLen * 3)).toArray ++ Builtin.zeroCells (Value.agg #[(.string ⟨#[]⟩), (.bool false), (.string ⟨#[]⟩)]).cells n ++ Builtin.zeroCells (Value.agg #[(.string ⟨#[]⟩), (.bool false), (.string ⟨#[]⟩)]).cells (grownCap w (sLen + n) cap 41 - (sLen + n))) 41)) := by
  obtain ⟨i, hi, hz, h0, hb⟩ := info41p
  have hn : ¬ (sLen + n ≤ cap) := by omega
  have hn0 : n ≠ 0 := by omega
  have hw : IntKind.i64.wrap (n : Int) = n := by rw [IntKind.wrap_i64]; omega
  have h63' : ¬ (9223372036854775807 < ((sLen : Int) + (n : Int))) := by omega
  have hneg : ¬ ((n : Int) < 0) := by omega
  have h48i : ¬ (281474976710656 < (n : Int) * 40) := by omega
  have hfit : Builtin.nextslicecap (sLen + n) cap * 40 ≤ 281474976710656 := growslice_fits hg (by omega)
  have h48' : ¬ (281474976710656 < Builtin.nextslicecap (sLen + n) cap * 40) := by omega
  have hlo : (cs.take (sLen * 3)).length = sLen * i.size := by rw [List.length_take, h.2.1, hz]; exact Nat.min_eq_left (Nat.mul_le_mul_right _ hs)
  have hfo := run_firstCells_some (P := Try.prog) w.drew i.size sLen ⟨g, 0, none⟩ sLen cap (cs.take (sLen * 3)) hlo (fun j v hj => by
    rw [List.getElem?_take] at hj
    split at hj
    · have := h.cell j v hj
      simpa [Addr.add_lit] using this
    · cases hj)
  rw [hz] at hfo
  have hn3 : ¬ n * 3 = 0 := by omega
  simp [Builtin.append_, run_underlying Try.underlying22, run_underlying Try.underlying3, sizeOf, typeInfo, zeroValue, hi, hz, h0, hb, asInt, asIntOf, hw, hn0, hneg, hn, h63', h48', h48i, Question.forced, hfo, hn3, newRow, grownCap]
/-- clear(s). -/
theorem run_clear41 {w : World} {g cap : Nat} {cs : List Value} (h : Im w g cap cs) (ty : TypeId) (o n c : Nat) (hn : 0 < n) (hf : o + n * 3 ≤ cs.length) :
    (Builtin.clear_ #[22] ty #[.slice (some ⟨g, o, none⟩) n c]).run Try.prog w = .ok (.tuple #[]) (w.setRow g (spliced cs o (Builtin.zeroCells (Value.agg #[(.string ⟨#[]⟩), (.bool false), (.string ⟨#[]⟩)]).cells n).toList).toArray) := by
  obtain ⟨i, hi, hz, h0, hb⟩ := info41p
  have hst := run_storeCells_at Try.prog g o 41 (Builtin.zeroCells (Value.agg #[(.string ⟨#[]⟩), (.bool false), (.string ⟨#[]⟩)]).cells n).toList 0 cs.toArray w h.1 (by rw [Array.length_toList, zeroCells3_length]; simpa using hf) (fun v hv => by
    simp [Builtin.zeroCells, Value.cells] at hv
    obtain ⟨j, hj, rfl⟩ := hv
    have : j % 3 = 0 ∨ j % 3 = 1 ∨ j % 3 = 2 := by omega
    rcases this with e | e | e <;> simp [e] <;> rfl)
  obtain ⟨m, rfl⟩ : ∃ m, n = m + 1 := ⟨n - 1, by omega⟩
  simp [Builtin.clear_, run_underlying Try.underlying22, zeroValue, typeInfo, hi, h0, hst, spliced]
end Go.Proofs.Yteblpjnkinghoaa.J
